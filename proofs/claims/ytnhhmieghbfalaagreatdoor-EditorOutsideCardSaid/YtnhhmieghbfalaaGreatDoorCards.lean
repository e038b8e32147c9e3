/-
  DERIVED. GIVEN WITH THE SEED: THE CARDS: each row of YtnhhmieghbfalaaGreatDoorRows.lean that lists a variable, with what it lists TIED to the program's text (the seventh form; the later family's looks); each row that meets fmt, with fmt's text TOLD by the authors' own Lean function (tested against real Go, not proved from fmt's source: count such statements apart). THE CARD IS WHAT COUNTS. Prove the row's statement (the work); the ties are given (YtnhhmieghbfalaaGreatDoorTie.lean); close each card by the builder's one call (the guide's Derived/Test/ToyasCard.lean, 'card_holds'). Laid BY PROGRAM, IN A SANDBOX (cutbox-door.mjs). By AI agents, Wed Nov 11 2026. No macro, syntax, notation, axiom, sorry.
-/
import Derived.Test.YtnhhmieghbfalaaGreatDoorRows
import GoSem.ClaimSeven
namespace Go.Proofs.YtnhhmieghbfalaaGreatDoor
namespace Rows

/-- THE TIED CARD OF 'lanyardlaw17.EditorOutside'. -/
def editorOutsideCard : Claim7 := { stood := { row := editorOutsideRow, standIns := [], harness := (true, "2106355149d3e0371f0252ddc12ebbaba3f3885a09c3834a594b34c50b2d931a"), looks := false }, kinds := [], alts := [], laidByText := true, laidKinds := [.data, .pinned], laidTests := true, laidLooks := .later }
def EditorOutsideCardSaid : Prop := Claim7.holds Tryz.pinned (.plain (OpenSpec.ofChange editorOutsideSpec)) editorOutsideCard

/-- THE SECOND FORM's CARD OF 'lanyardlaw17.EditorOutside'. -/
def editorOutsideUptoCard : Claim7 := { stood := { row := editorOutsideUptoRow, standIns := [], harness := (true, "2106355149d3e0371f0252ddc12ebbaba3f3885a09c3834a594b34c50b2d931a"), looks := false }, kinds := [], alts := [], laidByText := true, laidKinds := [.data, .pinned], laidTests := true, laidLooks := .later }
def EditorOutsideUptoCardSaid : Prop := Claim7.holds Tryz.pinned (.plain (OpenSpec.upto editorOutsideSpec)) editorOutsideUptoCard
end Rows
end Go.Proofs.YtnhhmieghbfalaaGreatDoor
