/-
  DERIVED. GIVEN WITH THE SEED: THE CARDS: each row of YtimndnfpcomhlaaGreatDoorRows.lean that lists a variable, with what it lists TIED to the program's text (the seventh form; the later family's looks); each row that meets fmt, with fmt's text TOLD by the authors' own Lean function (tested against real Go, not proved from fmt's source: count such statements apart). THE CARD IS WHAT COUNTS. Prove the row's statement (the work); the ties are given (YtimndnfpcomhlaaGreatDoorTie.lean); close each card by the builder's one call (the guide's Derived/Test/ToyasCard.lean, 'card_holds'). Laid BY PROGRAM, IN A SANDBOX (cutbox-door.mjs). By AI agents, Wed Nov 11 2026. No macro, syntax, notation, axiom, sorry.
-/
import Derived.Test.YtimndnfpcomhlaaGreatDoorRows
import GoSem.ClaimSeven
namespace Go.Proofs.YtimndnfpcomhlaaGreatDoor
namespace Rows

/-- THE TIED CARD OF 'lanyardlaw17.EditorRefused'. -/
def editorRefusedCard : Claim7 := { stood := { row := editorRefusedRow, standIns := [], harness := (true, "d63d39ac9632b35c6586dbedab4b8a2737849513813477d4caab08bf9c1a4566"), looks := false }, kinds := [], alts := [], laidByText := true, laidKinds := [.data, .pinned], laidTests := true, laidLooks := .later }
def EditorRefusedCardSaid : Prop := Claim7.holds Tryz.pinned (.plain (OpenSpec.ofChange editorRefusedSpec)) editorRefusedCard

/-- THE SECOND FORM's CARD OF 'lanyardlaw17.EditorRefused'. -/
def editorRefusedUptoCard : Claim7 := { stood := { row := editorRefusedUptoRow, standIns := [], harness := (true, "d63d39ac9632b35c6586dbedab4b8a2737849513813477d4caab08bf9c1a4566"), looks := false }, kinds := [], alts := [], laidByText := true, laidKinds := [.data, .pinned], laidTests := true, laidLooks := .later }
def EditorRefusedUptoCardSaid : Prop := Claim7.holds Tryz.pinned (.plain (OpenSpec.upto editorRefusedSpec)) editorRefusedUptoCard
end Rows
end Go.Proofs.YtimndnfpcomhlaaGreatDoor
