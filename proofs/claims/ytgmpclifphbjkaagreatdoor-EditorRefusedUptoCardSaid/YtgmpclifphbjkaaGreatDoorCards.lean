/-
  DERIVED. GIVEN WITH THE SEED: THE CARDS: each row of YtgmpclifphbjkaaGreatDoorRows.lean that lists a variable, with what it lists TIED to the program's text (the seventh form; the later family's looks); each row that meets fmt, with fmt's text TOLD by the authors' own Lean function (tested against real Go, not proved from fmt's source: count such statements apart). THE CARD IS WHAT COUNTS. Prove the row's statement (the work); the ties are given (YtgmpclifphbjkaaGreatDoorTie.lean); close each card by the builder's one call (the guide's Derived/Test/ToyasCard.lean, 'card_holds'). Laid BY PROGRAM, IN A SANDBOX (cutbox-door.mjs). By AI agents, Wed Nov 11 2026. No macro, syntax, notation, axiom, sorry.
-/
import Derived.Test.YtgmpclifphbjkaaGreatDoorRows
import GoSem.ClaimSeven
namespace Go.Proofs.YtgmpclifphbjkaaGreatDoor
namespace Rows

/-- THE TIED CARD OF 'lanyardlaw17.EditorUndoes'. -/
def editorUndoesCard : Claim7 := { stood := { row := editorUndoesRow, standIns := [], harness := (true, "e57ec22d5011dd699b23356e973d0f3726ab5e1591670ca2b34591d57076bf6d"), looks := false }, kinds := [], alts := [], laidByText := true, laidKinds := [.data, .pinned], laidTests := true, laidLooks := .later }
def EditorUndoesCardSaid : Prop := Claim7.holds Tryz.pinned (.plain (OpenSpec.ofChange editorUndoesSpec)) editorUndoesCard

/-- THE TIED CARD OF 'lanyardlaw17.EditorRefused'. -/
def editorRefusedCard : Claim7 := { stood := { row := editorRefusedRow, standIns := [], harness := (true, "e57ec22d5011dd699b23356e973d0f3726ab5e1591670ca2b34591d57076bf6d"), looks := false }, kinds := [], alts := [], laidByText := true, laidKinds := [.data, .pinned], laidTests := true, laidLooks := .later }
def EditorRefusedCardSaid : Prop := Claim7.holds Tryz.pinned (.plain (OpenSpec.ofChange editorRefusedSpec)) editorRefusedCard

/-- THE TIED CARD OF 'lanyardlaw17.EditorNone'. -/
def editorNoneCard : Claim7 := { stood := { row := editorNoneRow, standIns := [], harness := (true, "e57ec22d5011dd699b23356e973d0f3726ab5e1591670ca2b34591d57076bf6d"), looks := false }, kinds := [], alts := [], laidByText := true, laidKinds := [.data, .pinned], laidTests := true, laidLooks := .later }
def EditorNoneCardSaid : Prop := Claim7.holds Tryz.pinned (.plain (OpenSpec.ofChange editorNoneSpec)) editorNoneCard

/-- THE TIED CARD OF 'lanyardlaw17.EditorOutside'. -/
def editorOutsideCard : Claim7 := { stood := { row := editorOutsideRow, standIns := [], harness := (true, "e57ec22d5011dd699b23356e973d0f3726ab5e1591670ca2b34591d57076bf6d"), looks := false }, kinds := [], alts := [], laidByText := true, laidKinds := [.data, .pinned], laidTests := true, laidLooks := .later }
def EditorOutsideCardSaid : Prop := Claim7.holds Tryz.pinned (.plain (OpenSpec.ofChange editorOutsideSpec)) editorOutsideCard

/-- THE SECOND FORM's CARD OF 'lanyardlaw17.EditorUndoes'. -/
def editorUndoesUptoCard : Claim7 := { stood := { row := editorUndoesUptoRow, standIns := [], harness := (true, "e57ec22d5011dd699b23356e973d0f3726ab5e1591670ca2b34591d57076bf6d"), looks := false }, kinds := [], alts := [], laidByText := true, laidKinds := [.data, .pinned], laidTests := true, laidLooks := .later }
def EditorUndoesUptoCardSaid : Prop := Claim7.holds Tryz.pinned (.plain (OpenSpec.upto editorUndoesSpec)) editorUndoesUptoCard

/-- THE SECOND FORM's CARD OF 'lanyardlaw17.EditorRefused'. -/
def editorRefusedUptoCard : Claim7 := { stood := { row := editorRefusedUptoRow, standIns := [], harness := (true, "e57ec22d5011dd699b23356e973d0f3726ab5e1591670ca2b34591d57076bf6d"), looks := false }, kinds := [], alts := [], laidByText := true, laidKinds := [.data, .pinned], laidTests := true, laidLooks := .later }
def EditorRefusedUptoCardSaid : Prop := Claim7.holds Tryz.pinned (.plain (OpenSpec.upto editorRefusedSpec)) editorRefusedUptoCard

/-- THE SECOND FORM's CARD OF 'lanyardlaw17.EditorNone'. -/
def editorNoneUptoCard : Claim7 := { stood := { row := editorNoneUptoRow, standIns := [], harness := (true, "e57ec22d5011dd699b23356e973d0f3726ab5e1591670ca2b34591d57076bf6d"), looks := false }, kinds := [], alts := [], laidByText := true, laidKinds := [.data, .pinned], laidTests := true, laidLooks := .later }
def EditorNoneUptoCardSaid : Prop := Claim7.holds Tryz.pinned (.plain (OpenSpec.upto editorNoneSpec)) editorNoneUptoCard

/-- THE SECOND FORM's CARD OF 'lanyardlaw17.EditorOutside'. -/
def editorOutsideUptoCard : Claim7 := { stood := { row := editorOutsideUptoRow, standIns := [], harness := (true, "e57ec22d5011dd699b23356e973d0f3726ab5e1591670ca2b34591d57076bf6d"), looks := false }, kinds := [], alts := [], laidByText := true, laidKinds := [.data, .pinned], laidTests := true, laidLooks := .later }
def EditorOutsideUptoCardSaid : Prop := Claim7.holds Tryz.pinned (.plain (OpenSpec.upto editorOutsideSpec)) editorOutsideUptoCard
end Rows
end Go.Proofs.YtgmpclifphbjkaaGreatDoor
