/-
  DERIVED. GIVEN WITH THE SEED: THE CARDS: each row of YtgndbccogcofjaaGreatDoorRows.lean that lists a variable, with what it lists TIED to the program's text (the seventh form; the later family's looks); each row that meets fmt, with fmt's text TOLD by the authors' own Lean function (tested against real Go, not proved from fmt's source: count such statements apart). THE CARD IS WHAT COUNTS. Prove the row's statement (the work); the ties are given (YtgndbccogcofjaaGreatDoorTie.lean); close each card by the builder's one call (the guide's Derived/Test/ToyasCard.lean, 'card_holds'). Laid BY PROGRAM, IN A SANDBOX (cutbox-door.mjs). By AI agents, Wed Nov 11 2026. No macro, syntax, notation, axiom, sorry.
-/
import Derived.Test.YtgndbccogcofjaaGreatDoorRows
import GoSem.ClaimSeven
namespace Go.Proofs.YtgndbccogcofjaaGreatDoor
namespace Rows

/-- THE TIED CARD OF 'lanyardlaw18.EmacsNone'. -/
def emacsNoneCard : Claim7 := { stood := { row := emacsNoneRow, standIns := [], harness := (true, "3a649fd05a10beb239464f5874ead30cfcefe355d9a30c23777230efe21a8554"), looks := false }, kinds := [], alts := [], laidByText := true, laidKinds := [.data, .widerDeep, .widerDeep, .pinned], laidTests := true, laidLooks := .later }
def EmacsNoneCardSaid : Prop := Claim7.holds Tryz.pinned (.plain (OpenSpec.ofChange emacsNoneSpec)) emacsNoneCard

/-- THE TIED CARD OF 'lanyardlaw18.EmacsNames'. -/
def emacsNamesCard : Claim7 := { stood := { row := emacsNamesRow, standIns := [], harness := (true, "3a649fd05a10beb239464f5874ead30cfcefe355d9a30c23777230efe21a8554"), looks := false }, kinds := [], alts := [], laidByText := true, laidKinds := [.data, .widerDeep, .widerDeep, .pinned], laidTests := true, laidLooks := .later }
def EmacsNamesCardSaid : Prop := Claim7.holds Tryz.pinned (.plain (OpenSpec.ofChange emacsNamesSpec)) emacsNamesCard

/-- THE TIED CARD OF 'lanyardlaw18.EmacsRefuses'. -/
def emacsRefusesCard : Claim7 := { stood := { row := emacsRefusesRow, standIns := [], harness := (true, "3a649fd05a10beb239464f5874ead30cfcefe355d9a30c23777230efe21a8554"), looks := false }, kinds := [], alts := [], laidByText := true, laidKinds := [.data, .widerDeep, .widerDeep, .pinned], laidTests := true, laidLooks := .later }
def EmacsRefusesCardSaid : Prop := Claim7.holds Tryz.pinned (.plain (OpenSpec.ofChange emacsRefusesSpec)) emacsRefusesCard

/-- THE TIED CARD OF 'lanyardlaw18.EmacsBack'. -/
def emacsBackCard : Claim7 := { stood := { row := emacsBackRow, standIns := [], harness := (true, "3a649fd05a10beb239464f5874ead30cfcefe355d9a30c23777230efe21a8554"), looks := false }, kinds := [], alts := [], laidByText := true, laidKinds := [.data, .widerDeep, .widerDeep, .pinned], laidTests := true, laidLooks := .later }
def EmacsBackCardSaid : Prop := Claim7.holds Tryz.pinned (.plain (OpenSpec.ofChange emacsBackSpec)) emacsBackCard

/-- THE TIED CARD OF 'lanyardlaw18.EmacsKillsAll'. -/
def emacsKillsAllCard : Claim7 := { stood := { row := emacsKillsAllRow, standIns := [], harness := (true, "3a649fd05a10beb239464f5874ead30cfcefe355d9a30c23777230efe21a8554"), looks := false }, kinds := [], alts := [], laidByText := true, laidKinds := [.data, .widerDeep, .widerDeep, .pinned], laidTests := true, laidLooks := .later }
def EmacsKillsAllCardSaid : Prop := Claim7.holds Tryz.pinned (.plain (OpenSpec.ofChange emacsKillsAllSpec)) emacsKillsAllCard

/-- THE TIED CARD OF 'lanyardlaw18.EmacsYanksAll'. -/
def emacsYanksAllCard : Claim7 := { stood := { row := emacsYanksAllRow, standIns := [], harness := (true, "3a649fd05a10beb239464f5874ead30cfcefe355d9a30c23777230efe21a8554"), looks := false }, kinds := [], alts := [], laidByText := true, laidKinds := [.data, .widerDeep, .widerDeep, .pinned], laidTests := true, laidLooks := .later }
def EmacsYanksAllCardSaid : Prop := Claim7.holds Tryz.pinned (.plain (OpenSpec.ofChange emacsYanksAllSpec)) emacsYanksAllCard

/-- THE TIED CARD OF 'lanyardlaw18.EmacsUndoes'. -/
def emacsUndoesCard : Claim7 := { stood := { row := emacsUndoesRow, standIns := [], harness := (true, "3a649fd05a10beb239464f5874ead30cfcefe355d9a30c23777230efe21a8554"), looks := false }, kinds := [], alts := [], laidByText := true, laidKinds := [.data, .widerDeep, .widerDeep, .pinned], laidTests := true, laidLooks := .later }
def EmacsUndoesCardSaid : Prop := Claim7.holds Tryz.pinned (.plain (OpenSpec.ofChange emacsUndoesSpec)) emacsUndoesCard

/-- THE SECOND FORM's CARD OF 'lanyardlaw18.EmacsNone'. -/
def emacsNoneUptoCard : Claim7 := { stood := { row := emacsNoneUptoRow, standIns := [], harness := (true, "3a649fd05a10beb239464f5874ead30cfcefe355d9a30c23777230efe21a8554"), looks := false }, kinds := [], alts := [], laidByText := true, laidKinds := [.data, .widerDeep, .widerDeep, .pinned], laidTests := true, laidLooks := .later }
def EmacsNoneUptoCardSaid : Prop := Claim7.holds Tryz.pinned (.plain (OpenSpec.upto emacsNoneSpec)) emacsNoneUptoCard

/-- THE SECOND FORM's CARD OF 'lanyardlaw18.EmacsNames'. -/
def emacsNamesUptoCard : Claim7 := { stood := { row := emacsNamesUptoRow, standIns := [], harness := (true, "3a649fd05a10beb239464f5874ead30cfcefe355d9a30c23777230efe21a8554"), looks := false }, kinds := [], alts := [], laidByText := true, laidKinds := [.data, .widerDeep, .widerDeep, .pinned], laidTests := true, laidLooks := .later }
def EmacsNamesUptoCardSaid : Prop := Claim7.holds Tryz.pinned (.plain (OpenSpec.upto emacsNamesSpec)) emacsNamesUptoCard

/-- THE SECOND FORM's CARD OF 'lanyardlaw18.EmacsRefuses'. -/
def emacsRefusesUptoCard : Claim7 := { stood := { row := emacsRefusesUptoRow, standIns := [], harness := (true, "3a649fd05a10beb239464f5874ead30cfcefe355d9a30c23777230efe21a8554"), looks := false }, kinds := [], alts := [], laidByText := true, laidKinds := [.data, .widerDeep, .widerDeep, .pinned], laidTests := true, laidLooks := .later }
def EmacsRefusesUptoCardSaid : Prop := Claim7.holds Tryz.pinned (.plain (OpenSpec.upto emacsRefusesSpec)) emacsRefusesUptoCard

/-- THE SECOND FORM's CARD OF 'lanyardlaw18.EmacsBack'. -/
def emacsBackUptoCard : Claim7 := { stood := { row := emacsBackUptoRow, standIns := [], harness := (true, "3a649fd05a10beb239464f5874ead30cfcefe355d9a30c23777230efe21a8554"), looks := false }, kinds := [], alts := [], laidByText := true, laidKinds := [.data, .widerDeep, .widerDeep, .pinned], laidTests := true, laidLooks := .later }
def EmacsBackUptoCardSaid : Prop := Claim7.holds Tryz.pinned (.plain (OpenSpec.upto emacsBackSpec)) emacsBackUptoCard

/-- THE SECOND FORM's CARD OF 'lanyardlaw18.EmacsKillsAll'. -/
def emacsKillsAllUptoCard : Claim7 := { stood := { row := emacsKillsAllUptoRow, standIns := [], harness := (true, "3a649fd05a10beb239464f5874ead30cfcefe355d9a30c23777230efe21a8554"), looks := false }, kinds := [], alts := [], laidByText := true, laidKinds := [.data, .widerDeep, .widerDeep, .pinned], laidTests := true, laidLooks := .later }
def EmacsKillsAllUptoCardSaid : Prop := Claim7.holds Tryz.pinned (.plain (OpenSpec.upto emacsKillsAllSpec)) emacsKillsAllUptoCard

/-- THE SECOND FORM's CARD OF 'lanyardlaw18.EmacsYanksAll'. -/
def emacsYanksAllUptoCard : Claim7 := { stood := { row := emacsYanksAllUptoRow, standIns := [], harness := (true, "3a649fd05a10beb239464f5874ead30cfcefe355d9a30c23777230efe21a8554"), looks := false }, kinds := [], alts := [], laidByText := true, laidKinds := [.data, .widerDeep, .widerDeep, .pinned], laidTests := true, laidLooks := .later }
def EmacsYanksAllUptoCardSaid : Prop := Claim7.holds Tryz.pinned (.plain (OpenSpec.upto emacsYanksAllSpec)) emacsYanksAllUptoCard

/-- THE SECOND FORM's CARD OF 'lanyardlaw18.EmacsUndoes'. -/
def emacsUndoesUptoCard : Claim7 := { stood := { row := emacsUndoesUptoRow, standIns := [], harness := (true, "3a649fd05a10beb239464f5874ead30cfcefe355d9a30c23777230efe21a8554"), looks := false }, kinds := [], alts := [], laidByText := true, laidKinds := [.data, .widerDeep, .widerDeep, .pinned], laidTests := true, laidLooks := .later }
def EmacsUndoesUptoCardSaid : Prop := Claim7.holds Tryz.pinned (.plain (OpenSpec.upto emacsUndoesSpec)) emacsUndoesUptoCard
end Rows
end Go.Proofs.YtgndbccogcofjaaGreatDoor
