/-
  DERIVED. GIVEN WITH THE SEED: THE CARDS: each row of YtmkmffoadapmnaaDoorRows.lean that lists a variable, with what it lists TIED to the program's text (the seventh form; the later family's looks); each row that meets fmt, with fmt's text TOLD by the authors' own Lean function (tested against real Go, not proved from fmt's source: count such statements apart). THE CARD IS WHAT COUNTS. Prove the row's statement (the work); the ties are given (YtmkmffoadapmnaaDoorTie.lean); close each card by the builder's one call (the guide's Derived/Test/ToyasCard.lean, 'card_holds'). Laid BY PROGRAM, IN A SANDBOX (cutbox-door.mjs). By AI agents, Wed Nov 11 2026. No macro, syntax, notation, axiom, sorry.
-/
import Derived.Test.YtmkmffoadapmnaaDoorRows
import GoSem.ClaimSeven
namespace Go.Proofs.YtmkmffoadapmnaaDoor
namespace Rows

/-- THE TIED CARD OF 'lanyardlaw01.UcellWide'. -/
def ucellWideCard : Claim7 := { stood := { row := ucellWideRow, standIns := [], harness := (true, "9dd498fbdeeda0e025c1c52de3b75b2b80c7f9301d59f789a3cf18e16acab26f"), looks := false }, kinds := [], alts := [], laidByText := true, laidKinds := [.data, .widerDeep, .widerDeep, .pinned], laidTests := true, laidLooks := .later }
def UcellWideCardSaid : Prop := Claim7.holds Tryd.pinned (.plain (OpenSpec.ofChange ucellWideSpec)) ucellWideCard

/-- THE TIED CARD OF 'lanyardlaw01.UcellCells'. -/
def ucellCellsCard : Claim7 := { stood := { row := ucellCellsRow, standIns := [], harness := (true, "9dd498fbdeeda0e025c1c52de3b75b2b80c7f9301d59f789a3cf18e16acab26f"), looks := false }, kinds := [], alts := [], laidByText := true, laidKinds := [.data, .widerDeep, .widerDeep, .pinned], laidTests := true, laidLooks := .later }
def UcellCellsCardSaid : Prop := Claim7.holds Tryd.pinned (.plain (OpenSpec.ofChange ucellCellsSpec)) ucellCellsCard

/-- THE TIED CARD OF 'lanyardlaw01.UcellSpans'. -/
def ucellSpansCard : Claim7 := { stood := { row := ucellSpansRow, standIns := [], harness := (true, "9dd498fbdeeda0e025c1c52de3b75b2b80c7f9301d59f789a3cf18e16acab26f"), looks := false }, kinds := [], alts := [], laidByText := true, laidKinds := [.data, .widerDeep, .widerDeep, .pinned], laidTests := true, laidLooks := .later }
def UcellSpansCardSaid : Prop := Claim7.holds Tryd.pinned (.plain (OpenSpec.ofChange ucellSpansSpec)) ucellSpansCard

/-- THE TIED CARD OF 'lanyardlaw01.UcellPieces'. -/
def ucellPiecesCard : Claim7 := { stood := { row := ucellPiecesRow, standIns := [], harness := (true, "9dd498fbdeeda0e025c1c52de3b75b2b80c7f9301d59f789a3cf18e16acab26f"), looks := false }, kinds := [], alts := [], laidByText := true, laidKinds := [.data, .widerDeep, .widerDeep, .pinned], laidTests := true, laidLooks := .later }
def UcellPiecesCardSaid : Prop := Claim7.holds Tryd.pinned (.plain (OpenSpec.ofChange ucellPiecesSpec)) ucellPiecesCard

/-- THE TIED CARD OF 'lanyardlaw01.UcellStream'. -/
def ucellStreamCard : Claim7 := { stood := { row := ucellStreamRow, standIns := [], harness := (true, "9dd498fbdeeda0e025c1c52de3b75b2b80c7f9301d59f789a3cf18e16acab26f"), looks := false }, kinds := [], alts := [], laidByText := true, laidKinds := [.data, .widerDeep, .widerDeep, .pinned], laidTests := true, laidLooks := .later }
def UcellStreamCardSaid : Prop := Claim7.holds Tryd.pinned (.plain (OpenSpec.ofChange ucellStreamSpec)) ucellStreamCard

/-- THE TIED CARD OF 'lanyardlaw01.UcellNone'. -/
def ucellNoneCard : Claim7 := { stood := { row := ucellNoneRow, standIns := [], harness := (true, "9dd498fbdeeda0e025c1c52de3b75b2b80c7f9301d59f789a3cf18e16acab26f"), looks := false }, kinds := [], alts := [], laidByText := true, laidKinds := [.data, .widerDeep, .widerDeep, .pinned], laidTests := true, laidLooks := .later }
def UcellNoneCardSaid : Prop := Claim7.holds Tryd.pinned (.plain (OpenSpec.ofChange ucellNoneSpec)) ucellNoneCard

/-- THE TIED CARD OF 'lanyardlaw01.UcellKinds'. -/
def ucellKindsCard : Claim7 := { stood := { row := ucellKindsRow, standIns := [], harness := (true, "9dd498fbdeeda0e025c1c52de3b75b2b80c7f9301d59f789a3cf18e16acab26f"), looks := false }, kinds := [], alts := [], laidByText := true, laidKinds := [.data, .widerDeep, .widerDeep, .pinned], laidTests := true, laidLooks := .later }
def UcellKindsCardSaid : Prop := Claim7.holds Tryd.pinned (.plain (OpenSpec.ofChange ucellKindsSpec)) ucellKindsCard

/-- THE TIED CARD OF 'lanyardlaw01.UcellBack'. -/
def ucellBackCard : Claim7 := { stood := { row := ucellBackRow, standIns := [], harness := (true, "9dd498fbdeeda0e025c1c52de3b75b2b80c7f9301d59f789a3cf18e16acab26f"), looks := false }, kinds := [], alts := [], laidByText := true, laidKinds := [.data, .widerDeep, .widerDeep, .pinned], laidTests := true, laidLooks := .later }
def UcellBackCardSaid : Prop := Claim7.holds Tryd.pinned (.plain (OpenSpec.ofChange ucellBackSpec)) ucellBackCard

/-- THE TIED CARD OF 'lanyardlaw01.UcellRunes'. -/
def ucellRunesCard : Claim7 := { stood := { row := ucellRunesRow, standIns := [], harness := (true, "9dd498fbdeeda0e025c1c52de3b75b2b80c7f9301d59f789a3cf18e16acab26f"), looks := false }, kinds := [], alts := [], laidByText := true, laidKinds := [.data, .widerDeep, .widerDeep, .pinned], laidTests := true, laidLooks := .later }
def UcellRunesCardSaid : Prop := Claim7.holds Tryd.pinned (.plain (OpenSpec.ofChange ucellRunesSpec)) ucellRunesCard

/-- THE SECOND FORM's CARD OF 'lanyardlaw01.UcellWide'. -/
def ucellWideUptoCard : Claim7 := { stood := { row := ucellWideUptoRow, standIns := [], harness := (true, "9dd498fbdeeda0e025c1c52de3b75b2b80c7f9301d59f789a3cf18e16acab26f"), looks := false }, kinds := [], alts := [], laidByText := true, laidKinds := [.data, .widerDeep, .widerDeep, .pinned], laidTests := true, laidLooks := .later }
def UcellWideUptoCardSaid : Prop := Claim7.holds Tryd.pinned (.plain (OpenSpec.upto ucellWideSpec)) ucellWideUptoCard

/-- THE SECOND FORM's CARD OF 'lanyardlaw01.UcellCells'. -/
def ucellCellsUptoCard : Claim7 := { stood := { row := ucellCellsUptoRow, standIns := [], harness := (true, "9dd498fbdeeda0e025c1c52de3b75b2b80c7f9301d59f789a3cf18e16acab26f"), looks := false }, kinds := [], alts := [], laidByText := true, laidKinds := [.data, .widerDeep, .widerDeep, .pinned], laidTests := true, laidLooks := .later }
def UcellCellsUptoCardSaid : Prop := Claim7.holds Tryd.pinned (.plain (OpenSpec.upto ucellCellsSpec)) ucellCellsUptoCard

/-- THE SECOND FORM's CARD OF 'lanyardlaw01.UcellSpans'. -/
def ucellSpansUptoCard : Claim7 := { stood := { row := ucellSpansUptoRow, standIns := [], harness := (true, "9dd498fbdeeda0e025c1c52de3b75b2b80c7f9301d59f789a3cf18e16acab26f"), looks := false }, kinds := [], alts := [], laidByText := true, laidKinds := [.data, .widerDeep, .widerDeep, .pinned], laidTests := true, laidLooks := .later }
def UcellSpansUptoCardSaid : Prop := Claim7.holds Tryd.pinned (.plain (OpenSpec.upto ucellSpansSpec)) ucellSpansUptoCard

/-- THE SECOND FORM's CARD OF 'lanyardlaw01.UcellPieces'. -/
def ucellPiecesUptoCard : Claim7 := { stood := { row := ucellPiecesUptoRow, standIns := [], harness := (true, "9dd498fbdeeda0e025c1c52de3b75b2b80c7f9301d59f789a3cf18e16acab26f"), looks := false }, kinds := [], alts := [], laidByText := true, laidKinds := [.data, .widerDeep, .widerDeep, .pinned], laidTests := true, laidLooks := .later }
def UcellPiecesUptoCardSaid : Prop := Claim7.holds Tryd.pinned (.plain (OpenSpec.upto ucellPiecesSpec)) ucellPiecesUptoCard

/-- THE SECOND FORM's CARD OF 'lanyardlaw01.UcellStream'. -/
def ucellStreamUptoCard : Claim7 := { stood := { row := ucellStreamUptoRow, standIns := [], harness := (true, "9dd498fbdeeda0e025c1c52de3b75b2b80c7f9301d59f789a3cf18e16acab26f"), looks := false }, kinds := [], alts := [], laidByText := true, laidKinds := [.data, .widerDeep, .widerDeep, .pinned], laidTests := true, laidLooks := .later }
def UcellStreamUptoCardSaid : Prop := Claim7.holds Tryd.pinned (.plain (OpenSpec.upto ucellStreamSpec)) ucellStreamUptoCard

/-- THE SECOND FORM's CARD OF 'lanyardlaw01.UcellNone'. -/
def ucellNoneUptoCard : Claim7 := { stood := { row := ucellNoneUptoRow, standIns := [], harness := (true, "9dd498fbdeeda0e025c1c52de3b75b2b80c7f9301d59f789a3cf18e16acab26f"), looks := false }, kinds := [], alts := [], laidByText := true, laidKinds := [.data, .widerDeep, .widerDeep, .pinned], laidTests := true, laidLooks := .later }
def UcellNoneUptoCardSaid : Prop := Claim7.holds Tryd.pinned (.plain (OpenSpec.upto ucellNoneSpec)) ucellNoneUptoCard

/-- THE SECOND FORM's CARD OF 'lanyardlaw01.UcellKinds'. -/
def ucellKindsUptoCard : Claim7 := { stood := { row := ucellKindsUptoRow, standIns := [], harness := (true, "9dd498fbdeeda0e025c1c52de3b75b2b80c7f9301d59f789a3cf18e16acab26f"), looks := false }, kinds := [], alts := [], laidByText := true, laidKinds := [.data, .widerDeep, .widerDeep, .pinned], laidTests := true, laidLooks := .later }
def UcellKindsUptoCardSaid : Prop := Claim7.holds Tryd.pinned (.plain (OpenSpec.upto ucellKindsSpec)) ucellKindsUptoCard

/-- THE SECOND FORM's CARD OF 'lanyardlaw01.UcellBack'. -/
def ucellBackUptoCard : Claim7 := { stood := { row := ucellBackUptoRow, standIns := [], harness := (true, "9dd498fbdeeda0e025c1c52de3b75b2b80c7f9301d59f789a3cf18e16acab26f"), looks := false }, kinds := [], alts := [], laidByText := true, laidKinds := [.data, .widerDeep, .widerDeep, .pinned], laidTests := true, laidLooks := .later }
def UcellBackUptoCardSaid : Prop := Claim7.holds Tryd.pinned (.plain (OpenSpec.upto ucellBackSpec)) ucellBackUptoCard

/-- THE SECOND FORM's CARD OF 'lanyardlaw01.UcellRunes'. -/
def ucellRunesUptoCard : Claim7 := { stood := { row := ucellRunesUptoRow, standIns := [], harness := (true, "9dd498fbdeeda0e025c1c52de3b75b2b80c7f9301d59f789a3cf18e16acab26f"), looks := false }, kinds := [], alts := [], laidByText := true, laidKinds := [.data, .widerDeep, .widerDeep, .pinned], laidTests := true, laidLooks := .later }
def UcellRunesUptoCardSaid : Prop := Claim7.holds Tryd.pinned (.plain (OpenSpec.upto ucellRunesSpec)) ucellRunesUptoCard
end Rows
end Go.Proofs.YtmkmffoadapmnaaDoor
