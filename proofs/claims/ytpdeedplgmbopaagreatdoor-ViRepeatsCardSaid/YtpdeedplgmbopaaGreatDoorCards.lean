/-
  DERIVED. GIVEN WITH THE SEED: THE CARDS: each row of YtpdeedplgmbopaaGreatDoorRows.lean that lists a variable, with what it lists TIED to the program's text (the seventh form; the later family's looks); each row that meets fmt, with fmt's text TOLD by the authors' own Lean function (tested against real Go, not proved from fmt's source: count such statements apart). THE CARD IS WHAT COUNTS. Prove the row's statement (the work); the ties are given (YtpdeedplgmbopaaGreatDoorTie.lean); close each card by the builder's one call (the guide's Derived/Test/ToyasCard.lean, 'card_holds'). Laid BY PROGRAM, IN A SANDBOX (cutbox-door.mjs). By AI agents, Wed Nov 11 2026. No macro, syntax, notation, axiom, sorry.
-/
import Derived.Test.YtpdeedplgmbopaaGreatDoorRows
import GoSem.ClaimSeven
namespace Go.Proofs.YtpdeedplgmbopaaGreatDoor
namespace Rows

/-- THE TIED CARD OF 'lanyardlaw19.ViTargets'. -/
def viTargetsCard : Claim7 := { stood := { row := viTargetsRow, standIns := [], harness := (true, "99a5bb9fd978799d876f5c744ef21e54f7b6a4f05c2918ab827c141780b2be91"), looks := false }, kinds := [], alts := [], laidByText := true, laidKinds := [.widerDeep, .widerDeep], laidTests := true, laidLooks := .later }
def ViTargetsCardSaid : Prop := Claim7.holds Tryz.pinned (.plain (OpenSpec.ofChange viTargetsSpec)) viTargetsCard

/-- THE TIED CARD OF 'lanyardlaw19.ViWants'. -/
def viWantsCard : Claim7 := { stood := { row := viWantsRow, standIns := [], harness := (true, "99a5bb9fd978799d876f5c744ef21e54f7b6a4f05c2918ab827c141780b2be91"), looks := false }, kinds := [], alts := [], laidByText := true, laidKinds := [.widerDeep, .widerDeep], laidTests := true, laidLooks := .later }
def ViWantsCardSaid : Prop := Claim7.holds Tryz.pinned (.plain (OpenSpec.ofChange viWantsSpec)) viWantsCard

/-- THE TIED CARD OF 'lanyardlaw19.ViStays'. -/
def viStaysCard : Claim7 := { stood := { row := viStaysRow, standIns := [], harness := (true, "99a5bb9fd978799d876f5c744ef21e54f7b6a4f05c2918ab827c141780b2be91"), looks := false }, kinds := [], alts := [], laidByText := true, laidKinds := [.widerDeep, .widerDeep], laidTests := true, laidLooks := .later }
def ViStaysCardSaid : Prop := Claim7.holds Tryz.pinned (.plain (OpenSpec.ofChange viStaysSpec)) viStaysCard

/-- THE TIED CARD OF 'lanyardlaw19.ViFinds'. -/
def viFindsCard : Claim7 := { stood := { row := viFindsRow, standIns := [], harness := (true, "99a5bb9fd978799d876f5c744ef21e54f7b6a4f05c2918ab827c141780b2be91"), looks := false }, kinds := [], alts := [], laidByText := true, laidKinds := [.widerDeep, .widerDeep], laidTests := true, laidLooks := .later }
def ViFindsCardSaid : Prop := Claim7.holds Tryz.pinned (.plain (OpenSpec.ofChange viFindsSpec)) viFindsCard

/-- THE TIED CARD OF 'lanyardlaw19.ViRepeats'. -/
def viRepeatsCard : Claim7 := { stood := { row := viRepeatsRow, standIns := [], harness := (true, "99a5bb9fd978799d876f5c744ef21e54f7b6a4f05c2918ab827c141780b2be91"), looks := false }, kinds := [], alts := [], laidByText := true, laidKinds := [.widerDeep, .widerDeep], laidTests := true, laidLooks := .later }
def ViRepeatsCardSaid : Prop := Claim7.holds Tryz.pinned (.plain (OpenSpec.ofChange viRepeatsSpec)) viRepeatsCard

/-- THE TIED CARD OF 'lanyardlaw19.ViPuts'. -/
def viPutsCard : Claim7 := { stood := { row := viPutsRow, standIns := [], harness := (true, "99a5bb9fd978799d876f5c744ef21e54f7b6a4f05c2918ab827c141780b2be91"), looks := false }, kinds := [], alts := [], laidByText := true, laidKinds := [.widerDeep, .widerDeep], laidTests := true, laidLooks := .later }
def ViPutsCardSaid : Prop := Claim7.holds Tryz.pinned (.plain (OpenSpec.ofChange viPutsSpec)) viPutsCard

/-- THE TIED CARD OF 'lanyardlaw19.ViCounts'. -/
def viCountsCard : Claim7 := { stood := { row := viCountsRow, standIns := [], harness := (true, "99a5bb9fd978799d876f5c744ef21e54f7b6a4f05c2918ab827c141780b2be91"), looks := false }, kinds := [], alts := [], laidByText := true, laidKinds := [.widerDeep, .widerDeep], laidTests := true, laidLooks := .later }
def ViCountsCardSaid : Prop := Claim7.holds Tryz.pinned (.plain (OpenSpec.ofChange viCountsSpec)) viCountsCard

/-- THE TIED CARD OF 'lanyardlaw19.ViNone'. -/
def viNoneCard : Claim7 := { stood := { row := viNoneRow, standIns := [], harness := (true, "99a5bb9fd978799d876f5c744ef21e54f7b6a4f05c2918ab827c141780b2be91"), looks := false }, kinds := [], alts := [], laidByText := true, laidKinds := [.widerDeep, .widerDeep], laidTests := true, laidLooks := .later }
def ViNoneCardSaid : Prop := Claim7.holds Tryz.pinned (.plain (OpenSpec.ofChange viNoneSpec)) viNoneCard

/-- THE SECOND FORM's CARD OF 'lanyardlaw19.ViTargets'. -/
def viTargetsUptoCard : Claim7 := { stood := { row := viTargetsUptoRow, standIns := [], harness := (true, "99a5bb9fd978799d876f5c744ef21e54f7b6a4f05c2918ab827c141780b2be91"), looks := false }, kinds := [], alts := [], laidByText := true, laidKinds := [.widerDeep, .widerDeep], laidTests := true, laidLooks := .later }
def ViTargetsUptoCardSaid : Prop := Claim7.holds Tryz.pinned (.plain (OpenSpec.upto viTargetsSpec)) viTargetsUptoCard

/-- THE SECOND FORM's CARD OF 'lanyardlaw19.ViWants'. -/
def viWantsUptoCard : Claim7 := { stood := { row := viWantsUptoRow, standIns := [], harness := (true, "99a5bb9fd978799d876f5c744ef21e54f7b6a4f05c2918ab827c141780b2be91"), looks := false }, kinds := [], alts := [], laidByText := true, laidKinds := [.widerDeep, .widerDeep], laidTests := true, laidLooks := .later }
def ViWantsUptoCardSaid : Prop := Claim7.holds Tryz.pinned (.plain (OpenSpec.upto viWantsSpec)) viWantsUptoCard

/-- THE SECOND FORM's CARD OF 'lanyardlaw19.ViStays'. -/
def viStaysUptoCard : Claim7 := { stood := { row := viStaysUptoRow, standIns := [], harness := (true, "99a5bb9fd978799d876f5c744ef21e54f7b6a4f05c2918ab827c141780b2be91"), looks := false }, kinds := [], alts := [], laidByText := true, laidKinds := [.widerDeep, .widerDeep], laidTests := true, laidLooks := .later }
def ViStaysUptoCardSaid : Prop := Claim7.holds Tryz.pinned (.plain (OpenSpec.upto viStaysSpec)) viStaysUptoCard

/-- THE SECOND FORM's CARD OF 'lanyardlaw19.ViFinds'. -/
def viFindsUptoCard : Claim7 := { stood := { row := viFindsUptoRow, standIns := [], harness := (true, "99a5bb9fd978799d876f5c744ef21e54f7b6a4f05c2918ab827c141780b2be91"), looks := false }, kinds := [], alts := [], laidByText := true, laidKinds := [.widerDeep, .widerDeep], laidTests := true, laidLooks := .later }
def ViFindsUptoCardSaid : Prop := Claim7.holds Tryz.pinned (.plain (OpenSpec.upto viFindsSpec)) viFindsUptoCard

/-- THE SECOND FORM's CARD OF 'lanyardlaw19.ViRepeats'. -/
def viRepeatsUptoCard : Claim7 := { stood := { row := viRepeatsUptoRow, standIns := [], harness := (true, "99a5bb9fd978799d876f5c744ef21e54f7b6a4f05c2918ab827c141780b2be91"), looks := false }, kinds := [], alts := [], laidByText := true, laidKinds := [.widerDeep, .widerDeep], laidTests := true, laidLooks := .later }
def ViRepeatsUptoCardSaid : Prop := Claim7.holds Tryz.pinned (.plain (OpenSpec.upto viRepeatsSpec)) viRepeatsUptoCard

/-- THE SECOND FORM's CARD OF 'lanyardlaw19.ViPuts'. -/
def viPutsUptoCard : Claim7 := { stood := { row := viPutsUptoRow, standIns := [], harness := (true, "99a5bb9fd978799d876f5c744ef21e54f7b6a4f05c2918ab827c141780b2be91"), looks := false }, kinds := [], alts := [], laidByText := true, laidKinds := [.widerDeep, .widerDeep], laidTests := true, laidLooks := .later }
def ViPutsUptoCardSaid : Prop := Claim7.holds Tryz.pinned (.plain (OpenSpec.upto viPutsSpec)) viPutsUptoCard

/-- THE SECOND FORM's CARD OF 'lanyardlaw19.ViCounts'. -/
def viCountsUptoCard : Claim7 := { stood := { row := viCountsUptoRow, standIns := [], harness := (true, "99a5bb9fd978799d876f5c744ef21e54f7b6a4f05c2918ab827c141780b2be91"), looks := false }, kinds := [], alts := [], laidByText := true, laidKinds := [.widerDeep, .widerDeep], laidTests := true, laidLooks := .later }
def ViCountsUptoCardSaid : Prop := Claim7.holds Tryz.pinned (.plain (OpenSpec.upto viCountsSpec)) viCountsUptoCard

/-- THE SECOND FORM's CARD OF 'lanyardlaw19.ViNone'. -/
def viNoneUptoCard : Claim7 := { stood := { row := viNoneUptoRow, standIns := [], harness := (true, "99a5bb9fd978799d876f5c744ef21e54f7b6a4f05c2918ab827c141780b2be91"), looks := false }, kinds := [], alts := [], laidByText := true, laidKinds := [.widerDeep, .widerDeep], laidTests := true, laidLooks := .later }
def ViNoneUptoCardSaid : Prop := Claim7.holds Tryz.pinned (.plain (OpenSpec.upto viNoneSpec)) viNoneUptoCard
end Rows
end Go.Proofs.YtpdeedplgmbopaaGreatDoor
