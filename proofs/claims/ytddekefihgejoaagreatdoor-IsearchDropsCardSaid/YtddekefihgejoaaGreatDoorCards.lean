/-
  DERIVED. GIVEN WITH THE SEED: THE CARDS: each row of YtddekefihgejoaaGreatDoorRows.lean that lists a variable, with what it lists TIED to the program's text (the seventh form; the later family's looks); each row that meets fmt, with fmt's text TOLD by the authors' own Lean function (tested against real Go, not proved from fmt's source: count such statements apart). THE CARD IS WHAT COUNTS. Prove the row's statement (the work); the ties are given (YtddekefihgejoaaGreatDoorTie.lean); close each card by the builder's one call (the guide's Derived/Test/ToyasCard.lean, 'card_holds'). Laid BY PROGRAM, IN A SANDBOX (cutbox-door.mjs). By AI agents, Wed Nov 11 2026. No macro, syntax, notation, axiom, sorry.
-/
import Derived.Test.YtddekefihgejoaaGreatDoorRows
import GoSem.ClaimSeven
namespace Go.Proofs.YtddekefihgejoaaGreatDoor
namespace Rows

/-- THE TIED CARD OF 'lanyardlaw20.IsearchFinds'. -/
def isearchFindsCard : Claim7 := { stood := { row := isearchFindsRow, standIns := [], harness := (true, "cdeeef36a54030791fe74ba94e7a0c048174d326e7653f97b5eda55c2ff4757f"), looks := false }, kinds := [], alts := [], laidByText := true, laidKinds := [.data, .pinned], laidTests := true, laidLooks := .later }
def IsearchFindsCardSaid : Prop := Claim7.holds Tryz.pinned (.plain (OpenSpec.ofChange isearchFindsSpec)) isearchFindsCard

/-- THE TIED CARD OF 'lanyardlaw20.IsearchThere'. -/
def isearchThereCard : Claim7 := { stood := { row := isearchThereRow, standIns := [], harness := (true, "cdeeef36a54030791fe74ba94e7a0c048174d326e7653f97b5eda55c2ff4757f"), looks := false }, kinds := [], alts := [], laidByText := true, laidKinds := [.data, .pinned], laidTests := true, laidLooks := .later }
def IsearchThereCardSaid : Prop := Claim7.holds Tryz.pinned (.plain (OpenSpec.ofChange isearchThereSpec)) isearchThereCard

/-- THE TIED CARD OF 'lanyardlaw20.IsearchDrops'. -/
def isearchDropsCard : Claim7 := { stood := { row := isearchDropsRow, standIns := [], harness := (true, "cdeeef36a54030791fe74ba94e7a0c048174d326e7653f97b5eda55c2ff4757f"), looks := false }, kinds := [], alts := [], laidByText := true, laidKinds := [.data, .pinned], laidTests := true, laidLooks := .later }
def IsearchDropsCardSaid : Prop := Claim7.holds Tryz.pinned (.plain (OpenSpec.ofChange isearchDropsSpec)) isearchDropsCard

/-- THE TIED CARD OF 'lanyardlaw20.IsearchNone'. -/
def isearchNoneCard : Claim7 := { stood := { row := isearchNoneRow, standIns := [], harness := (true, "cdeeef36a54030791fe74ba94e7a0c048174d326e7653f97b5eda55c2ff4757f"), looks := false }, kinds := [], alts := [], laidByText := true, laidKinds := [.data, .pinned], laidTests := true, laidLooks := .later }
def IsearchNoneCardSaid : Prop := Claim7.holds Tryz.pinned (.plain (OpenSpec.ofChange isearchNoneSpec)) isearchNoneCard

/-- THE SECOND FORM's CARD OF 'lanyardlaw20.IsearchFinds'. -/
def isearchFindsUptoCard : Claim7 := { stood := { row := isearchFindsUptoRow, standIns := [], harness := (true, "cdeeef36a54030791fe74ba94e7a0c048174d326e7653f97b5eda55c2ff4757f"), looks := false }, kinds := [], alts := [], laidByText := true, laidKinds := [.data, .pinned], laidTests := true, laidLooks := .later }
def IsearchFindsUptoCardSaid : Prop := Claim7.holds Tryz.pinned (.plain (OpenSpec.upto isearchFindsSpec)) isearchFindsUptoCard

/-- THE SECOND FORM's CARD OF 'lanyardlaw20.IsearchThere'. -/
def isearchThereUptoCard : Claim7 := { stood := { row := isearchThereUptoRow, standIns := [], harness := (true, "cdeeef36a54030791fe74ba94e7a0c048174d326e7653f97b5eda55c2ff4757f"), looks := false }, kinds := [], alts := [], laidByText := true, laidKinds := [.data, .pinned], laidTests := true, laidLooks := .later }
def IsearchThereUptoCardSaid : Prop := Claim7.holds Tryz.pinned (.plain (OpenSpec.upto isearchThereSpec)) isearchThereUptoCard

/-- THE SECOND FORM's CARD OF 'lanyardlaw20.IsearchDrops'. -/
def isearchDropsUptoCard : Claim7 := { stood := { row := isearchDropsUptoRow, standIns := [], harness := (true, "cdeeef36a54030791fe74ba94e7a0c048174d326e7653f97b5eda55c2ff4757f"), looks := false }, kinds := [], alts := [], laidByText := true, laidKinds := [.data, .pinned], laidTests := true, laidLooks := .later }
def IsearchDropsUptoCardSaid : Prop := Claim7.holds Tryz.pinned (.plain (OpenSpec.upto isearchDropsSpec)) isearchDropsUptoCard

/-- THE SECOND FORM's CARD OF 'lanyardlaw20.IsearchNone'. -/
def isearchNoneUptoCard : Claim7 := { stood := { row := isearchNoneUptoRow, standIns := [], harness := (true, "cdeeef36a54030791fe74ba94e7a0c048174d326e7653f97b5eda55c2ff4757f"), looks := false }, kinds := [], alts := [], laidByText := true, laidKinds := [.data, .pinned], laidTests := true, laidLooks := .later }
def IsearchNoneUptoCardSaid : Prop := Claim7.holds Tryz.pinned (.plain (OpenSpec.upto isearchNoneSpec)) isearchNoneUptoCard
end Rows
end Go.Proofs.YtddekefihgejoaaGreatDoor
