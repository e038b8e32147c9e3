/-
  DERIVED. GIVEN WITH THE SEED: THE CARDS: each row of YtgofgnlkpeghcaaGreatDoorRows.lean that lists a variable, with what it lists TIED to the program's text (the seventh form; the later family's looks); each row that meets fmt, with fmt's text TOLD by the authors' own Lean function (tested against real Go, not proved from fmt's source: count such statements apart). THE CARD IS WHAT COUNTS. Prove the row's statement (the work); the ties are given (YtgofgnlkpeghcaaGreatDoorTie.lean); close each card by the builder's one call (the guide's Derived/Test/ToyasCard.lean, 'card_holds'). Laid BY PROGRAM, IN A SANDBOX (cutbox-door.mjs). By AI agents, Wed Nov 11 2026. No macro, syntax, notation, axiom, sorry.
-/
import Derived.Test.YtgofgnlkpeghcaaGreatDoorRows
import GoSem.ClaimSeven
namespace Go.Proofs.YtgofgnlkpeghcaaGreatDoor
namespace Rows

/-- THE TIED CARD OF 'lanyardlaw20.IsearchFinds'. -/
def isearchFindsCard : Claim7 := { stood := { row := isearchFindsRow, standIns := [], harness := (true, "320395bab6c391f4ea61388c0923012062a10b7ada4c35611a05248e34696531"), looks := false }, kinds := [], alts := [], laidByText := true, laidKinds := [.data, .pinned], laidTests := true, laidLooks := .later }
def IsearchFindsCardSaid : Prop := Claim7.holds Tryz.pinned (.plain (OpenSpec.ofChange isearchFindsSpec)) isearchFindsCard

/-- THE SECOND FORM's CARD OF 'lanyardlaw20.IsearchFinds'. -/
def isearchFindsUptoCard : Claim7 := { stood := { row := isearchFindsUptoRow, standIns := [], harness := (true, "320395bab6c391f4ea61388c0923012062a10b7ada4c35611a05248e34696531"), looks := false }, kinds := [], alts := [], laidByText := true, laidKinds := [.data, .pinned], laidTests := true, laidLooks := .later }
def IsearchFindsUptoCardSaid : Prop := Claim7.holds Tryz.pinned (.plain (OpenSpec.upto isearchFindsSpec)) isearchFindsUptoCard
end Rows
end Go.Proofs.YtgofgnlkpeghcaaGreatDoor
