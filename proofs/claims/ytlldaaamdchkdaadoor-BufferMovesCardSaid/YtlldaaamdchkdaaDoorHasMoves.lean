/- BufferMoves: the row, the card. -/
import Derived.Test.YtlldaaamdchkdaaDoorCards
import Derived.Test.YtlldaaamdchkdaaDoorLaid
import Derived.Test.YtlldaaamdchkdaaDoorLawMoves
import Derived.SevenTiedAt
set_option linter.unusedVariables false
namespace Go.Proofs.YtlldaaamdchkdaaDoor
open Go.ChangeShapes Go.WideShapes Go.ChangeAt Go.RowKit

set_option maxRecDepth 100000 in
theorem bufferMoves_lifted (os : Os) (started : os.Started) (H : Type) (enc : TypeId × Value → H) :
    ReturnsInHanded {} Tryd.checked os 7 .any (fun w args => (Rows.bufferMovesSpec.pre enc Tryd.prog Tryd.f7 Rows.bufferMovesRow.domain false w args ∧ laidMetH Tryd.prog laid2 w) ∧ sizedMet enc Tryd.prog Tryd.f7 (OpenSpec.ofChange Rows.bufferMovesSpec) false w args) (Rows.bufferMovesSpec.post enc Tryd.prog Tryd.f7 false true false false) := by
  refine law_lift_laid (C := Tryd.checked) (tb := 4) _ own laid started (by kernel_rfl) Tryd.func7 (congrArg Array.toList Tryd.params7) rfl Tryd.underlying4 rfl (by kernel_rfl) (fun ds hd => ?_)
    (ChangeSpec.witness_shaped (enc := enc) (C := Tryd.checked) (os := os) (X := fun w _ => laidMetH Tryd.prog laid2 w) false (World.doorLaid Tryd.prog 400 os) #[.slice none 0 0, .int .i64 0, .int .i32 0] 8 rfl (World.shaped_of_RefB (by kernel_rfl) (by kernel_rfl)) (by kernel_rfl) (by kernel_rfl) (by kernel_rfl) (door_met os _)) ?_
  · obtain ⟨a0, a1, a2, rfl⟩ := len_three hd
    rfl
  intro W args hL hin
  have hT := tabs_of hL
  obtain ⟨v1, v2, v3, rfl, ⟨⟨_, o1⟩, i1⟩, ⟨⟨_, o2⟩, i2⟩, ⟨⟨_, o3⟩, i3⟩⟩ := hin.three
  obtain ⟨x, rfl⟩ := okWide_int Tryd.underlying3 o2
  obtain ⟨r, rfl⟩ := okWide_int Tryd.underlying21 o3
  obtain ⟨a1, n1, c1, rfl⟩ := okWide_slice Tryd.underlying22 o1
  obtain ⟨_, l, e1, g1, hb1, -⟩ := i1.ints Tryd.underlying22 Tryd.underlying21 (by kernel_rfl)
  obtain rfl := List.singleton_inj.1 e1
  rw [show Tryd.prog.bytesOf 21 = 4 from by kernel_rfl, show reachBytes = 140737488351232 from rfl] at hb1
  exact buffer_moves hT g1 (by omega)

theorem bufferMoves_proved : Rows.BufferMovesSaid :=
  OpenClaim.holds_of_wide 7 Tryd.f7 rfl rfl rfl rfl rfl rfl rfl ⟨rfl, rfl, rfl, rfl, rfl⟩ rfl rfl rfl rfl rfl (by kernel_rfl) Tryd.func7 (by kernel_rfl)
    (of_decide_eq_true (by kernel_rfl)) (by unfold Func.isWrapper; first | (rw [if_pos (by decide +kernel)]; kernel_rfl) | (rw [if_neg (by decide +kernel)]; exact ⟨rfl, rfl⟩))
    (fun os started H enc _ => bufferMoves_lifted os started H enc)
theorem bufferMoves_card : Rows.BufferMovesCardSaid :=
  Claim7.holds_tied_plain_at .later [] [.widerDeep, .widerDeep] true (true, "13e2a9f3bb468c236191b80a51f7b7f9625372630bd7a8a0b12306cf98716420") false
    bufferMoves_proved (fun _ h => by cases h) (by kernel_rfl) (fun _ h => by cases h) bufferMoves_row_tie rfl ⟨rfl, rfl⟩ (by kernel_rfl) rfl
    (fun f fn hf hfn => by
      obtain rfl : f = 7 := Option.some.inj ((show Tryd.prog.funcNamed "lanyard/lanyardlaw07.BufferMoves" = some 7 by kernel_rfl).symm.trans hf) |>.symm
      obtain rfl : fn = Tryd.f7 := (Option.some.inj (Tryd.func7.symm.trans hfn)).symm
      exact ⟨by kernel_rfl, fun j t ht => by
        rw [Tryd.params7] at ht
        have hm : t ∈ [22, 3, 21] := by simpa using Array.mem_of_getElem? ht
        have hall : ([22, 3, 21].all fun u => !Tryd.prog.wantsStandIn u) = true := by kernel_rfl
        exact (show Tryd.prog.wantsStandIn t = false by simpa using List.all_eq_true.1 hall t hm)⟩)
    (by kernel_rfl)
end Go.Proofs.YtlldaaamdchkdaaDoor
