/- BufferStays: the row, the card. -/
import Derived.Test.YtlldaaamdchkdaaDoorCards
import Derived.Test.YtlldaaamdchkdaaDoorLaid
import Derived.Test.YtlldaaamdchkdaaDoorLawBStays
import Derived.SevenTiedAt
set_option linter.unusedVariables false
namespace Go.Proofs.YtlldaaamdchkdaaDoor
open Go.ChangeShapes Go.WideShapes Go.ChangeAt Go.RowKit

set_option maxRecDepth 100000 in
theorem bufferStays_lifted (os : Os) (started : os.Started) (H : Type) (enc : TypeId × Value → H) :
    ReturnsInHanded {} Tryd.checked os 8 .any (fun w args => (Rows.bufferStaysSpec.pre enc Tryd.prog Tryd.f8 Rows.bufferStaysRow.domain false w args ∧ laidMetH Tryd.prog laid2 w) ∧ sizedMet enc Tryd.prog Tryd.f8 (OpenSpec.ofChange Rows.bufferStaysSpec) false w args) (Rows.bufferStaysSpec.post enc Tryd.prog Tryd.f8 false true false false) := by
  refine law_lift_laid (C := Tryd.checked) (tb := 4) _ own laid started (by kernel_rfl) Tryd.func8 (congrArg Array.toList Tryd.params8) rfl Tryd.underlying4 rfl (by kernel_rfl) (fun ds hd => ?_)
    (ChangeSpec.witness_shaped (enc := enc) (C := Tryd.checked) (os := os) (X := fun w _ => laidMetH Tryd.prog laid2 w) false (World.doorLaid Tryd.prog 400 os) #[.slice none 0 0, .slice none 0 0] 8 rfl (World.shaped_of_RefB (by kernel_rfl) (by kernel_rfl)) (by kernel_rfl) (by kernel_rfl) (by kernel_rfl) (door_met os _)) ?_
  · obtain ⟨a0, a1, rfl⟩ := len_two hd
    rfl
  intro W args hL hin
  have hT := tabs_of hL
  obtain ⟨v1, v2, rfl, ⟨⟨_, o1⟩, i1⟩, ⟨⟨_, o2⟩, i2⟩⟩ := hin.two
  obtain ⟨a1, n1, c1, rfl⟩ := okWide_slice Tryd.underlying22 o1
  obtain ⟨a2, n2, c2, rfl⟩ := okWide_slice Tryd.underlying59 o2
  obtain ⟨_, l, e1, g1, -, -⟩ := i1.ints Tryd.underlying22 Tryd.underlying21 (by kernel_rfl)
  obtain ⟨_, ops, e2, g2, g3⟩ := bops_of i2
  obtain rfl := List.singleton_inj.1 e1
  obtain rfl := List.singleton_inj.1 e2
  exact buffer_stays hT g1 g2 g3

theorem bufferStays_proved : Rows.BufferStaysSaid :=
  OpenClaim.holds_of_wide 8 Tryd.f8 rfl rfl rfl rfl rfl rfl rfl ⟨rfl, rfl, rfl, rfl, rfl⟩ rfl rfl rfl rfl rfl (by kernel_rfl) Tryd.func8 (by kernel_rfl)
    (of_decide_eq_true (by kernel_rfl)) (by unfold Func.isWrapper; first | (rw [if_pos (by decide +kernel)]; kernel_rfl) | (rw [if_neg (by decide +kernel)]; exact ⟨rfl, rfl⟩))
    (fun os started H enc _ => bufferStays_lifted os started H enc)
theorem bufferStays_card : Rows.BufferStaysCardSaid :=
  Claim7.holds_tied_plain_at .later [] [.widerDeep, .widerDeep] true (true, "13e2a9f3bb468c236191b80a51f7b7f9625372630bd7a8a0b12306cf98716420") false
    bufferStays_proved (fun _ h => by cases h) (by kernel_rfl) (fun _ h => by cases h) bufferStays_row_tie rfl ⟨rfl, rfl⟩ (by kernel_rfl) rfl
    (fun f fn hf hfn => by
      obtain rfl : f = 8 := Option.some.inj ((show Tryd.prog.funcNamed "lanyard/lanyardlaw07.BufferStays" = some 8 by kernel_rfl).symm.trans hf) |>.symm
      obtain rfl : fn = Tryd.f8 := (Option.some.inj (Tryd.func8.symm.trans hfn)).symm
      exact ⟨by kernel_rfl, fun j t ht => by
        rw [Tryd.params8] at ht
        have hm : t ∈ [22, 59] := by simpa using Array.mem_of_getElem? ht
        have hall : ([22, 59].all fun u => !Tryd.prog.wantsStandIn u) = true := by kernel_rfl
        exact (show Tryd.prog.wantsStandIn t = false by simpa using List.all_eq_true.1 hall t hm)⟩)
    (by kernel_rfl)
end Go.Proofs.YtlldaaamdchkdaaDoor
