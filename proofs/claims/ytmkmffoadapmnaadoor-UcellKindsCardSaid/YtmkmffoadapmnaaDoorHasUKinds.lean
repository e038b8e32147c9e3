/- UcellKinds: the row, the card. -/
import Derived.Test.YtmkmffoadapmnaaDoorCards
import Derived.Test.YtmkmffoadapmnaaDoorULaid
import Derived.Test.YtmkmffoadapmnaaDoorLawUNoneC
import Derived.SevenTiedAt
set_option linter.unusedVariables false
namespace Go.Proofs.YtmkmffoadapmnaaDoor
open Go.ChangeShapes Go.WideShapes Go.ChangeAt Go.RowKit

set_option maxRecDepth 100000 in
theorem ucellKinds_lifted (os : Os) (started : os.Started) (H : Type) (enc : TypeId × Value → H) :
    ReturnsInHanded {} Tryd.checked os 9 .any (fun w args => (Rows.ucellKindsSpec.pre enc Tryd.prog Tryd.f9 Rows.ucellKindsRow.domain false w args ∧ laidMetH Tryd.prog laid4 w) ∧ sizedMet enc Tryd.prog Tryd.f9 (OpenSpec.ofChange Rows.ucellKindsSpec) false w args) (Rows.ucellKindsSpec.post enc Tryd.prog Tryd.f9 false true false false) := by
  refine law_lift_laid (C := Tryd.checked) (tb := 4) _ own laid started (by kernel_rfl) Tryd.func9 (congrArg Array.toList Tryd.params9) rfl Tryd.underlying4 rfl (by kernel_rfl) (fun ds hd => ?_)
    (ChangeSpec.witness_shaped (enc := enc) (C := Tryd.checked) (os := os) (X := fun w _ => laidMetH Tryd.prog laid4 w) false (World.laidAll Tryd.prog os laid4) #[.slice none 0 0] 8 (World.laidAll_os _ _ _) (World.shaped_of_ZipB (by kernel_rfl) (by kernel_rfl)) (by kernel_rfl) (by kernel_rfl) (by kernel_rfl) (laid_met os _)) ?_
  · obtain ⟨a0, rfl⟩ := len_one hd
    rfl
  intro W args hL hin
  have hT := tabs_of hL
  obtain ⟨v1, rfl, ⟨_, o1⟩, i1⟩ := hin.one
  obtain ⟨_, l, e1, g1, bl, -⟩ := i1.ints Tryd.underlying22 Tryd.underlying21 (by kernel_rfl)
  obtain ⟨a1, n1, c1, rfl⟩ := okWide_slice Tryd.underlying22 o1
  obtain rfl := List.singleton_inj.1 e1
  exact ucell_kinds hT.1 hT.2 g1

theorem ucellKinds_proved : Rows.UcellKindsSaid :=
  OpenClaim.holds_of_wide 9 Tryd.f9 rfl rfl rfl rfl rfl rfl rfl ⟨rfl, rfl, rfl, rfl, rfl⟩ rfl rfl rfl rfl rfl (by kernel_rfl) Tryd.func9 (by kernel_rfl)
    (of_decide_eq_true (by kernel_rfl)) (by unfold Func.isWrapper; first | (rw [if_pos (by decide +kernel)]; kernel_rfl) | (rw [if_neg (by decide +kernel)]; exact ⟨rfl, rfl⟩))
    (fun os started H enc _ => ucellKinds_lifted os started H enc)
theorem ucellKinds_card : Rows.UcellKindsCardSaid :=
  Claim7.holds_tied_plain_at .later [] [.data, .widerDeep, .widerDeep, .pinned] true (true, "9dd498fbdeeda0e025c1c52de3b75b2b80c7f9301d59f789a3cf18e16acab26f") false
    ucellKinds_proved (fun _ h => by cases h) (by kernel_rfl) (fun _ h => by cases h) ucellKinds_row_tie rfl ⟨rfl, rfl⟩ (by kernel_rfl) rfl
    (fun f fn hf hfn => by
      obtain rfl : f = 9 := Option.some.inj ((show Tryd.prog.funcNamed "lanyard/lanyardlaw01.UcellKinds" = some 9 by kernel_rfl).symm.trans hf) |>.symm
      obtain rfl : fn = Tryd.f9 := (Option.some.inj (Tryd.func9.symm.trans hfn)).symm
      exact ⟨by kernel_rfl, fun j t ht => by
        rw [Tryd.params9] at ht
        have hm : t ∈ [22] := by simpa using Array.mem_of_getElem? ht
        have hall : ([22].all fun u => !Tryd.prog.wantsStandIn u) = true := by kernel_rfl
        exact (show Tryd.prog.wantsStandIn t = false by simpa using List.all_eq_true.1 hall t hm)⟩)
    (by kernel_rfl)
end Go.Proofs.YtmkmffoadapmnaaDoor
