/- UcellNone: the row, the card. -/
import Derived.Test.YtmkmffoadapmnaaDoorCards
import Derived.Test.YtmkmffoadapmnaaDoorULaid
import Derived.Test.YtmkmffoadapmnaaDoorLawUNoneC
import Derived.SevenTiedAt
set_option linter.unusedVariables false
namespace Go.Proofs.YtmkmffoadapmnaaDoor
open Go.ChangeShapes Go.WideShapes Go.ChangeAt Go.RowKit

set_option maxRecDepth 100000 in
theorem ucellNone_lifted (os : Os) (started : os.Started) (H : Type) (enc : TypeId × Value → H) :
    ReturnsInHanded {} Tryd.checked os 8 .any (fun w args => (Rows.ucellNoneSpec.pre enc Tryd.prog Tryd.f8 Rows.ucellNoneRow.domain false w args ∧ laidMetH Tryd.prog laid4 w) ∧ sizedMet enc Tryd.prog Tryd.f8 (OpenSpec.ofChange Rows.ucellNoneSpec) false w args) (Rows.ucellNoneSpec.post enc Tryd.prog Tryd.f8 false true false false) := by
  refine law_lift_laid (C := Tryd.checked) (tb := 4) _ own laid started (by kernel_rfl) Tryd.func8 (congrArg Array.toList Tryd.params8) rfl Tryd.underlying4 rfl (by kernel_rfl) (fun ds hd => ?_)
    (ChangeSpec.witness_shaped (enc := enc) (C := Tryd.checked) (os := os) (X := fun w _ => laidMetH Tryd.prog laid4 w) false (World.laidAll Tryd.prog os laid4) #[.slice none 0 0] 8 (World.laidAll_os _ _ _) (World.shaped_of_ZipB (by kernel_rfl) (by kernel_rfl)) (by kernel_rfl) (by kernel_rfl) (by kernel_rfl) (laid_met os _)) ?_
  · obtain ⟨a0, rfl⟩ := len_one hd
    rfl
  intro W args hL hin
  have hT := tabs_of hL
  obtain ⟨v1, rfl, ⟨_, o1⟩, i1⟩ := hin.one
  exact ucell_none hT.1 hT.2

theorem ucellNone_proved : Rows.UcellNoneSaid :=
  OpenClaim.holds_of_wide 8 Tryd.f8 rfl rfl rfl rfl rfl rfl rfl ⟨rfl, rfl, rfl, rfl, rfl⟩ rfl rfl rfl rfl rfl (by kernel_rfl) Tryd.func8 (by kernel_rfl)
    (of_decide_eq_true (by kernel_rfl)) (by unfold Func.isWrapper; first | (rw [if_pos (by decide +kernel)]; kernel_rfl) | (rw [if_neg (by decide +kernel)]; exact ⟨rfl, rfl⟩))
    (fun os started H enc _ => ucellNone_lifted os started H enc)
theorem ucellNone_card : Rows.UcellNoneCardSaid :=
  Claim7.holds_tied_plain_at .later [] [.data, .widerDeep, .widerDeep, .pinned] true (true, "9dd498fbdeeda0e025c1c52de3b75b2b80c7f9301d59f789a3cf18e16acab26f") false
    ucellNone_proved (fun _ h => by cases h) (by kernel_rfl) (fun _ h => by cases h) ucellNone_row_tie rfl ⟨rfl, rfl⟩ (by kernel_rfl) rfl
    (fun f fn hf hfn => by
      obtain rfl : f = 8 := Option.some.inj ((show Tryd.prog.funcNamed "lanyard/lanyardlaw01.UcellNone" = some 8 by kernel_rfl).symm.trans hf) |>.symm
      obtain rfl : fn = Tryd.f8 := (Option.some.inj (Tryd.func8.symm.trans hfn)).symm
      exact ⟨by kernel_rfl, fun j t ht => by
        rw [Tryd.params8] at ht
        have hm : t ∈ [39] := by simpa using Array.mem_of_getElem? ht
        have hall : ([39].all fun u => !Tryd.prog.wantsStandIn u) = true := by kernel_rfl
        exact (show Tryd.prog.wantsStandIn t = false by simpa using List.all_eq_true.1 hall t hm)⟩)
    (by kernel_rfl)
end Go.Proofs.YtmkmffoadapmnaaDoor
