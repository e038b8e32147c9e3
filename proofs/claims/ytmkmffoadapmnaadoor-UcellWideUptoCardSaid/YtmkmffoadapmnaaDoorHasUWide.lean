/- UcellWide: the row of the second form, the card. -/
import Derived.Test.YtmkmffoadapmnaaDoorCards
import Derived.Test.YtmkmffoadapmnaaDoorUIn
import Derived.Test.YtmkmffoadapmnaaDoorLawUWide
import Derived.SevenTiedAt
set_option linter.unusedVariables false
namespace Go.Proofs.YtmkmffoadapmnaaDoor
open Go.ChangeShapes Go.WideShapes Go.ChangeAt Go.RowKit

set_option maxRecDepth 100000 in
theorem ucellWide_liftedU (os : Os) (started : os.Started) (H : Type) (enc : TypeId × Value → H) (F : Stop.Interp) :
    ReturnsInHanded {} Tryd.checked os 3 .any ((Rows.OpenSpec.upto Rows.ucellWideSpec).preRow enc Tryd.prog Tryd.f3 Rows.ucellWideUptoRow.domain false laid4) (((Rows.OpenSpec.upto Rows.ucellWideSpec).at F).post enc Tryd.prog Tryd.f3 false true false false) := by
  refine law_lift_laid_upto (C := Tryd.checked) (tb := 4) (M := 4096) (z := 99) _ (by kernel_rfl) (by decide) (by kernel_rfl) own laid started (by kernel_rfl) Tryd.func3 (congrArg Array.toList Tryd.params3) rfl Tryd.underlying4 rfl (by kernel_rfl) (fun ds hd => ?_)
    (witness_row_at (enc := enc) (C := Tryd.checked) false (World.laidAll Tryd.prog os laid4) #[.slice none 0 0, .int .i64 0] (World.laidAll_os _ _ _) (by kernel_rfl) (by kernel_rfl) (by kernel_rfl)
      (OpenSpec.preRow_of_cond 8 (x := ([.nil, .lit (.int .i64 0)], [], [])) (by kernel_rfl) (by kernel_rfl) (fun k hk => by cases hk; kernel_rfl) (by kernel_rfl) (by have := laid_met os #[.slice none 0 0, .int .i64 0]; rwa [MakeChecks.laidMetH_plain _ _ _ (by kernel_rfl)] at this))) ?_
  · obtain ⟨a0, a1, rfl⟩ := len_two hd
    rfl
  intro W args hL hin
  obtain ⟨hT, hU⟩ := tabs_of hL
  obtain ⟨v1, v2, rfl, ⟨⟨_, o1⟩, i1⟩, ⟨⟨_, o2⟩, i2⟩⟩ := hin.two
  obtain ⟨a1, n1, c1, rfl⟩ := okWide_slice Tryd.underlying22 o1
  obtain ⟨_, l, e1, g1, bl, wl⟩ := i1.ints Tryd.underlying22 Tryd.underlying21 (by kernel_rfl)
  obtain rfl := List.singleton_inj.1 e1
  rw [show Tryd.prog.bytesOf 21 = 4 from by kernel_rfl] at bl
  obtain ⟨col, e2, w2⟩ := i2.int Tryd.underlying3
  obtain ⟨x2, rfl⟩ := okWide_int Tryd.underlying3 o2
  obtain rfl : x2 = col := by simpa [Value.cells] using e2
  exact ucell_wide hT hU g1 (uwf_i32 wl) (by omega) (uwf_i64 w2).2

theorem ucellWide_upto : Rows.UcellWideUptoSaid :=
  OpenClaim.holds_of_cond 3 Tryd.f3 rfl rfl rfl rfl rfl rfl rfl ⟨rfl, rfl, rfl, rfl, rfl⟩ rfl rfl rfl rfl rfl (by kernel_rfl) Tryd.func3 (by kernel_rfl)
    (of_decide_eq_true (by kernel_rfl)) (by unfold Func.isWrapper; first | (rw [if_pos (by decide +kernel)]; kernel_rfl) | (rw [if_neg (by decide +kernel)]; exact ⟨rfl, rfl⟩))
    (fun os started H enc _ F => by rw [OpenClaim.pre_eq_preRow]; exact ucellWide_liftedU os started H enc F)
theorem ucellWide_uptoCard : Rows.UcellWideUptoCardSaid :=
  Claim7.holds_tied_plain_at .later [] [.data, .widerDeep, .widerDeep, .pinned] true (true, "9dd498fbdeeda0e025c1c52de3b75b2b80c7f9301d59f789a3cf18e16acab26f") false
    ucellWide_upto (fun _ h => by cases h) (by kernel_rfl) (fun _ h => by cases h) ucellWideUpto_row_tie rfl ⟨rfl, rfl⟩ (by kernel_rfl) rfl
    (fun f fn hf hfn => by
      obtain rfl : f = 3 := Option.some.inj ((show Tryd.prog.funcNamed "lanyard/lanyardlaw01.UcellWide" = some 3 by kernel_rfl).symm.trans hf) |>.symm
      obtain rfl : fn = Tryd.f3 := (Option.some.inj (Tryd.func3.symm.trans hfn)).symm
      exact ⟨by kernel_rfl, fun j t ht => by
        rw [Tryd.params3] at ht
        have hm : t ∈ [22, 3] := by simpa using Array.mem_of_getElem? ht
        have hall : ([22, 3].all fun u => !Tryd.prog.wantsStandIn u) = true := by kernel_rfl
        exact (show Tryd.prog.wantsStandIn t = false by simpa using List.all_eq_true.1 hall t hm)⟩)
    (by kernel_rfl)
end Go.Proofs.YtmkmffoadapmnaaDoor
