/- UcellSpans: the row of the second form, the card. -/
import Derived.Test.YtmkmffoadapmnaaDoorCards
import Derived.Test.YtmkmffoadapmnaaDoorUIn
import Derived.Test.YtmkmffoadapmnaaDoorLawUSpans
import Derived.SevenTiedAt
set_option linter.unusedVariables false
namespace Go.Proofs.YtmkmffoadapmnaaDoor
open Go.ChangeShapes Go.WideShapes Go.ChangeAt Go.RowKit

set_option maxRecDepth 100000 in
theorem ucellSpans_liftedU (os : Os) (started : os.Started) (H : Type) (enc : TypeId × Value → H) (F : Stop.Interp) :
    ReturnsInHanded {} Tryd.checked os 5 .any ((Rows.OpenSpec.upto Rows.ucellSpansSpec).preRow enc Tryd.prog Tryd.f5 Rows.ucellSpansUptoRow.domain false laid4) (((Rows.OpenSpec.upto Rows.ucellSpansSpec).at F).post enc Tryd.prog Tryd.f5 false true false false) := by
  refine law_lift_laid_upto (C := Tryd.checked) (tb := 4) (M := 4096) (z := 99) _ (by kernel_rfl) (by decide) (by kernel_rfl) own laid started (by kernel_rfl) Tryd.func5 (congrArg Array.toList Tryd.params5) rfl Tryd.underlying4 rfl (by kernel_rfl) (fun ds hd => ?_)
    (witness_row_at (enc := enc) (C := Tryd.checked) false (World.laidAll Tryd.prog os laid4) #[.slice none 0 0, .slice none 0 0, .int .i64 0] (World.laidAll_os _ _ _) (by kernel_rfl) (by kernel_rfl) (by kernel_rfl)
      (OpenSpec.preRow_of_cond 8 (x := ([.nil, .nil, .lit (.int .i64 0)], [], [])) (by kernel_rfl) (by kernel_rfl) (fun k hk => by cases hk; kernel_rfl) (by kernel_rfl) (by have := laid_met os #[.slice none 0 0, .slice none 0 0, .int .i64 0]; rwa [MakeChecks.laidMetH_plain _ _ _ (by kernel_rfl)] at this))) ?_
  · obtain ⟨a0, a1, a2, rfl⟩ := len_three hd
    rfl
  intro W args hL hin
  obtain ⟨hT, hU⟩ := tabs_of hL
  obtain ⟨v1, v2, v3, rfl, ⟨⟨_, o1⟩, i1⟩, ⟨⟨_, o2⟩, i2⟩, ⟨⟨_, o3⟩, i3⟩⟩ := hin.three
  obtain ⟨a1, n1, c1, rfl⟩ := okWide_slice Tryd.underlying22 o1
  obtain ⟨a2, n2, c2, rfl⟩ := okWide_slice Tryd.underlying22 o2
  obtain ⟨_, l, e1, g1, bl, wl⟩ := i1.ints Tryd.underlying22 Tryd.underlying21 (by kernel_rfl)
  obtain rfl := List.singleton_inj.1 e1
  obtain ⟨_, b, e2, g2, bb, wb⟩ := i2.ints Tryd.underlying22 Tryd.underlying21 (by kernel_rfl)
  obtain rfl := List.singleton_inj.1 e2
  rw [show Tryd.prog.bytesOf 21 = 4 from by kernel_rfl] at bl bb
  obtain ⟨x3, rfl⟩ := okWide_int Tryd.underlying3 o3
  exact ucell_spans hT hU g1 g2 (uwf_i32 wl) (uwf_i32 wb) (by omega)

theorem ucellSpans_upto : Rows.UcellSpansUptoSaid :=
  OpenClaim.holds_of_cond 5 Tryd.f5 rfl rfl rfl rfl rfl rfl rfl ⟨rfl, rfl, rfl, rfl, rfl⟩ rfl rfl rfl rfl rfl (by kernel_rfl) Tryd.func5 (by kernel_rfl)
    (of_decide_eq_true (by kernel_rfl)) (by unfold Func.isWrapper; first | (rw [if_pos (by decide +kernel)]; kernel_rfl) | (rw [if_neg (by decide +kernel)]; exact ⟨rfl, rfl⟩))
    (fun os started H enc _ F => by rw [OpenClaim.pre_eq_preRow]; exact ucellSpans_liftedU os started H enc F)
theorem ucellSpans_uptoCard : Rows.UcellSpansUptoCardSaid :=
  Claim7.holds_tied_plain_at .later [] [.data, .widerDeep, .widerDeep, .pinned] true (true, "9dd498fbdeeda0e025c1c52de3b75b2b80c7f9301d59f789a3cf18e16acab26f") false
    ucellSpans_upto (fun _ h => by cases h) (by kernel_rfl) (fun _ h => by cases h) ucellSpansUpto_row_tie rfl ⟨rfl, rfl⟩ (by kernel_rfl) rfl
    (fun f fn hf hfn => by
      obtain rfl : f = 5 := Option.some.inj ((show Tryd.prog.funcNamed "lanyard/lanyardlaw01.UcellSpans" = some 5 by kernel_rfl).symm.trans hf) |>.symm
      obtain rfl : fn = Tryd.f5 := (Option.some.inj (Tryd.func5.symm.trans hfn)).symm
      exact ⟨by kernel_rfl, fun j t ht => by
        rw [Tryd.params5] at ht
        have hm : t ∈ [22, 22, 3] := by simpa using Array.mem_of_getElem? ht
        have hall : ([22, 22, 3].all fun u => !Tryd.prog.wantsStandIn u) = true := by kernel_rfl
        exact (show Tryd.prog.wantsStandIn t = false by simpa using List.all_eq_true.1 hall t hm)⟩)
    (by kernel_rfl)
end Go.Proofs.YtmkmffoadapmnaaDoor
