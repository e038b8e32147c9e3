/- UcellStream: the row of the second form, the card. -/
import Derived.Test.YtmkmffoadapmnaaDoorCards
import Derived.Test.YtmkmffoadapmnaaDoorUIn
import Derived.Test.YtmkmffoadapmnaaDoorUSum
import Derived.Test.YtmkmffoadapmnaaDoorLawUStream
import Derived.SevenTiedAt
set_option linter.unusedVariables false
namespace Go.Proofs.YtmkmffoadapmnaaDoor
open Go.ChangeShapes Go.WideShapes Go.ChangeAt Go.RowKit

set_option maxRecDepth 100000 in
theorem ucellStream_liftedU (os : Os) (started : os.Started) (H : Type) (enc : TypeId × Value → H) (F : Stop.Interp) :
    ReturnsInHanded {} Tryd.checked os 7 .any ((Rows.OpenSpec.upto Rows.ucellStreamSpec).preRow enc Tryd.prog Tryd.f7 Rows.ucellStreamUptoRow.domain false laid4) (((Rows.OpenSpec.upto Rows.ucellStreamSpec).at F).post enc Tryd.prog Tryd.f7 false true false false) := by
  refine law_lift_laid_sum (C := Tryd.checked) (tb := 4) (M := 4096) (z := 99) _ (by kernel_rfl) (by decide) (by kernel_rfl) own laid started (by kernel_rfl) Tryd.func7 (congrArg Array.toList Tryd.params7) rfl Tryd.underlying4 rfl (by kernel_rfl) (fun ds hd => ?_)
    (witness_row_at (enc := enc) (C := Tryd.checked) false (World.laidAll Tryd.prog os laid4) #[.slice none 0 0] (World.laidAll_os _ _ _) (by kernel_rfl) (by kernel_rfl) (by kernel_rfl)
      (OpenSpec.preRow_of_cond 8 (x := ([.nil], [], [])) (by kernel_rfl) (by kernel_rfl) (fun k hk => by cases hk; kernel_rfl) (by kernel_rfl) (by have := laid_met os #[.slice none 0 0]; rwa [MakeChecks.laidMetH_plain _ _ _ (by kernel_rfl)] at this))) ?_
  · obtain ⟨a0, rfl⟩ := len_one hd
    rfl
  intro W args hL hin hbulk
  obtain ⟨hT, hU⟩ := tabs_of hL
  obtain ⟨v1, rfl, ⟨_, o1⟩, i1⟩ := hin.one
  obtain ⟨ds, p, hA, hK⟩ := hbulk
  obtain ⟨u, us, d, ds2, a, b, e5, rfl, rfl, ⟨fuel, h5⟩, h6⟩ := trodAll_cons hA
  obtain ⟨rfl, rfl⟩ : v1 = u ∧ us = [] := by simpa using e5
  obtain ⟨a1, n1, c1, rfl⟩ := okWide_slice Tryd.underlying34 o1
  obtain ⟨_, vs, ls, e1, g2, hb2, g3⟩ := i1.row Tryd.underlying34 Tryd.underlying39 Tryd.underlying5 (by kernel_rfl) (by kernel_rfl)
  obtain rfl := List.singleton_inj.1 e1
  have hs := sum_row Tryd.underlying34 Tryd.underlying39 (by kernel_rfl) h5 g2 (fun j hj => (g3 j hj).1)
  refine ucell_stream hT hU g2 (fun k hk => ⟨(g3 k hk).1, uwf_u8 (g3 k hk).2.2⟩) ?_
  simp only [Rows.uptoBulkAll] at hK
  omega

theorem ucellStream_upto : Rows.UcellStreamUptoSaid :=
  OpenClaim.holds_of_cond 7 Tryd.f7 rfl rfl rfl rfl rfl rfl rfl ⟨rfl, rfl, rfl, rfl, rfl⟩ rfl rfl rfl rfl rfl (by kernel_rfl) Tryd.func7 (by kernel_rfl)
    (of_decide_eq_true (by kernel_rfl)) (by unfold Func.isWrapper; first | (rw [if_pos (by decide +kernel)]; kernel_rfl) | (rw [if_neg (by decide +kernel)]; exact ⟨rfl, rfl⟩))
    (fun os started H enc _ F => by rw [OpenClaim.pre_eq_preRow]; exact ucellStream_liftedU os started H enc F)
theorem ucellStream_uptoCard : Rows.UcellStreamUptoCardSaid :=
  Claim7.holds_tied_plain_at .later [] [.data, .widerDeep, .widerDeep, .pinned] true (true, "9dd498fbdeeda0e025c1c52de3b75b2b80c7f9301d59f789a3cf18e16acab26f") false
    ucellStream_upto (fun _ h => by cases h) (by kernel_rfl) (fun _ h => by cases h) ucellStreamUpto_row_tie rfl ⟨rfl, rfl⟩ (by kernel_rfl) rfl
    (fun f fn hf hfn => by
      obtain rfl : f = 7 := Option.some.inj ((show Tryd.prog.funcNamed "lanyard/lanyardlaw01.UcellStream" = some 7 by kernel_rfl).symm.trans hf) |>.symm
      obtain rfl : fn = Tryd.f7 := (Option.some.inj (Tryd.func7.symm.trans hfn)).symm
      exact ⟨by kernel_rfl, fun j t ht => by
        rw [Tryd.params7] at ht
        have hm : t ∈ [34] := by simpa using Array.mem_of_getElem? ht
        have hall : ([34].all fun u => !Tryd.prog.wantsStandIn u) = true := by kernel_rfl
        exact (show Tryd.prog.wantsStandIn t = false by simpa using List.all_eq_true.1 hall t hm)⟩)
    (by kernel_rfl)
end Go.Proofs.YtmkmffoadapmnaaDoor
