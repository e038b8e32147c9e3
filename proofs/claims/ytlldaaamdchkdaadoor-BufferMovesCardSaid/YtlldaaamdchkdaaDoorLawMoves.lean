/- BufferMoves, walked. -/
import Derived.Test.YtlldaaamdchkdaaDoorFind
import Derived.Test.YtlldaaamdchkdaaDoorBLive
set_option linter.unusedSimpArgs false
set_option linter.unusedVariables false
namespace Go.Proofs.YtlldaaamdchkdaaDoor
open Go.RowKit
attribute [local irreducible] wordStartM wordEndM nextM prevM withinM overM backM letterM blankEndM blankStartM
theorem buffer_moves {w : World} {v : Value} {l : List Int} {x r : Int} (hT : Tabs w) (g : RdI w .i32 v l) (hb : l.length ≤ 35184372088832) :
    Ret Tryd.prog 7 #[v, .int .i64 x, .int .i32 r] w fun v w' => v = .bool true ∧ Below w.heap.size w w' := by
  have H := Holds.start w
  obtain ⟨a1, c1, hv1, _, _, _⟩ := g.open
  subst hv1
  refine ret_enter Tryd.func7 rfl Tryd.ntmps7 (Nat.le_of_ble_eq_true rfl) ?_
  dsimp only [slots0, Nat.reduceAdd]
  refine wc_seq ?_
  refine wc_region ?_
  refine wl_val (r_assign rfl) (by decide) ?_
  refine wl_nil ?_
  refine wq_seq ?_
  refine wc_seq ?_
  refine wc_region ?_
  refine wl_val (r_move rfl) (by decide) ?_
  refine wl_val (r_move rfl) (by decide) ?_
  refine wl_val (r_move rfl) (by decide) ?_
  refine wl_eff (e_call (r_call rfl Tryd.func31 rfl rfl) (find_f_ret g hb)) (by decide) ?_
  rintro _ _ ⟨i1, e1, rfl, hf1, rfl⟩
  refine wl_val (r_move rfl) (by decide) ?_
  refine wl_val (r_extract rfl rfl) (by decide) ?_
  refine wl_val (r_extract rfl rfl) (by decide) ?_
  refine wl_val (r_assign rfl) (by decide) ?_
  refine wl_val (r_assign rfl) (by decide) ?_
  refine wl_nil ?_
  refine wq_seq ?_
  refine wc_seq ?_
  refine wc_region ?_
  refine wl_val (r_move rfl) (by decide) ?_
  refine wl_val (r_move rfl) (by decide) ?_
  refine wl_val (r_move rfl) (by decide) ?_
  refine wl_eff (e_call (r_call rfl Tryd.func32 rfl rfl) (ref_find_f_ret g hb)) (by decide) ?_
  rintro _ _ ⟨i2, e2, rfl, hf2, rfl⟩
  obtain ⟨rfl, rfl⟩ := findF_one hf1 hf2
  refine wl_val (r_move rfl) (by decide) ?_
  refine wl_val (r_extract rfl rfl) (by decide) ?_
  refine wl_val (r_extract rfl rfl) (by decide) ?_
  refine wl_val (r_assign rfl) (by decide) ?_
  refine wl_val (r_assign rfl) (by decide) ?_
  refine wl_nil ?_
  refine wq_seq ?_
  refine wc_seq ?_
  refine wc_region ?_
  refine wl_val (r_move rfl) (by decide) ?_
  refine wl_val (r_move rfl) (by decide) ?_
  refine wl_val (r_move rfl) (by decide) ?_
  refine wl_eff (e_call (r_call rfl Tryd.func31 rfl rfl) (find_b_ret g hb)) (by decide) ?_
  rintro _ _ ⟨i3, e3, rfl, hf3, rfl⟩
  refine wl_val (r_move rfl) (by decide) ?_
  refine wl_val (r_extract rfl rfl) (by decide) ?_
  refine wl_val (r_extract rfl rfl) (by decide) ?_
  refine wl_val (r_assign rfl) (by decide) ?_
  refine wl_val (r_assign rfl) (by decide) ?_
  refine wl_nil ?_
  refine wq_seq ?_
  refine wc_seq ?_
  refine wc_region ?_
  refine wl_val (r_move rfl) (by decide) ?_
  refine wl_val (r_move rfl) (by decide) ?_
  refine wl_val (r_move rfl) (by decide) ?_
  refine wl_eff (e_call (r_call rfl Tryd.func32 rfl rfl) (ref_find_b_ret g hb)) (by decide) ?_
  rintro _ _ ⟨i4, e4, rfl, hf4, rfl⟩
  obtain ⟨rfl, rfl⟩ := findB_one hf3 hf4
  refine wl_val (r_move rfl) (by decide) ?_
  refine wl_val (r_extract rfl rfl) (by decide) ?_
  refine wl_val (r_extract rfl rfl) (by decide) ?_
  refine wl_val (r_assign rfl) (by decide) ?_
  refine wl_val (r_assign rfl) (by decide) ?_
  refine wl_nil ?_
  refine wq_seq ?_
  refine wc_seq ?_
  refine wc_region ?_
  refine wl_eff (e_call (r_call rfl Tryd.func12 rfl rfl) (live_ret H hT)) (by decide) ?_
  rintro _ w5 ⟨rfl, H5⟩
  refine wl_val (r_move rfl) (by decide) ?_
  refine wl_yes rfl rfl ?_
  refine wl_val (r_move rfl) (by decide) ?_
  refine wl_yes rfl rfl ?_
  refine wl_val (r_move rfl) (by decide) ?_
  refine wl_yes rfl rfl ?_
  refine wl_val (r_known_t (r_eql rfl rfl) (by simp)) (by decide) ?_
  refine wl_val (r_pick_t rfl rfl) (by decide) ?_
  refine wl_val (r_move rfl) (by decide) ?_
  refine wl_yes rfl rfl ?_
  refine wl_val (r_move rfl) (by decide) ?_
  refine wl_yes rfl rfl ?_
  refine wl_val (r_move rfl) (by decide) ?_
  refine wl_yes rfl rfl ?_
  refine wl_val (r_known_t (r_eql_bool Tryd.underlying4 rfl rfl) (by simp)) (by decide) ?_
  refine wl_val (r_pick_t rfl rfl) (by decide) ?_
  refine wl_val (r_move rfl) (by decide) ?_
  refine wl_yes rfl rfl ?_
  refine wl_val (r_move rfl) (by decide) ?_
  refine wl_yes rfl rfl ?_
  refine wl_val (r_move rfl) (by decide) ?_
  refine wl_yes rfl rfl ?_
  refine wl_val (r_known_t (r_eql rfl rfl) (by simp)) (by decide) ?_
  refine wl_val (r_pick_t rfl rfl) (by decide) ?_
  refine wl_val (r_move rfl) (by decide) ?_
  refine wl_yes rfl rfl ?_
  refine wl_val (r_move rfl) (by decide) ?_
  refine wl_yes rfl rfl ?_
  refine wl_val (r_move rfl) (by decide) ?_
  refine wl_yes rfl rfl ?_
  refine wl_val (r_known_t (r_eql_bool Tryd.underlying4 rfl rfl) (by simp)) (by decide) ?_
  refine wl_val (r_pick_t rfl rfl) (by decide) ?_
  refine wl_val (r_move rfl) (by decide) ?_
  refine wl_yes rfl rfl ?_
  refine wl_val (r_move rfl) (by decide) ?_
  refine wl_yes rfl rfl ?_
  refine wl_val (r_move rfl) (by decide) ?_
  refine wl_yes rfl rfl ?_
  refine wl_eff (e_call (r_call rfl Tryd.func29 rfl rfl) (next_ret H5 hT (FRdI.of_start g _))) (by decide) ?_
  rintro _ w6 ⟨rfl, H6⟩
  refine wl_yes rfl rfl ?_
  refine wl_val (r_move rfl) (by decide) ?_
  refine wl_yes rfl rfl ?_
  refine wl_val (r_move rfl) (by decide) ?_
  refine wl_yes rfl rfl ?_
  refine wl_eff (e_call (r_call rfl Tryd.func33 rfl rfl) (ref_next_ret H6 (FRdI.of_start g _))) (by decide) ?_
  rintro _ w7 ⟨rfl, H7⟩
  refine wl_yes rfl rfl ?_
  refine wl_val (r_known_t (r_eql rfl rfl) (by simp)) (by decide) ?_
  refine wl_val (r_pick_t rfl rfl) (by decide) ?_
  refine wl_val (r_move rfl) (by decide) ?_
  refine wl_yes rfl rfl ?_
  refine wl_val (r_move rfl) (by decide) ?_
  refine wl_yes rfl rfl ?_
  refine wl_val (r_move rfl) (by decide) ?_
  refine wl_yes rfl rfl ?_
  refine wl_eff (e_call (r_call rfl Tryd.func30 rfl rfl) (prev_ret H7 hT (FRdI.of_start g _))) (by decide) ?_
  rintro _ w8 ⟨rfl, H8⟩
  refine wl_yes rfl rfl ?_
  refine wl_val (r_move rfl) (by decide) ?_
  refine wl_yes rfl rfl ?_
  refine wl_val (r_move rfl) (by decide) ?_
  refine wl_yes rfl rfl ?_
  refine wl_eff (e_call (r_call rfl Tryd.func34 rfl rfl) (ref_prev_ret H8 (FRdI.of_start g _))) (by decide) ?_
  rintro _ w9 ⟨rfl, H9⟩
  refine wl_yes rfl rfl ?_
  refine wl_val (r_known_t (r_eql rfl rfl) (by simp)) (by decide) ?_
  refine wl_val (r_pick_t rfl rfl) (by decide) ?_
  refine wl_val (r_move rfl) (by decide) ?_
  refine wl_yes rfl rfl ?_
  refine wl_val (r_move rfl) (by decide) ?_
  refine wl_yes rfl rfl ?_
  refine wl_val (r_move rfl) (by decide) ?_
  refine wl_yes rfl rfl ?_
  refine wl_eff (e_call (r_call rfl Tryd.func28 rfl rfl) (word_end_ret H9 hT (FRdI.of_start g _))) (by decide) ?_
  rintro _ w10 ⟨rfl, H10⟩
  refine wl_yes rfl rfl ?_
  refine wl_val (r_move rfl) (by decide) ?_
  refine wl_yes rfl rfl ?_
  refine wl_val (r_move rfl) (by decide) ?_
  refine wl_yes rfl rfl ?_
  refine wl_eff (e_call (r_call rfl Tryd.func35 rfl rfl) (ref_word_end_ret H10 (FRdI.of_start g _))) (by decide) ?_
  rintro _ w11 ⟨rfl, H11⟩
  refine wl_yes rfl rfl ?_
  refine wl_val (r_known_t (r_eql rfl rfl) (by simp)) (by decide) ?_
  refine wl_val (r_pick_t rfl rfl) (by decide) ?_
  refine wl_val (r_move rfl) (by decide) ?_
  refine wl_yes rfl rfl ?_
  refine wl_val (r_move rfl) (by decide) ?_
  refine wl_yes rfl rfl ?_
  refine wl_val (r_move rfl) (by decide) ?_
  refine wl_yes rfl rfl ?_
  refine wl_eff (e_call (r_call rfl Tryd.func27 rfl rfl) (word_start_ret H11 hT (FRdI.of_start g _))) (by decide) ?_
  rintro _ w12 ⟨rfl, H12⟩
  refine wl_yes rfl rfl ?_
  refine wl_val (r_move rfl) (by decide) ?_
  refine wl_yes rfl rfl ?_
  refine wl_val (r_move rfl) (by decide) ?_
  refine wl_yes rfl rfl ?_
  refine wl_eff (e_call (r_call rfl Tryd.func36 rfl rfl) (ref_word_start_ret H12 (FRdI.of_start g _))) (by decide) ?_
  rintro _ w13 ⟨rfl, H13⟩
  refine wl_yes rfl rfl ?_
  refine wl_val (r_known_t (r_eql rfl rfl) (by simp)) (by decide) ?_
  refine wl_val (r_pick_t rfl rfl) (by decide) ?_
  refine wl_val (r_move rfl) (by decide) ?_
  refine wl_yes rfl rfl ?_
  refine wl_val (r_move rfl) (by decide) ?_
  refine wl_yes rfl rfl ?_
  refine wl_val (r_move rfl) (by decide) ?_
  refine wl_yes rfl rfl ?_
  refine wl_eff (e_call (r_call rfl Tryd.func37 rfl rfl) (blank_start_ret H13 (FRdI.of_start g _))) (by decide) ?_
  rintro _ w14 ⟨rfl, H14⟩
  refine wl_yes rfl rfl ?_
  refine wl_val (r_move rfl) (by decide) ?_
  refine wl_yes rfl rfl ?_
  refine wl_val (r_move rfl) (by decide) ?_
  refine wl_yes rfl rfl ?_
  refine wl_eff (e_call (r_call rfl Tryd.func38 rfl rfl) (ref_blank_start_ret H14 (FRdI.of_start g _))) (by decide) ?_
  rintro _ w15 ⟨rfl, H15⟩
  refine wl_yes rfl rfl ?_
  refine wl_val (r_known_t (r_eql rfl rfl) (by simp)) (by decide) ?_
  refine wl_val (r_pick_t rfl rfl) (by decide) ?_
  refine wl_val (r_move rfl) (by decide) ?_
  refine wl_yes rfl rfl ?_
  refine wl_val (r_move rfl) (by decide) ?_
  refine wl_yes rfl rfl ?_
  refine wl_val (r_move rfl) (by decide) ?_
  refine wl_yes rfl rfl ?_
  refine wl_eff (e_call (r_call rfl Tryd.func39 rfl rfl) (blank_end_ret H15 (FRdI.of_start g _))) (by decide) ?_
  rintro _ w16 ⟨rfl, H16⟩
  refine wl_yes rfl rfl ?_
  refine wl_val (r_move rfl) (by decide) ?_
  refine wl_yes rfl rfl ?_
  refine wl_val (r_move rfl) (by decide) ?_
  refine wl_yes rfl rfl ?_
  refine wl_eff (e_call (r_call rfl Tryd.func40 rfl rfl) (ref_blank_end_ret H16 (FRdI.of_start g _))) (by decide) ?_
  rintro _ w17 ⟨rfl, H17⟩
  refine wl_yes rfl rfl ?_
  refine wl_val (r_known_t (r_eql rfl rfl) (by simp)) (by decide) ?_
  refine wl_val (r_pick_t rfl rfl) (by decide) ?_
  refine wl_val (r_assign rfl) (by decide) ?_
  refine wl_nil ?_
  refine wq_seq ?_
  refine wc_ret ?_
  refine wq_end1 (.inl rfl) Tryd.results7 rfl ?_
  exact ⟨rfl, H17.base⟩
end Go.Proofs.YtlldaaamdchkdaaDoor
