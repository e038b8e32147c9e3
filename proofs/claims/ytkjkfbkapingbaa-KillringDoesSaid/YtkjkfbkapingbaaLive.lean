/- The answers that the document fixes: live. -/
import Derived.Test.YtkjkfbkapingbaaRing3
set_option linter.unusedSimpArgs false
set_option linter.unusedVariables false
namespace Go.Proofs.Ytkjkfbkapingbaa
open Go.RowKit
theorem live_ret {w0 w : World} {F : HP} (H : Holds w0 w F) : Ret Try.prog 10 #[] w fun v w' => v = .bool true ∧ Holds w0 w' F := by
  refine ret_enter Try.func10 rfl Try.ntmps10 (Nat.le_of_ble_eq_true rfl) ?_
  dsimp only [slots0, Nat.reduceAdd]
  refine wc_seq ?_
  refine wc_region ?_
  refine wl_val (r_assign rfl) (ltn rfl) ?_
  refine wl_nil ?_
  refine wq_seq ?_
  refine wc_seq ?_
  refine wc_region ?_
  refine wl_eff (e_call (r_call rfl Try.func9 rfl rfl) (ring_new_ret H)) (ltn rfl) ?_
  rintro _ w1 ⟨p, rfl, H1⟩
  refine wl_val (r_assign rfl) (ltn rfl) ?_
  refine wl_nil ?_
  refine wq_seq ?_
  refine wc_seq ?_
  refine wc_seq ?_
  refine wc_region ?_
  refine wl_val (r_move rfl) (ltn rfl) ?_
  refine wl_val (r_ptr_nil Try.underlying24 rfl rfl) (ltn rfl) ?_
  refine wl_split rfl (ltn rfl) (fun h => by exfalso; (try simp only [beq_iff_eq, bne_iff_ne, ne_eq, decide_eq_true_eq, decide_eq_false_iff_not, beq_eq_false_iff_ne, bne_eq_false_iff_eq, Bool.not_eq_true', Bool.not_eq_false', Bool.not_eq_eq_eq_not, Bool.not_true, Bool.not_false, gt_iff_lt, ge_iff_le, Int.not_lt, Int.not_le] at h); simp at h) (fun h1 => ?_)
  (try simp only [beq_iff_eq, bne_iff_ne, ne_eq, decide_eq_true_eq, decide_eq_false_iff_not, beq_eq_false_iff_ne, bne_eq_false_iff_eq, Bool.not_eq_true', Bool.not_eq_false', Bool.not_eq_eq_eq_not, Bool.not_true, Bool.not_false, gt_iff_lt, ge_iff_le, Int.not_lt, Int.not_le] at h1)
  refine wl_yes rfl rfl ?_
  refine wl_val (r_move rfl) (ltn rfl) ?_
  refine wl_yes rfl rfl ?_
  refine wl_eff (e_lit (vs := [.int .i32 97]) H1 Try.underlying22 Try.sizeOf21 Try.zeroValue21 rfl rfl rfl (by decide) (by simp [Value.oneCell'])) (ltn rfl) ?_
  rintro _ w2 ⟨ba, rfl, H2⟩
  refine wl_yes rfl rfl ?_
  refine wl_eff (e_call (r_call rfl Try.func11 rfl rfl) (ring_kill_ret H2.swap (lit_frd (k := .i32) [97] (by decide)))) (ltn rfl) ?_
  rintro _ w3 ⟨hv, H3⟩
  rw [show killM [] 0 0 [97] = (0, [[97]], 0) from by decide] at hv H3
  dsimp only at hv H3
  subst hv
  refine wl_yes rfl rfl ?_
  refine wl_val (r_neq rfl rfl) (ltn rfl) ?_
  refine wl_val (r_pick_f rfl rfl) (ltn rfl) ?_
  refine wl_split rfl (ltn rfl) (fun h => by exfalso; (try simp only [beq_iff_eq, bne_iff_ne, ne_eq, decide_eq_true_eq, decide_eq_false_iff_not, beq_eq_false_iff_ne, bne_eq_false_iff_eq, Bool.not_eq_true', Bool.not_eq_false', Bool.not_eq_eq_eq_not, Bool.not_true, Bool.not_false, gt_iff_lt, ge_iff_le, Int.not_lt, Int.not_le] at h); first | contradiction | omega | (simp at h <;> omega)) (fun h2 => ?_)
  (try simp only [beq_iff_eq, bne_iff_ne, ne_eq, decide_eq_true_eq, decide_eq_false_iff_not, beq_eq_false_iff_ne, bne_eq_false_iff_eq, Bool.not_eq_true', Bool.not_eq_false', Bool.not_eq_eq_eq_not, Bool.not_true, Bool.not_false, gt_iff_lt, ge_iff_le, Int.not_lt, Int.not_le] at h2)
  refine wl_yes rfl rfl ?_
  refine wl_val (r_move rfl) (ltn rfl) ?_
  refine wl_yes rfl rfl ?_
  refine wl_eff (e_lit (vs := [.int .i32 98]) H3 Try.underlying22 Try.sizeOf21 Try.zeroValue21 rfl rfl rfl (by decide) (by simp [Value.oneCell'])) (ltn rfl) ?_
  rintro _ w4 ⟨bb, rfl, H4⟩
  refine wl_yes rfl rfl ?_
  refine wl_eff (e_call (r_call rfl Try.func11 rfl rfl) (ring_kill_ret H4.swap (lit_frd (k := .i32) [98] (by decide)))) (ltn rfl) ?_
  rintro _ w5 ⟨hv, H5⟩
  rw [show killM [[97]] 0 1 [98] = (0, [[97, 98]], 0) from by decide] at hv H5
  dsimp only at hv H5
  subst hv
  refine wl_yes rfl rfl ?_
  refine wl_val (r_neq rfl rfl) (ltn rfl) ?_
  refine wl_val (r_pick_f rfl rfl) (ltn rfl) ?_
  refine wl_nil ?_
  refine wq_seq ?_
  refine wc_cond rfl (fun h => by exfalso; (try simp only [beq_iff_eq, bne_iff_ne, ne_eq, decide_eq_true_eq, decide_eq_false_iff_not, beq_eq_false_iff_ne, bne_eq_false_iff_eq, Bool.not_eq_true', Bool.not_eq_false', Bool.not_eq_eq_eq_not, Bool.not_true, Bool.not_false, gt_iff_lt, ge_iff_le, Int.not_lt, Int.not_le] at h); first | contradiction | omega | (simp at h <;> omega)) (fun h3 => ?_)
  (try simp only [beq_iff_eq, bne_iff_ne, ne_eq, decide_eq_true_eq, decide_eq_false_iff_not, beq_eq_false_iff_ne, bne_eq_false_iff_eq, Bool.not_eq_true', Bool.not_eq_false', Bool.not_eq_eq_eq_not, Bool.not_true, Bool.not_false, gt_iff_lt, ge_iff_le, Int.not_lt, Int.not_le] at h3)
  refine wc_skip ?_
  refine wq_seq ?_
  refine wc_seq ?_
  refine wc_region ?_
  refine wl_val (r_move rfl) (ltn rfl) ?_
  refine wl_eff (e_call (r_call rfl Try.func12 rfl rfl) (ring_yank_ret H5 (by decide))) (ltn rfl) ?_
  rintro _ w6 ⟨u, rfl, H6⟩
  refine wl_val (r_move rfl) (ltn rfl) ?_
  refine wl_val (r_extract rfl rfl) (ltn rfl) ?_
  refine wl_val (r_extract rfl rfl) (ltn rfl) ?_
  refine wl_val (r_assign rfl) (ltn rfl) ?_
  refine wl_val (r_assign rfl) (ltn rfl) ?_
  refine wl_nil ?_
  refine wq_seq ?_
  refine wc_seq ?_
  refine wc_region ?_
  refine wl_val (r_move rfl) (ltn rfl) ?_
  refine wl_val (r_eql rfl rfl) (ltn rfl) ?_
  refine wl_split rfl (ltn rfl) (fun h4 => ?_) (fun h => by exfalso; (try simp only [beq_iff_eq, bne_iff_ne, ne_eq, decide_eq_true_eq, decide_eq_false_iff_not, beq_eq_false_iff_ne, bne_eq_false_iff_eq, Bool.not_eq_true', Bool.not_eq_false', Bool.not_eq_eq_eq_not, Bool.not_true, Bool.not_false, gt_iff_lt, ge_iff_le, Int.not_lt, Int.not_le] at h); first | contradiction | omega | (simp at h <;> omega))
  (try simp only [beq_iff_eq, bne_iff_ne, ne_eq, decide_eq_true_eq, decide_eq_false_iff_not, beq_eq_false_iff_ne, bne_eq_false_iff_eq, Bool.not_eq_true', Bool.not_eq_false', Bool.not_eq_eq_eq_not, Bool.not_true, Bool.not_false, gt_iff_lt, ge_iff_le, Int.not_lt, Int.not_le] at h4)
  refine wl_yes rfl rfl ?_
  refine wl_val (r_move rfl) (ltn rfl) ?_
  refine wl_yes rfl rfl ?_
  refine wl_val (r_runes_str Try.underlying22 Try.underlying9 Try.underlying21 rfl H6.row_rd) (ltn rfl) ?_
  refine wl_yes rfl rfl ?_
  refine wl_val (r_known_t (r_str_eql rfl rfl) (by decide +kernel)) (ltn rfl) ?_
  refine wl_val (r_pick_t rfl rfl) (ltn rfl) ?_
  refine wl_val (r_move rfl) (ltn rfl) ?_
  refine wl_yes rfl rfl ?_
  refine wl_val (r_move rfl) (ltn rfl) ?_
  refine wl_yes rfl rfl ?_
  refine wl_eff (e_call (r_call rfl Try.func14 rfl rfl) (ring_len_ret H6.swap)) (ltn rfl) ?_
  rintro _ _ ⟨rfl, rfl⟩
  refine wl_yes rfl rfl ?_
  refine wl_val (r_known_t (r_eql rfl rfl) (by decide +kernel)) (ltn rfl) ?_
  refine wl_val (r_pick_t rfl rfl) (ltn rfl) ?_
  refine wl_val (r_assign rfl) (ltn rfl) ?_
  refine wl_nil ?_
  refine wq_seq ?_
  refine wc_ret ?_
  refine wq_end1 (.inl rfl) Try.results10 rfl ?_
  exact ⟨rfl, H6.right.right.right.right⟩
end Go.Proofs.Ytkjkfbkapingbaa
