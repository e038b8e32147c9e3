/- The document's list of edits: End, Len. -/
import Derived.Test.YtaabgcfeghcmnaaRList
set_option linter.unusedSimpArgs false
set_option linter.unusedVariables false
namespace Go.Proofs.Ytaabgcfeghcmnaa
open Go.RowKit
section
variable {w0 w : World} {F : HP} {p : Nat} {G : List (List EdA)} {N : List EdA} {op : Int}
theorem rl_len_ret (H : Holds w0 w (RList p G N op • F)) : Ret Try.prog 41 #[.pointer (some ⟨p, 0, none⟩)] w fun v w' => v = .int .i64 ((G.length : Int) + min 1 N.length) ∧ Holds w0 w' (RList p G N op • F) := by
  refine ret_enter Try.func41 rfl Try.ntmps41 (Nat.le_of_ble_eq_true rfl) ?_
  dsimp only [slots0, Nat.reduceAdd]
  refine wc_seq ?_
  refine wc_region ?_
  refine wl_val (r_assign rfl) (ltn rfl) ?_
  refine wl_nil ?_
  refine wq_seq ?_
  refine wc_seq ?_
  obtain ⟨gw_p, nw_p, gs_p, now_p, k1_p, k2_p, k3_p, k4_p, k5_p, k6_p, HU_p⟩ := (H).rlist
  refine wc_region ?_
  refine wl_val (r_move rfl) (ltn rfl) ?_
  refine wl_val (r_nil rfl) (ltn rfl) ?_
  refine wl_val ((by first | exact r_field0 0 Try.underlying45 rfl rfl Try.sizeOf43 (by decide) rfl | exact r_field 0 Try.underlying45 rfl rfl Try.sizeOf43 (by decide) rfl)) (ltn rfl) ?_
  refine wl_val (r_load (plain_of Try.underlying43 rfl) rfl (cell_of_blk (HU_p).get.2 rfl)) (ltn rfl) ?_
  refine wl_val (r_lenS ((HU_p.f2).row_rd) Try.underlying43 rfl) (ltn rfl) ?_
  refine wl_val (r_assign rfl) (ltn rfl) ?_
  refine wl_nil ?_
  refine wq_seq ?_
  refine wc_seq ?_
  refine wc_seq ?_
  refine wc_region ?_
  refine wl_val (r_move rfl) (ltn rfl) ?_
  refine wl_val (r_nil rfl) (ltn rfl) ?_
  refine wl_val ((by first | exact r_field0 2 Try.underlying45 rfl rfl Try.sizeOf39 (by decide) rfl | exact r_field 2 Try.underlying45 rfl rfl Try.sizeOf39 (by decide) rfl)) (ltn rfl) ?_
  refine wl_val (r_load (plain_of Try.underlying39 rfl) rfl (cell_of_blk (HU_p).get.2 rfl)) (ltn rfl) ?_
  refine wl_val (r_lenS ((HU_p.f4).row_rd) Try.underlying39 rfl) (ltn rfl) ?_
  refine wl_val (r_gtr rfl rfl) (ltn rfl) ?_
  refine wl_nil ?_
  refine wq_seq ?_
  refine wc_cond rfl (fun h1 => ?_) (fun h1 => ?_)
  · (try simp only [beq_iff_eq, bne_iff_ne, ne_eq, decide_eq_true_eq, decide_eq_false_iff_not, beq_eq_false_iff_ne, bne_eq_false_iff_eq, Bool.not_eq_true', Bool.not_eq_false', Bool.not_eq_eq_eq_not, Bool.not_true, Bool.not_false, gt_iff_lt, ge_iff_le, Int.not_lt, Int.not_le] at h1)
    have hnow : 0 < now_p.length := by omega
    refine wc_region ?_
    refine wl_val (r_move rfl) (ltn rfl) ?_
    refine wl_val (r_add rfl rfl (by omega)) (ltn rfl) ?_
    refine wl_val (r_assign rfl) (ltn rfl) ?_
    refine wl_nil ?_
    refine wq_seq ?_
    refine wc_seq ?_
    refine wc_region ?_
    refine wl_val (r_move rfl) (ltn rfl) ?_
    refine wl_val (r_assign rfl) (ltn rfl) ?_
    refine wl_nil ?_
    refine wq_seq ?_
    refine wc_ret ?_
    refine wq_end1 (.inl rfl) Try.results41 rfl ?_
    have Ho3 := HU_p.f5.f5.f5.f5.f5
    have Hc4 := Holds.mk_rlistF k1_p k2_p k3_p Ho3
    exact ⟨by congr 1; omega, Hc4⟩
  · (try simp only [beq_iff_eq, bne_iff_ne, ne_eq, decide_eq_true_eq, decide_eq_false_iff_not, beq_eq_false_iff_ne, bne_eq_false_iff_eq, Bool.not_eq_true', Bool.not_eq_false', Bool.not_eq_eq_eq_not, Bool.not_true, Bool.not_false, gt_iff_lt, ge_iff_le, Int.not_lt, Int.not_le] at h1)
    have hnow : now_p.length = 0 := by omega
    refine wc_skip ?_
    refine wq_seq ?_
    refine wc_seq ?_
    refine wc_region ?_
    refine wl_val (r_move rfl) (ltn rfl) ?_
    refine wl_val (r_assign rfl) (ltn rfl) ?_
    refine wl_nil ?_
    refine wq_seq ?_
    refine wc_ret ?_
    refine wq_end1 (.inl rfl) Try.results41 rfl ?_
    have Ho6 := HU_p.f5.f5.f5.f5.f5
    have Hc7 := Holds.mk_rlistF k1_p k2_p k3_p Ho6
    exact ⟨by congr 1; omega, Hc7⟩
theorem rl_end_ret (H : Holds w0 w (RList p G N op • F)) : Ret Try.prog 35 #[.pointer (some ⟨p, 0, none⟩)] w fun v w' => v = .int .i64 (endE op) ∧ Holds w0 w' (RList p (endG G N op) (endN N op) (endO op) • F) := by
  unfold endE endG endN endO
  refine ret_enter Try.func35 rfl Try.ntmps35 (Nat.le_of_ble_eq_true rfl) ?_
  dsimp only [slots0, Nat.reduceAdd]
  refine wc_seq ?_
  refine wc_region ?_
  refine wl_val (r_assign rfl) (ltn rfl) ?_
  refine wl_nil ?_
  refine wq_seq ?_
  refine wc_seq ?_
  refine wc_seq ?_
  obtain ⟨gw_p, nw_p, gs_p, now_p, k1_p, k2_p, k3_p, k4_p, k5_p, k6_p, HU_p⟩ := (H).rlist
  have hop := k1_p.2.2.1
  have hop2 := k1_p.2.2.2.1
  refine wc_region ?_
  refine wl_val (r_move rfl) (ltn rfl) ?_
  refine wl_val (r_nil rfl) (ltn rfl) ?_
  refine wl_val ((by first | exact r_field0 1 Try.underlying45 rfl rfl Try.sizeOf3 (by decide) rfl | exact r_field 1 Try.underlying45 rfl rfl Try.sizeOf3 (by decide) rfl)) (ltn rfl) ?_
  refine wl_val (r_load (plain_of Try.underlying3 rfl) rfl (cell_of_blk (HU_p).get.2 rfl)) (ltn rfl) ?_
  refine wl_val (r_eql rfl rfl) (ltn rfl) ?_
  refine wl_nil ?_
  refine wq_seq ?_
  refine wc_cond rfl (fun h1 => ?_) (fun h1 => ?_)
  · (try simp only [beq_iff_eq, bne_iff_ne, ne_eq, decide_eq_true_eq, decide_eq_false_iff_not, beq_eq_false_iff_ne, bne_eq_false_iff_eq, Bool.not_eq_true', Bool.not_eq_false', Bool.not_eq_eq_eq_not, Bool.not_true, Bool.not_false, gt_iff_lt, ge_iff_le, Int.not_lt, Int.not_le] at h1)
    have h0 : op = 0 := by omega
    refine wc_seq ?_
    refine wc_region ?_
    refine wl_val (r_assign rfl) (ltn rfl) ?_
    refine wl_nil ?_
    refine wq_seq ?_
    refine wc_ret ?_
    refine wq_then_ret ?_
    refine wq_end1 (.inl rfl) Try.results35 rfl ?_
    have Ho3 := HU_p.f5.f5.f5.f5.f5
    have Hc4 := Holds.mk_rlistF k1_p k2_p k3_p Ho3
    subst h0
    exact ⟨rfl, Hc4⟩
  · (try simp only [beq_iff_eq, bne_iff_ne, ne_eq, decide_eq_true_eq, decide_eq_false_iff_not, beq_eq_false_iff_ne, bne_eq_false_iff_eq, Bool.not_eq_true', Bool.not_eq_false', Bool.not_eq_eq_eq_not, Bool.not_true, Bool.not_false, gt_iff_lt, ge_iff_le, Int.not_lt, Int.not_le] at h1)
    have h0 : ¬ op = 0 := by omega
    refine wc_skip ?_
    refine wq_seq ?_
    refine wc_seq ?_
    refine wc_region ?_
    refine wl_val (r_move rfl) (ltn rfl) ?_
    refine wl_val (r_nil rfl) (ltn rfl) ?_
    refine wl_val ((by first | exact r_field0 1 Try.underlying45 rfl rfl Try.sizeOf3 (by decide) rfl | exact r_field 1 Try.underlying45 rfl rfl Try.sizeOf3 (by decide) rfl)) (ltn rfl) ?_
    refine wl_val (r_load (plain_of Try.underlying3 rfl) rfl (cell_of_blk (HU_p).get.2 rfl)) (ltn rfl) ?_
    refine wl_val (r_sub rfl rfl (by omega)) (ltn rfl) ?_
    refine wl_val (r_nil rfl) (ltn rfl) ?_
    refine wl_val ((by first | exact r_field0 1 Try.underlying45 rfl rfl Try.sizeOf3 (by decide) rfl | exact r_field 1 Try.underlying45 rfl rfl Try.sizeOf3 (by decide) rfl)) (ltn rfl) ?_
    refine wl_eff0 (e_storeL 1 (l' := [_, _, _]) HU_p Try.sizeOf3 rfl rfl (by first | rfl | assumption) rfl rfl) ?_
    rintro _ w5 H5
    refine wl_nil ?_
    refine wq_seq ?_
    refine wc_seq ?_
    refine wc_seq ?_
    refine wc_region ?_
    refine wl_val (r_move rfl) (ltn rfl) ?_
    refine wl_val (r_nil rfl) (ltn rfl) ?_
    refine wl_val ((by first | exact r_field0 1 Try.underlying45 rfl rfl Try.sizeOf3 (by decide) rfl | exact r_field 1 Try.underlying45 rfl rfl Try.sizeOf3 (by decide) rfl)) (ltn rfl) ?_
    refine wl_val (r_load (plain_of Try.underlying3 rfl) rfl (cell_of_blk (H5).get.2 rfl)) (ltn rfl) ?_
    refine wl_val (r_eql rfl rfl) (ltn rfl) ?_
    refine wl_nil ?_
    refine wq_seq ?_
    refine wc_cond rfl (fun h2 => ?_) (fun h2 => ?_)
    · (try simp only [beq_iff_eq, bne_iff_ne, ne_eq, decide_eq_true_eq, decide_eq_false_iff_not, beq_eq_false_iff_ne, bne_eq_false_iff_eq, Bool.not_eq_true', Bool.not_eq_false', Bool.not_eq_eq_eq_not, Bool.not_true, Bool.not_false, gt_iff_lt, ge_iff_le, Int.not_lt, Int.not_le] at h2)
      have h1 : op = 1 := by omega
      have Ho6 := H5.f5.f5.f5.f5.f5
      have Hc7 := Holds.mk_rlistF (op := op - 1) ⟨k1_p.1, k1_p.2.1, by omega, by omega, k1_p.2.2.2.2⟩ k2_p k3_p Ho6
      refine wc_region ?_
      refine wl_val (r_move rfl) (ltn rfl) ?_
      refine wl_eff (e_call (r_call rfl Try.func57 rfl rfl) (rl_close_ret Hc7)) (ltn rfl) ?_
      rintro _ w8 H8
      refine wl_nil ?_
      refine wq_seq ?_
      refine wc_seq ?_
      refine wc_region ?_
      refine wl_val (r_assign rfl) (ltn rfl) ?_
      refine wl_nil ?_
      refine wq_seq ?_
      refine wc_ret ?_
      refine wq_end1 (.inl rfl) Try.results35 rfl ?_
      subst h1
      exact ⟨rfl, H8⟩
    · (try simp only [beq_iff_eq, bne_iff_ne, ne_eq, decide_eq_true_eq, decide_eq_false_iff_not, beq_eq_false_iff_ne, bne_eq_false_iff_eq, Bool.not_eq_true', Bool.not_eq_false', Bool.not_eq_eq_eq_not, Bool.not_true, Bool.not_false, gt_iff_lt, ge_iff_le, Int.not_lt, Int.not_le] at h2)
      have h1 : ¬ op = 1 := by omega
      refine wc_skip ?_
      refine wq_seq ?_
      refine wc_seq ?_
      refine wc_region ?_
      refine wl_val (r_assign rfl) (ltn rfl) ?_
      refine wl_nil ?_
      refine wq_seq ?_
      refine wc_ret ?_
      refine wq_end1 (.inl rfl) Try.results35 rfl ?_
      rw [if_neg h0, if_neg h1, if_neg h1, if_neg h0]
      exact ⟨rfl, Holds.mk_rlistF ⟨k1_p.1, k1_p.2.1, by omega, by omega, k1_p.2.2.2.2⟩ k2_p k3_p H5.f5.f5.f5.f5.f5⟩
end
end Go.Proofs.Ytaabgcfeghcmnaa
