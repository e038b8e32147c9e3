/- shwords: classes of runes, states. -/
import Derived.Test.YtgoopiakpbcgoaaShM
set_option linter.unusedSimpArgs false
set_option linter.unusedVariables false
namespace Go.Proofs.Ytgoopiakpbcgoaa
open Go.RowKit Go.Lib
section
variable {w0 w : World} {F : HP} {v : Value} {r q : Int} {b : Bool} {l : List Int} {s : ByteArray}
theorem blank_ret : Ret Try.prog 44 #[.int .i32 r] w fun v w' => v = .bool (blankS r) ∧ w = w' := by
  refine ret_enter Try.func44 rfl Try.ntmps44 (Nat.le_of_ble_eq_true rfl) ?_
  dsimp only [slots0, Nat.reduceAdd]
  refine wc_seq ?_
  refine wc_region ?_
  refine wl_val (r_assign rfl) (ltn rfl) ?_
  refine wl_nil ?_
  refine wq_seq ?_
  refine wc_seq ?_
  refine wc_region ?_
  refine wl_val (r_move rfl) (ltn rfl) ?_
  refine wl_val (r_eql rfl rfl) (ltn rfl) ?_
  refine wl_split rfl (ltn rfl) (fun h1 => ?_) (fun h1 => ?_)
  · (try simp only [beq_iff_eq, bne_iff_ne, ne_eq, decide_eq_true_eq, decide_eq_false_iff_not, beq_eq_false_iff_ne, bne_eq_false_iff_eq, Bool.not_eq_true', Bool.not_eq_false', Bool.not_eq_eq_eq_not, Bool.not_true, Bool.not_false, gt_iff_lt, ge_iff_le, Int.not_lt, Int.not_le] at h1)
    try (exfalso; first | contradiction | omega)
    all_goals
      refine wl_no rfl rfl rfl (ltn rfl) ?_
      refine wl_no rfl rfl rfl (ltn rfl) ?_
      refine wl_val (r_pick_t rfl rfl) (ltn rfl) ?_
      refine wl_val (r_move rfl) (ltn rfl) ?_
      refine wl_no rfl rfl rfl (ltn rfl) ?_
      refine wl_no rfl rfl rfl (ltn rfl) ?_
      refine wl_val (r_pick_t rfl rfl) (ltn rfl) ?_
      refine wl_val (r_assign rfl) (ltn rfl) ?_
      refine wl_nil ?_
      refine wq_seq ?_
      refine wc_ret ?_
      refine wq_end1 (.inl rfl) Try.results44 rfl ?_
      refine ⟨?_, rfl⟩; unfold blankS; congr 1; first | (rw [decide_eq_true]; omega) | (symm; rw [beq_eq_decide_eq]; congr 1; simp; omega) | (rw [Bool.eq_iff_iff]; simp; omega)
  · (try simp only [beq_iff_eq, bne_iff_ne, ne_eq, decide_eq_true_eq, decide_eq_false_iff_not, beq_eq_false_iff_ne, bne_eq_false_iff_eq, Bool.not_eq_true', Bool.not_eq_false', Bool.not_eq_eq_eq_not, Bool.not_true, Bool.not_false, gt_iff_lt, ge_iff_le, Int.not_lt, Int.not_le] at h1)
    try (exfalso; first | contradiction | omega)
    all_goals
      refine wl_yes rfl rfl ?_
      refine wl_val (r_move rfl) (ltn rfl) ?_
      refine wl_yes rfl rfl ?_
      refine wl_val (r_eql rfl rfl) (ltn rfl) ?_
      refine wl_val (r_pick_f rfl rfl) (ltn rfl) ?_
      refine wl_split rfl (ltn rfl) (fun h2 => ?_) (fun h2 => ?_)
      · (try simp only [beq_iff_eq, bne_iff_ne, ne_eq, decide_eq_true_eq, decide_eq_false_iff_not, beq_eq_false_iff_ne, bne_eq_false_iff_eq, Bool.not_eq_true', Bool.not_eq_false', Bool.not_eq_eq_eq_not, Bool.not_true, Bool.not_false, gt_iff_lt, ge_iff_le, Int.not_lt, Int.not_le] at h2)
        try (exfalso; first | contradiction | omega)
        all_goals
          refine wl_no rfl rfl rfl (ltn rfl) ?_
          refine wl_no rfl rfl rfl (ltn rfl) ?_
          refine wl_val (r_pick_t rfl rfl) (ltn rfl) ?_
          refine wl_val (r_assign rfl) (ltn rfl) ?_
          refine wl_nil ?_
          refine wq_seq ?_
          refine wc_ret ?_
          refine wq_end1 (.inl rfl) Try.results44 rfl ?_
          refine ⟨?_, rfl⟩; unfold blankS; congr 1; first | (rw [decide_eq_true]; omega) | (symm; rw [beq_eq_decide_eq]; congr 1; simp; omega) | (rw [Bool.eq_iff_iff]; simp; omega)
      · (try simp only [beq_iff_eq, bne_iff_ne, ne_eq, decide_eq_true_eq, decide_eq_false_iff_not, beq_eq_false_iff_ne, bne_eq_false_iff_eq, Bool.not_eq_true', Bool.not_eq_false', Bool.not_eq_eq_eq_not, Bool.not_true, Bool.not_false, gt_iff_lt, ge_iff_le, Int.not_lt, Int.not_le] at h2)
        try (exfalso; first | contradiction | omega)
        all_goals
          refine wl_yes rfl rfl ?_
          refine wl_val (r_move rfl) (ltn rfl) ?_
          refine wl_yes rfl rfl ?_
          refine wl_val (r_eql rfl rfl) (ltn rfl) ?_
          refine wl_val (r_pick_f rfl rfl) (ltn rfl) ?_
          refine wl_val (r_assign rfl) (ltn rfl) ?_
          refine wl_nil ?_
          refine wq_seq ?_
          refine wc_ret ?_
          refine wq_end1 (.inl rfl) Try.results44 rfl ?_
          refine ⟨?_, rfl⟩; unfold blankS; congr 1; first | (rw [decide_eq_true]; omega) | (symm; rw [beq_eq_decide_eq]; congr 1; simp; omega) | (rw [Bool.eq_iff_iff]; simp; omega)
theorem contains_rune_ret (H : Holds w0 w F) (hs : ∀ x ∈ s.data.toList, x.toNat < 128) (h4 : 4 ≤ s.size ∧ s.size ≤ 1000) (hr : -2147483648 ≤ r ∧ r < 2147483648) : Ret Try.prog 33 #[.string s, .int .i32 r] w fun v w' => v = .bool (decide (0 ≤ idxR s r)) ∧ Holds w0 w' F := by
  refine ret_enter Try.func33 rfl Try.ntmps33 (Nat.le_of_ble_eq_true rfl) ?_
  dsimp only [slots0, Nat.reduceAdd]
  refine wc_seq ?_
  refine wc_region ?_
  refine wl_val (r_assign rfl) (ltn rfl) ?_
  refine wl_nil ?_
  refine wq_seq ?_
  refine wc_seq ?_
  refine wc_region ?_
  refine wl_val (r_move rfl) (ltn rfl) ?_
  refine wl_val (r_move rfl) (ltn rfl) ?_
  refine wl_eff (e_call (r_call rfl Try.func47 rfl rfl) (idx_rune_ret H hs h4 hr)) (ltn rfl) ?_
  rintro _ w1 ⟨rfl, H1⟩
  refine wl_val (r_geq rfl rfl) (ltn rfl) ?_
  refine wl_val (r_assign rfl) (ltn rfl) ?_
  refine wl_nil ?_
  refine wq_seq ?_
  refine wc_ret ?_
  refine wq_end1 (.inl rfl) Try.results33 rfl ?_
  exact ⟨rfl, H1⟩
theorem oper_pos {r : Int} : operS r = true → 0 < r := fun h => by unfold operS at h; rw [decide_eq_true_eq] at h; omega
theorem oper_ret (H : Holds w0 w F) (hr : -2147483648 ≤ r ∧ r < 2147483648) : Ret Try.prog 29 #[.int .i32 r] w fun v w' => v = .bool (operS r) ∧ Holds w0 w' F := by
  refine ret_enter Try.func29 rfl Try.ntmps29 (Nat.le_of_ble_eq_true rfl) ?_
  dsimp only [slots0, Nat.reduceAdd]
  refine wc_seq ?_
  refine wc_region ?_
  refine wl_val (r_assign rfl) (ltn rfl) ?_
  refine wl_nil ?_
  refine wq_seq ?_
  refine wc_seq ?_
  refine wc_region ?_
  refine wl_val (r_move rfl) (ltn rfl) ?_
  refine wl_eff (e_call (r_call rfl Try.func33 rfl rfl) (contains_rune_ret H (by decide) (by decide) hr)) (ltn rfl) ?_
  rintro _ w1 ⟨rfl, H1⟩
  rw [ops_idx]
  refine wl_split rfl (ltn rfl) (fun h1 => ?_) (fun h1 => ?_)
  · (try simp only [beq_iff_eq, bne_iff_ne, ne_eq, decide_eq_true_eq, decide_eq_false_iff_not, beq_eq_false_iff_ne, bne_eq_false_iff_eq, Bool.not_eq_true', Bool.not_eq_false', Bool.not_eq_eq_eq_not, Bool.not_true, Bool.not_false, gt_iff_lt, ge_iff_le, Int.not_lt, Int.not_le] at h1)
    try (exfalso; first | contradiction | omega)
    all_goals
      refine wl_yes rfl rfl ?_
      refine wl_val (r_move rfl) (ltn rfl) ?_
      refine wl_yes rfl rfl ?_
      refine wl_val (r_gtr rfl rfl) (ltn rfl) ?_
      refine wl_val (r_pick_t rfl rfl) (ltn rfl) ?_
      refine wl_val (r_assign rfl) (ltn rfl) ?_
      refine wl_nil ?_
      refine wq_seq ?_
      refine wc_ret ?_
      refine wq_end1 (.inl rfl) Try.results29 rfl ?_
      refine ⟨?_, H1⟩; congr 1; have hz := oper_pos (r := r); first | (simp_all; done) | (simp_all; omega)
  · (try simp only [beq_iff_eq, bne_iff_ne, ne_eq, decide_eq_true_eq, decide_eq_false_iff_not, beq_eq_false_iff_ne, bne_eq_false_iff_eq, Bool.not_eq_true', Bool.not_eq_false', Bool.not_eq_eq_eq_not, Bool.not_true, Bool.not_false, gt_iff_lt, ge_iff_le, Int.not_lt, Int.not_le] at h1)
    try (exfalso; first | contradiction | omega)
    all_goals
      refine wl_no rfl rfl rfl (ltn rfl) ?_
      refine wl_no rfl rfl rfl (ltn rfl) ?_
      refine wl_val (r_pick_f rfl rfl) (ltn rfl) ?_
      refine wl_val (r_assign rfl) (ltn rfl) ?_
      refine wl_nil ?_
      refine wq_seq ?_
      refine wc_ret ?_
      refine wq_end1 (.inl rfl) Try.results29 rfl ?_
      refine ⟨?_, H1⟩; congr 1; have hz := oper_pos (r := r); first | (simp_all; done) | (simp_all; omega)
theorem class_ret (H : Holds w0 w F) (hr : -2147483648 ≤ r ∧ r < 2147483648) : Ret Try.prog 27 #[.int .i32 r] w fun v w' => v = .int .i64 (classS r) ∧ Holds w0 w' F := by
  refine ret_enter Try.func27 rfl Try.ntmps27 (Nat.le_of_ble_eq_true rfl) ?_
  dsimp only [slots0, Nat.reduceAdd]
  refine wc_seq ?_
  refine wc_region ?_
  refine wl_val (r_assign rfl) (ltn rfl) ?_
  refine wl_nil ?_
  refine wq_seq ?_
  refine wc_seq ?_
  refine wc_block ?_
  refine wc_seq ?_
  refine wc_region ?_
  refine wl_val (r_move rfl) (ltn rfl) ?_
  refine wl_eff (e_call (r_call rfl Try.func44 rfl rfl) (blank_ret)) (ltn rfl) ?_
  rintro _ _ ⟨rfl, rfl⟩
  refine wl_val (r_assign rfl) (ltn rfl) ?_
  refine wl_nil ?_
  refine wq_seq ?_
  refine wc_cond rfl (fun h1 => ?_) (fun h1 => ?_)
  · (try simp only [beq_iff_eq, bne_iff_ne, ne_eq, decide_eq_true_eq, decide_eq_false_iff_not, beq_eq_false_iff_ne, bne_eq_false_iff_eq, Bool.not_eq_true', Bool.not_eq_false', Bool.not_eq_eq_eq_not, Bool.not_true, Bool.not_false, gt_iff_lt, ge_iff_le, Int.not_lt, Int.not_le] at h1)
    try (exfalso; first | contradiction | omega)
    all_goals
      
      refine wc_seq ?_
      refine wc_region ?_
      refine wl_val (r_assign rfl) (ltn rfl) ?_
      refine wl_nil ?_
      refine wq_seq ?_
      refine wc_ret ?_
      refine wq_block_ret ?_
      refine wq_then_ret ?_
      refine wq_end1 (.inl rfl) Try.results27 rfl ?_
      refine ⟨?_, H⟩; unfold classS; simp_all
  · (try simp only [beq_iff_eq, bne_iff_ne, ne_eq, decide_eq_true_eq, decide_eq_false_iff_not, beq_eq_false_iff_ne, bne_eq_false_iff_eq, Bool.not_eq_true', Bool.not_eq_false', Bool.not_eq_eq_eq_not, Bool.not_true, Bool.not_false, gt_iff_lt, ge_iff_le, Int.not_lt, Int.not_le] at h1)
    try (exfalso; first | contradiction | omega)
    all_goals
      
      refine wc_seq ?_
      refine wc_region ?_
      refine wl_val (r_move rfl) (ltn rfl) ?_
      refine wl_eff (e_call (r_call rfl Try.func29 rfl rfl) (oper_ret H (by assumption))) (ltn rfl) ?_
      rintro _ w2 ⟨rfl, H2⟩
      refine wl_val (r_assign rfl) (ltn rfl) ?_
      refine wl_nil ?_
      refine wq_seq ?_
      refine wc_cond rfl (fun h2 => ?_) (fun h2 => ?_)
      · (try simp only [beq_iff_eq, bne_iff_ne, ne_eq, decide_eq_true_eq, decide_eq_false_iff_not, beq_eq_false_iff_ne, bne_eq_false_iff_eq, Bool.not_eq_true', Bool.not_eq_false', Bool.not_eq_eq_eq_not, Bool.not_true, Bool.not_false, gt_iff_lt, ge_iff_le, Int.not_lt, Int.not_le] at h2)
        try (exfalso; first | contradiction | omega)
        all_goals
          
          refine wc_seq ?_
          refine wc_region ?_
          refine wl_val (r_assign rfl) (ltn rfl) ?_
          refine wl_nil ?_
          refine wq_seq ?_
          refine wc_ret ?_
          refine wq_block_ret ?_
          refine wq_then_ret ?_
          refine wq_end1 (.inl rfl) Try.results27 rfl ?_
          refine ⟨?_, H2⟩; unfold classS; simp_all
      · (try simp only [beq_iff_eq, bne_iff_ne, ne_eq, decide_eq_true_eq, decide_eq_false_iff_not, beq_eq_false_iff_ne, bne_eq_false_iff_eq, Bool.not_eq_true', Bool.not_eq_false', Bool.not_eq_eq_eq_not, Bool.not_true, Bool.not_false, gt_iff_lt, ge_iff_le, Int.not_lt, Int.not_le] at h2)
        try (exfalso; first | contradiction | omega)
        all_goals
          
          refine wc_skip ?_
          refine wq_block_normal ?_
          refine wq_seq ?_
          refine wc_seq ?_
          refine wc_region ?_
          refine wl_val (r_assign rfl) (ltn rfl) ?_
          refine wl_nil ?_
          refine wq_seq ?_
          refine wc_ret ?_
          refine wq_end1 (.inl rfl) Try.results27 rfl ?_
          refine ⟨?_, H2⟩; unfold classS; simp_all
theorem kind_ret (H : Holds w0 w F) : Ret Try.prog 37 #[.agg #[.int .i32 q, .bool b]] w fun v w' => v = .int .i64 (kindS (q, b)) ∧ Holds w0 w' F := by
  refine ret_enter Try.func37 rfl Try.ntmps37 (Nat.le_of_ble_eq_true rfl) ?_
  dsimp only [slots0, Nat.reduceAdd]
  refine wc_seq ?_
  refine wc_region ?_
  refine wl_eff (e_boxL (l := [_, _]) H rfl rfl) (ltn rfl) ?_
  rintro _ w1 ⟨b1, rfl, H1⟩
  refine wl_val (r_assign rfl) (ltn rfl) ?_
  refine wl_nil ?_
  refine wq_seq ?_
  refine wc_seq ?_
  refine wc_block ?_
  refine wc_seq ?_
  refine wc_region ?_
  refine wl_val ((by first | exact r_field0 1 Try.underlying55 rfl rfl Try.sizeOf4 (by decide) rfl | exact r_field 1 Try.underlying55 rfl rfl Try.sizeOf4 (by decide) rfl)) (ltn rfl) ?_
  refine wl_val (r_load (plain_of Try.underlying4 rfl) rfl (cell_of_blk (H1).get.2 rfl)) (ltn rfl) ?_
  refine wl_val (r_assign rfl) (ltn rfl) ?_
  refine wl_nil ?_
  refine wq_seq ?_
  refine wc_cond rfl (fun h1 => ?_) (fun h1 => ?_)
  · (try simp only [beq_iff_eq, bne_iff_ne, ne_eq, decide_eq_true_eq, decide_eq_false_iff_not, beq_eq_false_iff_ne, bne_eq_false_iff_eq, Bool.not_eq_true', Bool.not_eq_false', Bool.not_eq_eq_eq_not, Bool.not_true, Bool.not_false, gt_iff_lt, ge_iff_le, Int.not_lt, Int.not_le] at h1)
    try (exfalso; first | contradiction | omega)
    all_goals
      
      refine wc_seq ?_
      refine wc_region ?_
      refine wl_val (r_assign rfl) (ltn rfl) ?_
      refine wl_nil ?_
      refine wq_seq ?_
      refine wc_ret ?_
      refine wq_block_ret ?_
      refine wq_then_ret ?_
      refine wq_end1 (.inl rfl) Try.results37 rfl ?_
      refine ⟨?_, H1.right⟩; unfold kindS; simp_all
  · (try simp only [beq_iff_eq, bne_iff_ne, ne_eq, decide_eq_true_eq, decide_eq_false_iff_not, beq_eq_false_iff_ne, bne_eq_false_iff_eq, Bool.not_eq_true', Bool.not_eq_false', Bool.not_eq_eq_eq_not, Bool.not_true, Bool.not_false, gt_iff_lt, ge_iff_le, Int.not_lt, Int.not_le] at h1)
    try (exfalso; first | contradiction | omega)
    all_goals
      
      refine wc_seq ?_
      refine wc_region ?_
      refine wl_val ((by first | exact r_field0 0 Try.underlying55 rfl rfl Try.sizeOf21 (by decide) rfl | exact r_field 0 Try.underlying55 rfl rfl Try.sizeOf21 (by decide) rfl)) (ltn rfl) ?_
      refine wl_val (r_load (plain_of Try.underlying21 rfl) rfl (cell_of_blk (H1).get.2 rfl)) (ltn rfl) ?_
      refine wl_val (r_eql rfl rfl) (ltn rfl) ?_
      refine wl_val (r_assign rfl) (ltn rfl) ?_
      refine wl_nil ?_
      refine wq_seq ?_
      refine wc_cond rfl (fun h2 => ?_) (fun h2 => ?_)
      · (try simp only [beq_iff_eq, bne_iff_ne, ne_eq, decide_eq_true_eq, decide_eq_false_iff_not, beq_eq_false_iff_ne, bne_eq_false_iff_eq, Bool.not_eq_true', Bool.not_eq_false', Bool.not_eq_eq_eq_not, Bool.not_true, Bool.not_false, gt_iff_lt, ge_iff_le, Int.not_lt, Int.not_le] at h2)
        try (exfalso; first | contradiction | omega)
        all_goals
          
          refine wc_seq ?_
          refine wc_region ?_
          refine wl_val (r_assign rfl) (ltn rfl) ?_
          refine wl_nil ?_
          refine wq_seq ?_
          refine wc_ret ?_
          refine wq_block_ret ?_
          refine wq_then_ret ?_
          refine wq_end1 (.inl rfl) Try.results37 rfl ?_
          refine ⟨?_, H1.right⟩; unfold kindS; simp_all
      · (try simp only [beq_iff_eq, bne_iff_ne, ne_eq, decide_eq_true_eq, decide_eq_false_iff_not, beq_eq_false_iff_ne, bne_eq_false_iff_eq, Bool.not_eq_true', Bool.not_eq_false', Bool.not_eq_eq_eq_not, Bool.not_true, Bool.not_false, gt_iff_lt, ge_iff_le, Int.not_lt, Int.not_le] at h2)
        try (exfalso; first | contradiction | omega)
        all_goals
          
          refine wc_seq ?_
          refine wc_region ?_
          refine wl_val ((by first | exact r_field0 0 Try.underlying55 rfl rfl Try.sizeOf21 (by decide) rfl | exact r_field 0 Try.underlying55 rfl rfl Try.sizeOf21 (by decide) rfl)) (ltn rfl) ?_
          refine wl_val (r_load (plain_of Try.underlying21 rfl) rfl (cell_of_blk (H1).get.2 rfl)) (ltn rfl) ?_
          refine wl_val (r_neq rfl rfl) (ltn rfl) ?_
          refine wl_val (r_assign rfl) (ltn rfl) ?_
          refine wl_nil ?_
          refine wq_seq ?_
          refine wc_cond rfl (fun h3 => ?_) (fun h3 => ?_)
          · (try simp only [beq_iff_eq, bne_iff_ne, ne_eq, decide_eq_true_eq, decide_eq_false_iff_not, beq_eq_false_iff_ne, bne_eq_false_iff_eq, Bool.not_eq_true', Bool.not_eq_false', Bool.not_eq_eq_eq_not, Bool.not_true, Bool.not_false, gt_iff_lt, ge_iff_le, Int.not_lt, Int.not_le] at h3)
            try (exfalso; first | contradiction | omega)
            all_goals
              
              refine wc_seq ?_
              refine wc_region ?_
              refine wl_val (r_assign rfl) (ltn rfl) ?_
              refine wl_nil ?_
              refine wq_seq ?_
              refine wc_ret ?_
              refine wq_block_ret ?_
              refine wq_then_ret ?_
              refine wq_end1 (.inl rfl) Try.results37 rfl ?_
              refine ⟨?_, H1.right⟩; unfold kindS; simp_all
          · (try simp only [beq_iff_eq, bne_iff_ne, ne_eq, decide_eq_true_eq, decide_eq_false_iff_not, beq_eq_false_iff_ne, bne_eq_false_iff_eq, Bool.not_eq_true', Bool.not_eq_false', Bool.not_eq_eq_eq_not, Bool.not_true, Bool.not_false, gt_iff_lt, ge_iff_le, Int.not_lt, Int.not_le] at h3)
            try (exfalso; first | contradiction | omega)
            all_goals
              
              refine wc_skip ?_
              refine wq_block_normal ?_
              refine wq_seq ?_
              refine wc_seq ?_
              refine wc_region ?_
              refine wl_val (r_assign rfl) (ltn rfl) ?_
              refine wl_nil ?_
              refine wq_seq ?_
              refine wc_ret ?_
              refine wq_end1 (.inl rfl) Try.results37 rfl ?_
              refine ⟨?_, H1.right⟩; unfold kindS; simp_all
theorem next_ret (H : Holds w0 w F) : Ret Try.prog 35 #[.agg #[.int .i32 q, .bool b], .int .i32 r] w fun v w' => v = .agg #[.int .i32 (nextS (q, b) r).1, .bool (nextS (q, b) r).2] ∧ Holds w0 w' F := by
  refine ret_enter Try.func35 rfl Try.ntmps35 (Nat.le_of_ble_eq_true rfl) ?_
  dsimp only [slots0, Nat.reduceAdd]
  refine wc_seq ?_
  refine wc_region ?_
  refine wl_eff (e_boxL (l := [_, _]) H rfl rfl) (ltn rfl) ?_
  rintro _ w1 ⟨b1, rfl, H1⟩
  refine wl_eff (e_allocL (l := [_, _]) H1 Try.zeroValue55 rfl) (ltn rfl) ?_
  rintro _ w2 ⟨b2, rfl, H2⟩
  refine wl_nil ?_
  refine wq_seq ?_
  refine wc_seq ?_
  refine wc_block ?_
  refine wc_seq ?_
  refine wc_region ?_
  refine wl_val ((by first | exact r_field0 1 Try.underlying55 rfl rfl Try.sizeOf4 (by decide) rfl | exact r_field 1 Try.underlying55 rfl rfl Try.sizeOf4 (by decide) rfl)) (ltn rfl) ?_
  refine wl_val (r_load (plain_of Try.underlying4 rfl) rfl (cell_of_blk (H2.f2).get.2 rfl)) (ltn rfl) ?_
  refine wl_val (r_assign rfl) (ltn rfl) ?_
  refine wl_nil ?_
  refine wq_seq ?_
  refine wc_cond rfl (fun h1 => ?_) (fun h1 => ?_)
  · (try simp only [beq_iff_eq, bne_iff_ne, ne_eq, decide_eq_true_eq, decide_eq_false_iff_not, beq_eq_false_iff_ne, bne_eq_false_iff_eq, Bool.not_eq_true', Bool.not_eq_false', Bool.not_eq_eq_eq_not, Bool.not_true, Bool.not_false, gt_iff_lt, ge_iff_le, Int.not_lt, Int.not_le] at h1)
    try (exfalso; first | contradiction | omega)
    all_goals
      
      refine wc_region ?_
      refine wl_val ((by first | exact r_field0 1 Try.underlying55 rfl rfl Try.sizeOf4 (by decide) rfl | exact r_field 1 Try.underlying55 rfl rfl Try.sizeOf4 (by decide) rfl)) (ltn rfl) ?_
      refine wl_eff0 (e_storeL 1 (l' := [_, _]) H2.f2 Try.sizeOf4 rfl rfl (by first | rfl | assumption) rfl rfl) ?_
      rintro _ w3 H3
      refine wl_nil ?_
      refine wq_block_normal ?_
      refine wq_seq ?_
      refine wc_seq ?_
      refine wc_region ?_
      refine wl_val (r_load_whole Try.underlying55 rfl Try.sizeOf55 rfl rfl (H3).get.2) (ltn rfl) ?_
      refine wl_eff0 (e_storePL 0 (l' := [_, _]) (us := [_, _]) H3.f2 Try.sizeOf55 rfl rfl rfl (ones_cons (by first | rfl | assumption) (ones_cons (by first | rfl | assumption) ones_nil)) rfl rfl) ?_
      rintro _ w4 H4
      refine wl_nil ?_
      refine wq_seq ?_
      refine wc_ret ?_
      refine wq_end (.inl rfl) (resC Try.results35 rfl Try.underlying55 rfl (by rw [show (Try.prog.info? 55).map (·.size) = some 2 from by kernel_rfl]; rfl) (H4).get.2) ?_
      refine ⟨?_, H4.right.right⟩; unfold nextS; simp_all
  · (try simp only [beq_iff_eq, bne_iff_ne, ne_eq, decide_eq_true_eq, decide_eq_false_iff_not, beq_eq_false_iff_ne, bne_eq_false_iff_eq, Bool.not_eq_true', Bool.not_eq_false', Bool.not_eq_eq_eq_not, Bool.not_true, Bool.not_false, gt_iff_lt, ge_iff_le, Int.not_lt, Int.not_le] at h1)
    try (exfalso; first | contradiction | omega)
    all_goals
      
      refine wc_seq ?_
      refine wc_region ?_
      refine wl_val (r_move rfl) (ltn rfl) ?_
      refine wl_val (r_eql rfl rfl) (ltn rfl) ?_
      refine wl_split rfl (ltn rfl) (fun h2 => ?_) (fun h2 => ?_)
      · (try simp only [beq_iff_eq, bne_iff_ne, ne_eq, decide_eq_true_eq, decide_eq_false_iff_not, beq_eq_false_iff_ne, bne_eq_false_iff_eq, Bool.not_eq_true', Bool.not_eq_false', Bool.not_eq_eq_eq_not, Bool.not_true, Bool.not_false, gt_iff_lt, ge_iff_le, Int.not_lt, Int.not_le] at h2)
        try (exfalso; first | contradiction | omega)
        all_goals
          refine wl_yes rfl rfl ?_
          refine wl_val ((by first | exact r_field0 0 Try.underlying55 rfl rfl Try.sizeOf21 (by decide) rfl | exact r_field 0 Try.underlying55 rfl rfl Try.sizeOf21 (by decide) rfl)) (ltn rfl) ?_
          refine wl_yes rfl rfl ?_
          refine wl_val (r_load (plain_of Try.underlying21 rfl) rfl (cell_of_blk (H2.f2).get.2 rfl)) (ltn rfl) ?_
          refine wl_yes rfl rfl ?_
          refine wl_val (r_neq rfl rfl) (ltn rfl) ?_
          refine wl_val (r_pick_t rfl rfl) (ltn rfl) ?_
          refine wl_val (r_assign rfl) (ltn rfl) ?_
          refine wl_nil ?_
          refine wq_seq ?_
          refine wc_cond rfl (fun h3 => ?_) (fun h3 => ?_)
          · (try simp only [beq_iff_eq, bne_iff_ne, ne_eq, decide_eq_true_eq, decide_eq_false_iff_not, beq_eq_false_iff_ne, bne_eq_false_iff_eq, Bool.not_eq_true', Bool.not_eq_false', Bool.not_eq_eq_eq_not, Bool.not_true, Bool.not_false, gt_iff_lt, ge_iff_le, Int.not_lt, Int.not_le] at h3)
            try (exfalso; first | contradiction | omega)
            all_goals
              
              refine wc_region ?_
              refine wl_val ((by first | exact r_field0 1 Try.underlying55 rfl rfl Try.sizeOf4 (by decide) rfl | exact r_field 1 Try.underlying55 rfl rfl Try.sizeOf4 (by decide) rfl)) (ltn rfl) ?_
              refine wl_eff0 (e_storeL 1 (l' := [_, _]) H2.f2 Try.sizeOf4 rfl rfl (by first | rfl | assumption) rfl rfl) ?_
              rintro _ w5 H5
              refine wl_nil ?_
              refine wq_block_normal ?_
              refine wq_seq ?_
              refine wc_seq ?_
              refine wc_region ?_
              refine wl_val (r_load_whole Try.underlying55 rfl Try.sizeOf55 rfl rfl (H5).get.2) (ltn rfl) ?_
              refine wl_eff0 (e_storePL 0 (l' := [_, _]) (us := [_, _]) H5.f2 Try.sizeOf55 rfl rfl rfl (ones_cons (by first | rfl | assumption) (ones_cons (by first | rfl | assumption) ones_nil)) rfl rfl) ?_
              rintro _ w6 H6
              refine wl_nil ?_
              refine wq_seq ?_
              refine wc_ret ?_
              refine wq_end (.inl rfl) (resC Try.results35 rfl Try.underlying55 rfl (by rw [show (Try.prog.info? 55).map (·.size) = some 2 from by kernel_rfl]; rfl) (H6).get.2) ?_
              refine ⟨?_, H6.right.right⟩; unfold nextS; simp_all
          · (try simp only [beq_iff_eq, bne_iff_ne, ne_eq, decide_eq_true_eq, decide_eq_false_iff_not, beq_eq_false_iff_ne, bne_eq_false_iff_eq, Bool.not_eq_true', Bool.not_eq_false', Bool.not_eq_eq_eq_not, Bool.not_true, Bool.not_false, gt_iff_lt, ge_iff_le, Int.not_lt, Int.not_le] at h3)
            try (exfalso; first | contradiction | omega)
            all_goals
              
              refine wc_seq ?_
              refine wc_region ?_
              refine wl_val ((by first | exact r_field0 0 Try.underlying55 rfl rfl Try.sizeOf21 (by decide) rfl | exact r_field 0 Try.underlying55 rfl rfl Try.sizeOf21 (by decide) rfl)) (ltn rfl) ?_
              refine wl_val (r_load (plain_of Try.underlying21 rfl) rfl (cell_of_blk (H2.f2).get.2 rfl)) (ltn rfl) ?_
              refine wl_val (r_eql rfl rfl) (ltn rfl) ?_
              refine wl_split rfl (ltn rfl) (fun h4 => ?_) (fun h4 => ?_)
              · (try simp only [beq_iff_eq, bne_iff_ne, ne_eq, decide_eq_true_eq, decide_eq_false_iff_not, beq_eq_false_iff_ne, bne_eq_false_iff_eq, Bool.not_eq_true', Bool.not_eq_false', Bool.not_eq_eq_eq_not, Bool.not_true, Bool.not_false, gt_iff_lt, ge_iff_le, Int.not_lt, Int.not_le] at h4)
                try (exfalso; first | contradiction | omega)
                all_goals
                  refine wl_yes rfl rfl ?_
                  refine wl_val (r_move rfl) (ltn rfl) ?_
                  refine wl_yes rfl rfl ?_
                  refine wl_val (r_eql rfl rfl) (ltn rfl) ?_
                  refine wl_yes rfl rfl ?_
                  refine wl_split rfl (ltn rfl) (fun h5 => ?_) (fun h5 => ?_)
                  · (try simp only [beq_iff_eq, bne_iff_ne, ne_eq, decide_eq_true_eq, decide_eq_false_iff_not, beq_eq_false_iff_ne, bne_eq_false_iff_eq, Bool.not_eq_true', Bool.not_eq_false', Bool.not_eq_eq_eq_not, Bool.not_true, Bool.not_false, gt_iff_lt, ge_iff_le, Int.not_lt, Int.not_le] at h5)
                    try (exfalso; first | contradiction | omega)
                    all_goals
                      refine wl_no rfl rfl rfl (ltn rfl) ?_
                      refine wl_no rfl rfl rfl (ltn rfl) ?_
                      refine wl_yes rfl rfl ?_
                      refine wl_val (r_pick_t rfl rfl) (ltn rfl) ?_
                      refine wl_yes rfl rfl ?_
                      refine wl_val (r_move rfl) (ltn rfl) ?_
                      refine wl_no rfl rfl rfl (ltn rfl) ?_
                      refine wl_no rfl rfl rfl (ltn rfl) ?_
                      refine wl_yes rfl rfl ?_
                      refine wl_val (r_pick_t rfl rfl) (ltn rfl) ?_
                      refine wl_val (r_pick_t rfl rfl) (ltn rfl) ?_
                      refine wl_val (r_assign rfl) (ltn rfl) ?_
                      refine wl_nil ?_
                      refine wq_seq ?_
                      refine wc_cond_t rfl ?_
                      refine wc_region ?_
                      refine wl_val (r_move rfl) (ltn rfl) ?_
                      refine wl_val ((by first | exact r_field0 0 Try.underlying55 rfl rfl Try.sizeOf21 (by decide) rfl | exact r_field 0 Try.underlying55 rfl rfl Try.sizeOf21 (by decide) rfl)) (ltn rfl) ?_
                      refine wl_eff0 (e_storeL 0 (l' := [_, _]) H2.f2 Try.sizeOf21 rfl rfl (by first | rfl | assumption) rfl rfl) ?_
                      rintro _ w7 H7
                      refine wl_nil ?_
                      refine wq_block_normal ?_
                      refine wq_seq ?_
                      refine wc_seq ?_
                      refine wc_region ?_
                      refine wl_val (r_load_whole Try.underlying55 rfl Try.sizeOf55 rfl rfl (H7).get.2) (ltn rfl) ?_
                      refine wl_eff0 (e_storePL 0 (l' := [_, _]) (us := [_, _]) H7.f2 Try.sizeOf55 rfl rfl rfl (ones_cons (by first | rfl | assumption) (ones_cons (by first | rfl | assumption) ones_nil)) rfl rfl) ?_
                      rintro _ w8 H8
                      refine wl_nil ?_
                      refine wq_seq ?_
                      refine wc_ret ?_
                      refine wq_end (.inl rfl) (resC Try.results35 rfl Try.underlying55 rfl (by rw [show (Try.prog.info? 55).map (·.size) = some 2 from by kernel_rfl]; rfl) (H8).get.2) ?_
                      refine ⟨?_, H8.right.right⟩; unfold nextS; simp_all
                  · (try simp only [beq_iff_eq, bne_iff_ne, ne_eq, decide_eq_true_eq, decide_eq_false_iff_not, beq_eq_false_iff_ne, bne_eq_false_iff_eq, Bool.not_eq_true', Bool.not_eq_false', Bool.not_eq_eq_eq_not, Bool.not_true, Bool.not_false, gt_iff_lt, ge_iff_le, Int.not_lt, Int.not_le] at h5)
                    try (exfalso; first | contradiction | omega)
                    all_goals
                      refine wl_yes rfl rfl ?_
                      refine wl_val (r_move rfl) (ltn rfl) ?_
                      refine wl_yes rfl rfl ?_
                      refine wl_val (r_eql rfl rfl) (ltn rfl) ?_
                      refine wl_yes rfl rfl ?_
                      refine wl_val (r_pick_f rfl rfl) (ltn rfl) ?_
                      refine wl_yes rfl rfl ?_
                      refine wl_split rfl (ltn rfl) (fun h6 => ?_) (fun h6 => ?_)
                      · (try simp only [beq_iff_eq, bne_iff_ne, ne_eq, decide_eq_true_eq, decide_eq_false_iff_not, beq_eq_false_iff_ne, bne_eq_false_iff_eq, Bool.not_eq_true', Bool.not_eq_false', Bool.not_eq_eq_eq_not, Bool.not_true, Bool.not_false, gt_iff_lt, ge_iff_le, Int.not_lt, Int.not_le] at h6)
                        try (exfalso; first | contradiction | omega)
                        all_goals
                          refine wl_no rfl rfl rfl (ltn rfl) ?_
                          refine wl_no rfl rfl rfl (ltn rfl) ?_
                          refine wl_yes rfl rfl ?_
                          refine wl_val (r_pick_t rfl rfl) (ltn rfl) ?_
                          refine wl_val (r_pick_t rfl rfl) (ltn rfl) ?_
                          refine wl_val (r_assign rfl) (ltn rfl) ?_
                          refine wl_nil ?_
                          refine wq_seq ?_
                          refine wc_cond_t rfl ?_
                          refine wc_region ?_
                          refine wl_val (r_move rfl) (ltn rfl) ?_
                          refine wl_val ((by first | exact r_field0 0 Try.underlying55 rfl rfl Try.sizeOf21 (by decide) rfl | exact r_field 0 Try.underlying55 rfl rfl Try.sizeOf21 (by decide) rfl)) (ltn rfl) ?_
                          refine wl_eff0 (e_storeL 0 (l' := [_, _]) H2.f2 Try.sizeOf21 rfl rfl (by first | rfl | assumption) rfl rfl) ?_
                          rintro _ w9 H9
                          refine wl_nil ?_
                          refine wq_block_normal ?_
                          refine wq_seq ?_
                          refine wc_seq ?_
                          refine wc_region ?_
                          refine wl_val (r_load_whole Try.underlying55 rfl Try.sizeOf55 rfl rfl (H9).get.2) (ltn rfl) ?_
                          refine wl_eff0 (e_storePL 0 (l' := [_, _]) (us := [_, _]) H9.f2 Try.sizeOf55 rfl rfl rfl (ones_cons (by first | rfl | assumption) (ones_cons (by first | rfl | assumption) ones_nil)) rfl rfl) ?_
                          rintro _ w10 H10
                          refine wl_nil ?_
                          refine wq_seq ?_
                          refine wc_ret ?_
                          refine wq_end (.inl rfl) (resC Try.results35 rfl Try.underlying55 rfl (by rw [show (Try.prog.info? 55).map (·.size) = some 2 from by kernel_rfl]; rfl) (H10).get.2) ?_
                          refine ⟨?_, H10.right.right⟩; unfold nextS; simp_all
                      · (try simp only [beq_iff_eq, bne_iff_ne, ne_eq, decide_eq_true_eq, decide_eq_false_iff_not, beq_eq_false_iff_ne, bne_eq_false_iff_eq, Bool.not_eq_true', Bool.not_eq_false', Bool.not_eq_eq_eq_not, Bool.not_true, Bool.not_false, gt_iff_lt, ge_iff_le, Int.not_lt, Int.not_le] at h6)
                        try (exfalso; first | contradiction | omega)
                        all_goals
                          refine wl_yes rfl rfl ?_
                          refine wl_val (r_move rfl) (ltn rfl) ?_
                          refine wl_yes rfl rfl ?_
                          refine wl_val (r_eql rfl rfl) (ltn rfl) ?_
                          refine wl_yes rfl rfl ?_
                          refine wl_val (r_pick_f rfl rfl) (ltn rfl) ?_
                          refine wl_val (r_pick_t rfl rfl) (ltn rfl) ?_
                          refine wl_val (r_assign rfl) (ltn rfl) ?_
                          refine wl_nil ?_
                          refine wq_seq ?_
                          refine wc_cond rfl (fun h7 => ?_) (fun h7 => ?_)
                          · (try simp only [beq_iff_eq, bne_iff_ne, ne_eq, decide_eq_true_eq, decide_eq_false_iff_not, beq_eq_false_iff_ne, bne_eq_false_iff_eq, Bool.not_eq_true', Bool.not_eq_false', Bool.not_eq_eq_eq_not, Bool.not_true, Bool.not_false, gt_iff_lt, ge_iff_le, Int.not_lt, Int.not_le] at h7)
                            try (exfalso; first | contradiction | omega)
                            all_goals
                              
                              refine wc_region ?_
                              refine wl_val (r_move rfl) (ltn rfl) ?_
                              refine wl_val ((by first | exact r_field0 0 Try.underlying55 rfl rfl Try.sizeOf21 (by decide) rfl | exact r_field 0 Try.underlying55 rfl rfl Try.sizeOf21 (by decide) rfl)) (ltn rfl) ?_
                              refine wl_eff0 (e_storeL 0 (l' := [_, _]) H2.f2 Try.sizeOf21 rfl rfl (by first | rfl | assumption) rfl rfl) ?_
                              rintro _ w11 H11
                              refine wl_nil ?_
                              refine wq_block_normal ?_
                              refine wq_seq ?_
                              refine wc_seq ?_
                              refine wc_region ?_
                              refine wl_val (r_load_whole Try.underlying55 rfl Try.sizeOf55 rfl rfl (H11).get.2) (ltn rfl) ?_
                              refine wl_eff0 (e_storePL 0 (l' := [_, _]) (us := [_, _]) H11.f2 Try.sizeOf55 rfl rfl rfl (ones_cons (by first | rfl | assumption) (ones_cons (by first | rfl | assumption) ones_nil)) rfl rfl) ?_
                              rintro _ w12 H12
                              refine wl_nil ?_
                              refine wq_seq ?_
                              refine wc_ret ?_
                              refine wq_end (.inl rfl) (resC Try.results35 rfl Try.underlying55 rfl (by rw [show (Try.prog.info? 55).map (·.size) = some 2 from by kernel_rfl]; rfl) (H12).get.2) ?_
                              refine ⟨?_, H12.right.right⟩; unfold nextS; simp_all
                          · (try simp only [beq_iff_eq, bne_iff_ne, ne_eq, decide_eq_true_eq, decide_eq_false_iff_not, beq_eq_false_iff_ne, bne_eq_false_iff_eq, Bool.not_eq_true', Bool.not_eq_false', Bool.not_eq_eq_eq_not, Bool.not_true, Bool.not_false, gt_iff_lt, ge_iff_le, Int.not_lt, Int.not_le] at h7)
                            try (exfalso; first | contradiction | omega)
                            all_goals
                              
                              refine wc_seq ?_
                              refine wc_region ?_
                              refine wl_val ((by first | exact r_field0 0 Try.underlying55 rfl rfl Try.sizeOf21 (by decide) rfl | exact r_field 0 Try.underlying55 rfl rfl Try.sizeOf21 (by decide) rfl)) (ltn rfl) ?_
                              refine wl_val (r_load (plain_of Try.underlying21 rfl) rfl (cell_of_blk (H2.f2).get.2 rfl)) (ltn rfl) ?_
                              refine wl_val (r_neq rfl rfl) (ltn rfl) ?_
                              refine wl_split rfl (ltn rfl) (fun h8 => ?_) (fun h8 => ?_)
                              · (try simp only [beq_iff_eq, bne_iff_ne, ne_eq, decide_eq_true_eq, decide_eq_false_iff_not, beq_eq_false_iff_ne, bne_eq_false_iff_eq, Bool.not_eq_true', Bool.not_eq_false', Bool.not_eq_eq_eq_not, Bool.not_true, Bool.not_false, gt_iff_lt, ge_iff_le, Int.not_lt, Int.not_le] at h8)
                                try (exfalso; first | contradiction | omega)
                                all_goals
                                  refine wl_yes rfl rfl ?_
                                  refine wl_val (r_move rfl) (ltn rfl) ?_
                                  refine wl_yes rfl rfl ?_
                                  refine wl_val ((by first | exact r_field0 0 Try.underlying55 rfl rfl Try.sizeOf21 (by decide) rfl | exact r_field 0 Try.underlying55 rfl rfl Try.sizeOf21 (by decide) rfl)) (ltn rfl) ?_
                                  refine wl_yes rfl rfl ?_
                                  refine wl_val (r_load (plain_of Try.underlying21 rfl) rfl (cell_of_blk (H2.f2).get.2 rfl)) (ltn rfl) ?_
                                  refine wl_yes rfl rfl ?_
                                  refine wl_val (r_eql rfl rfl) (ltn rfl) ?_
                                  refine wl_val (r_pick_t rfl rfl) (ltn rfl) ?_
                                  refine wl_val (r_assign rfl) (ltn rfl) ?_
                                  refine wl_nil ?_
                                  refine wq_seq ?_
                                  refine wc_cond rfl (fun h9 => ?_) (fun h9 => ?_)
                                  · (try simp only [beq_iff_eq, bne_iff_ne, ne_eq, decide_eq_true_eq, decide_eq_false_iff_not, beq_eq_false_iff_ne, bne_eq_false_iff_eq, Bool.not_eq_true', Bool.not_eq_false', Bool.not_eq_eq_eq_not, Bool.not_true, Bool.not_false, gt_iff_lt, ge_iff_le, Int.not_lt, Int.not_le] at h9)
                                    try (exfalso; first | contradiction | omega)
                                    all_goals
                                      
                                      refine wc_region ?_
                                      refine wl_val ((by first | exact r_field0 0 Try.underlying55 rfl rfl Try.sizeOf21 (by decide) rfl | exact r_field 0 Try.underlying55 rfl rfl Try.sizeOf21 (by decide) rfl)) (ltn rfl) ?_
                                      refine wl_eff0 (e_storeL 0 (l' := [_, _]) H2.f2 Try.sizeOf21 rfl rfl (by first | rfl | assumption) rfl rfl) ?_
                                      rintro _ w13 H13
                                      refine wl_nil ?_
                                      refine wq_block_normal ?_
                                      refine wq_seq ?_
                                      refine wc_seq ?_
                                      refine wc_region ?_
                                      refine wl_val (r_load_whole Try.underlying55 rfl Try.sizeOf55 rfl rfl (H13).get.2) (ltn rfl) ?_
                                      refine wl_eff0 (e_storePL 0 (l' := [_, _]) (us := [_, _]) H13.f2 Try.sizeOf55 rfl rfl rfl (ones_cons (by first | rfl | assumption) (ones_cons (by first | rfl | assumption) ones_nil)) rfl rfl) ?_
                                      rintro _ w14 H14
                                      refine wl_nil ?_
                                      refine wq_seq ?_
                                      refine wc_ret ?_
                                      refine wq_end (.inl rfl) (resC Try.results35 rfl Try.underlying55 rfl (by rw [show (Try.prog.info? 55).map (·.size) = some 2 from by kernel_rfl]; rfl) (H14).get.2) ?_
                                      refine ⟨?_, H14.right.right⟩; unfold nextS; simp_all
                                  · (try simp only [beq_iff_eq, bne_iff_ne, ne_eq, decide_eq_true_eq, decide_eq_false_iff_not, beq_eq_false_iff_ne, bne_eq_false_iff_eq, Bool.not_eq_true', Bool.not_eq_false', Bool.not_eq_eq_eq_not, Bool.not_true, Bool.not_false, gt_iff_lt, ge_iff_le, Int.not_lt, Int.not_le] at h9)
                                    try (exfalso; first | contradiction | omega)
                                    all_goals
                                      
                                      refine wc_skip ?_
                                      refine wq_block_normal ?_
                                      refine wq_seq ?_
                                      refine wc_seq ?_
                                      refine wc_region ?_
                                      refine wl_val (r_load_whole Try.underlying55 rfl Try.sizeOf55 rfl rfl (H2.f2).get.2) (ltn rfl) ?_
                                      refine wl_eff0 (e_storePL 0 (l' := [_, _]) (us := [_, _]) H2 Try.sizeOf55 rfl rfl rfl (ones_cons (by first | rfl | assumption) (ones_cons (by first | rfl | assumption) ones_nil)) rfl rfl) ?_
                                      rintro _ w15 H15
                                      refine wl_nil ?_
                                      refine wq_seq ?_
                                      refine wc_ret ?_
                                      refine wq_end (.inl rfl) (resC Try.results35 rfl Try.underlying55 rfl (by rw [show (Try.prog.info? 55).map (·.size) = some 2 from by kernel_rfl]; rfl) (H15).get.2) ?_
                                      refine ⟨?_, H15.right.right⟩; unfold nextS; simp_all
                              · (try simp only [beq_iff_eq, bne_iff_ne, ne_eq, decide_eq_true_eq, decide_eq_false_iff_not, beq_eq_false_iff_ne, bne_eq_false_iff_eq, Bool.not_eq_true', Bool.not_eq_false', Bool.not_eq_eq_eq_not, Bool.not_true, Bool.not_false, gt_iff_lt, ge_iff_le, Int.not_lt, Int.not_le] at h8)
                                try (exfalso; first | contradiction | omega)
                                all_goals
                                  refine wl_no rfl rfl rfl (ltn rfl) ?_
                                  refine wl_no rfl rfl rfl (ltn rfl) ?_
                                  refine wl_no rfl rfl rfl (ltn rfl) ?_
                                  refine wl_no rfl rfl rfl (ltn rfl) ?_
                                  refine wl_val (r_pick_f rfl rfl) (ltn rfl) ?_
                                  refine wl_val (r_assign rfl) (ltn rfl) ?_
                                  refine wl_nil ?_
                                  refine wq_seq ?_
                                  refine wc_cond_f rfl ?_
                                  refine wc_skip ?_
                                  refine wq_block_normal ?_
                                  refine wq_seq ?_
                                  refine wc_seq ?_
                                  refine wc_region ?_
                                  refine wl_val (r_load_whole Try.underlying55 rfl Try.sizeOf55 rfl rfl (H2.f2).get.2) (ltn rfl) ?_
                                  refine wl_eff0 (e_storePL 0 (l' := [_, _]) (us := [_, _]) H2 Try.sizeOf55 rfl rfl rfl (ones_cons (by first | rfl | assumption) (ones_cons (by first | rfl | assumption) ones_nil)) rfl rfl) ?_
                                  rintro _ w16 H16
                                  refine wl_nil ?_
                                  refine wq_seq ?_
                                  refine wc_ret ?_
                                  refine wq_end (.inl rfl) (resC Try.results35 rfl Try.underlying55 rfl (by rw [show (Try.prog.info? 55).map (·.size) = some 2 from by kernel_rfl]; rfl) (H16).get.2) ?_
                                  refine ⟨?_, H16.right.right⟩; unfold nextS; simp_all
              · (try simp only [beq_iff_eq, bne_iff_ne, ne_eq, decide_eq_true_eq, decide_eq_false_iff_not, beq_eq_false_iff_ne, bne_eq_false_iff_eq, Bool.not_eq_true', Bool.not_eq_false', Bool.not_eq_eq_eq_not, Bool.not_true, Bool.not_false, gt_iff_lt, ge_iff_le, Int.not_lt, Int.not_le] at h4)
                try (exfalso; first | contradiction | omega)
                all_goals
                  refine wl_no rfl rfl rfl (ltn rfl) ?_
                  refine wl_no rfl rfl rfl (ltn rfl) ?_
                  refine wl_no rfl rfl rfl (ltn rfl) ?_
                  refine wl_nou rfl rfl (ltn rfl) ?_
                  refine wl_nou rfl rfl (ltn rfl) ?_
                  refine wl_no rfl rfl rfl (ltn rfl) ?_
                  refine wl_no rfl rfl rfl (ltn rfl) ?_
                  refine wl_nou rfl rfl (ltn rfl) ?_
                  refine wl_nou rfl rfl (ltn rfl) ?_
                  refine wl_no rfl rfl rfl (ltn rfl) ?_
                  refine wl_val (r_pick_f rfl rfl) (ltn rfl) ?_
                  refine wl_val (r_assign rfl) (ltn rfl) ?_
                  refine wl_nil ?_
                  refine wq_seq ?_
                  refine wc_cond_f rfl ?_
                  refine wc_seq ?_
                  refine wc_region ?_
                  refine wl_val ((by first | exact r_field0 0 Try.underlying55 rfl rfl Try.sizeOf21 (by decide) rfl | exact r_field 0 Try.underlying55 rfl rfl Try.sizeOf21 (by decide) rfl)) (ltn rfl) ?_
                  refine wl_val (r_load (plain_of Try.underlying21 rfl) rfl (cell_of_blk (H2.f2).get.2 rfl)) (ltn rfl) ?_
                  refine wl_val (r_neq rfl rfl) (ltn rfl) ?_
                  refine wl_split rfl (ltn rfl) (fun h10 => ?_) (fun h10 => ?_)
                  · (try simp only [beq_iff_eq, bne_iff_ne, ne_eq, decide_eq_true_eq, decide_eq_false_iff_not, beq_eq_false_iff_ne, bne_eq_false_iff_eq, Bool.not_eq_true', Bool.not_eq_false', Bool.not_eq_eq_eq_not, Bool.not_true, Bool.not_false, gt_iff_lt, ge_iff_le, Int.not_lt, Int.not_le] at h10)
                    try (exfalso; first | contradiction | omega)
                    all_goals
                      refine wl_yes rfl rfl ?_
                      refine wl_val (r_move rfl) (ltn rfl) ?_
                      refine wl_yes rfl rfl ?_
                      refine wl_val ((by first | exact r_field0 0 Try.underlying55 rfl rfl Try.sizeOf21 (by decide) rfl | exact r_field 0 Try.underlying55 rfl rfl Try.sizeOf21 (by decide) rfl)) (ltn rfl) ?_
                      refine wl_yes rfl rfl ?_
                      refine wl_val (r_load (plain_of Try.underlying21 rfl) rfl (cell_of_blk (H2.f2).get.2 rfl)) (ltn rfl) ?_
                      refine wl_yes rfl rfl ?_
                      refine wl_val (r_eql rfl rfl) (ltn rfl) ?_
                      refine wl_val (r_pick_t rfl rfl) (ltn rfl) ?_
                      refine wl_val (r_assign rfl) (ltn rfl) ?_
                      refine wl_nil ?_
                      refine wq_seq ?_
                      refine wc_cond rfl (fun h11 => ?_) (fun h11 => ?_)
                      · (try simp only [beq_iff_eq, bne_iff_ne, ne_eq, decide_eq_true_eq, decide_eq_false_iff_not, beq_eq_false_iff_ne, bne_eq_false_iff_eq, Bool.not_eq_true', Bool.not_eq_false', Bool.not_eq_eq_eq_not, Bool.not_true, Bool.not_false, gt_iff_lt, ge_iff_le, Int.not_lt, Int.not_le] at h11)
                        try (exfalso; first | contradiction | omega)
                        all_goals
                          
                          refine wc_region ?_
                          refine wl_val ((by first | exact r_field0 0 Try.underlying55 rfl rfl Try.sizeOf21 (by decide) rfl | exact r_field 0 Try.underlying55 rfl rfl Try.sizeOf21 (by decide) rfl)) (ltn rfl) ?_
                          refine wl_eff0 (e_storeL 0 (l' := [_, _]) H2.f2 Try.sizeOf21 rfl rfl (by first | rfl | assumption) rfl rfl) ?_
                          rintro _ w17 H17
                          refine wl_nil ?_
                          refine wq_block_normal ?_
                          refine wq_seq ?_
                          refine wc_seq ?_
                          refine wc_region ?_
                          refine wl_val (r_load_whole Try.underlying55 rfl Try.sizeOf55 rfl rfl (H17).get.2) (ltn rfl) ?_
                          refine wl_eff0 (e_storePL 0 (l' := [_, _]) (us := [_, _]) H17.f2 Try.sizeOf55 rfl rfl rfl (ones_cons (by first | rfl | assumption) (ones_cons (by first | rfl | assumption) ones_nil)) rfl rfl) ?_
                          rintro _ w18 H18
                          refine wl_nil ?_
                          refine wq_seq ?_
                          refine wc_ret ?_
                          refine wq_end (.inl rfl) (resC Try.results35 rfl Try.underlying55 rfl (by rw [show (Try.prog.info? 55).map (·.size) = some 2 from by kernel_rfl]; rfl) (H18).get.2) ?_
                          refine ⟨?_, H18.right.right⟩; unfold nextS; simp_all
                      · (try simp only [beq_iff_eq, bne_iff_ne, ne_eq, decide_eq_true_eq, decide_eq_false_iff_not, beq_eq_false_iff_ne, bne_eq_false_iff_eq, Bool.not_eq_true', Bool.not_eq_false', Bool.not_eq_eq_eq_not, Bool.not_true, Bool.not_false, gt_iff_lt, ge_iff_le, Int.not_lt, Int.not_le] at h11)
                        try (exfalso; first | contradiction | omega)
                        all_goals
                          
                          refine wc_skip ?_
                          refine wq_block_normal ?_
                          refine wq_seq ?_
                          refine wc_seq ?_
                          refine wc_region ?_
                          refine wl_val (r_load_whole Try.underlying55 rfl Try.sizeOf55 rfl rfl (H2.f2).get.2) (ltn rfl) ?_
                          refine wl_eff0 (e_storePL 0 (l' := [_, _]) (us := [_, _]) H2 Try.sizeOf55 rfl rfl rfl (ones_cons (by first | rfl | assumption) (ones_cons (by first | rfl | assumption) ones_nil)) rfl rfl) ?_
                          rintro _ w19 H19
                          refine wl_nil ?_
                          refine wq_seq ?_
                          refine wc_ret ?_
                          refine wq_end (.inl rfl) (resC Try.results35 rfl Try.underlying55 rfl (by rw [show (Try.prog.info? 55).map (·.size) = some 2 from by kernel_rfl]; rfl) (H19).get.2) ?_
                          refine ⟨?_, H19.right.right⟩; unfold nextS; simp_all
                  · (try simp only [beq_iff_eq, bne_iff_ne, ne_eq, decide_eq_true_eq, decide_eq_false_iff_not, beq_eq_false_iff_ne, bne_eq_false_iff_eq, Bool.not_eq_true', Bool.not_eq_false', Bool.not_eq_eq_eq_not, Bool.not_true, Bool.not_false, gt_iff_lt, ge_iff_le, Int.not_lt, Int.not_le] at h10)
                    try (exfalso; first | contradiction | omega)
                    all_goals
                      refine wl_no rfl rfl rfl (ltn rfl) ?_
                      refine wl_no rfl rfl rfl (ltn rfl) ?_
                      refine wl_no rfl rfl rfl (ltn rfl) ?_
                      refine wl_no rfl rfl rfl (ltn rfl) ?_
                      refine wl_val (r_pick_f rfl rfl) (ltn rfl) ?_
                      refine wl_val (r_assign rfl) (ltn rfl) ?_
                      refine wl_nil ?_
                      refine wq_seq ?_
                      refine wc_cond_f rfl ?_
                      refine wc_skip ?_
                      refine wq_block_normal ?_
                      refine wq_seq ?_
                      refine wc_seq ?_
                      refine wc_region ?_
                      refine wl_val (r_load_whole Try.underlying55 rfl Try.sizeOf55 rfl rfl (H2.f2).get.2) (ltn rfl) ?_
                      refine wl_eff0 (e_storePL 0 (l' := [_, _]) (us := [_, _]) H2 Try.sizeOf55 rfl rfl rfl (ones_cons (by first | rfl | assumption) (ones_cons (by first | rfl | assumption) ones_nil)) rfl rfl) ?_
                      rintro _ w20 H20
                      refine wl_nil ?_
                      refine wq_seq ?_
                      refine wc_ret ?_
                      refine wq_end (.inl rfl) (resC Try.results35 rfl Try.underlying55 rfl (by rw [show (Try.prog.info? 55).map (·.size) = some 2 from by kernel_rfl]; rfl) (H20).get.2) ?_
                      refine ⟨?_, H20.right.right⟩; unfold nextS; simp_all
      · (try simp only [beq_iff_eq, bne_iff_ne, ne_eq, decide_eq_true_eq, decide_eq_false_iff_not, beq_eq_false_iff_ne, bne_eq_false_iff_eq, Bool.not_eq_true', Bool.not_eq_false', Bool.not_eq_eq_eq_not, Bool.not_true, Bool.not_false, gt_iff_lt, ge_iff_le, Int.not_lt, Int.not_le] at h2)
        try (exfalso; first | contradiction | omega)
        all_goals
          refine wl_no rfl rfl rfl (ltn rfl) ?_
          refine wl_no rfl rfl rfl (ltn rfl) ?_
          refine wl_no rfl rfl rfl (ltn rfl) ?_
          refine wl_val (r_pick_f rfl rfl) (ltn rfl) ?_
          refine wl_val (r_assign rfl) (ltn rfl) ?_
          refine wl_nil ?_
          refine wq_seq ?_
          refine wc_cond_f rfl ?_
          refine wc_seq ?_
          refine wc_region ?_
          refine wl_val ((by first | exact r_field0 0 Try.underlying55 rfl rfl Try.sizeOf21 (by decide) rfl | exact r_field 0 Try.underlying55 rfl rfl Try.sizeOf21 (by decide) rfl)) (ltn rfl) ?_
          refine wl_val (r_load (plain_of Try.underlying21 rfl) rfl (cell_of_blk (H2.f2).get.2 rfl)) (ltn rfl) ?_
          refine wl_val (r_eql rfl rfl) (ltn rfl) ?_
          refine wl_split rfl (ltn rfl) (fun h12 => ?_) (fun h12 => ?_)
          · (try simp only [beq_iff_eq, bne_iff_ne, ne_eq, decide_eq_true_eq, decide_eq_false_iff_not, beq_eq_false_iff_ne, bne_eq_false_iff_eq, Bool.not_eq_true', Bool.not_eq_false', Bool.not_eq_eq_eq_not, Bool.not_true, Bool.not_false, gt_iff_lt, ge_iff_le, Int.not_lt, Int.not_le] at h12)
            try (exfalso; first | contradiction | omega)
            all_goals
              refine wl_yes rfl rfl ?_
              refine wl_val (r_move rfl) (ltn rfl) ?_
              refine wl_yes rfl rfl ?_
              refine wl_val (r_eql rfl rfl) (ltn rfl) ?_
              refine wl_yes rfl rfl ?_
              refine wl_split rfl (ltn rfl) (fun h13 => ?_) (fun h13 => ?_)
              · (try simp only [beq_iff_eq, bne_iff_ne, ne_eq, decide_eq_true_eq, decide_eq_false_iff_not, beq_eq_false_iff_ne, bne_eq_false_iff_eq, Bool.not_eq_true', Bool.not_eq_false', Bool.not_eq_eq_eq_not, Bool.not_true, Bool.not_false, gt_iff_lt, ge_iff_le, Int.not_lt, Int.not_le] at h13)
                try (exfalso; first | contradiction | omega)
                all_goals
                  refine wl_no rfl rfl rfl (ltn rfl) ?_
                  refine wl_no rfl rfl rfl (ltn rfl) ?_
                  refine wl_yes rfl rfl ?_
                  refine wl_val (r_pick_t rfl rfl) (ltn rfl) ?_
                  refine wl_yes rfl rfl ?_
                  refine wl_val (r_move rfl) (ltn rfl) ?_
                  refine wl_no rfl rfl rfl (ltn rfl) ?_
                  refine wl_no rfl rfl rfl (ltn rfl) ?_
                  refine wl_yes rfl rfl ?_
                  refine wl_val (r_pick_t rfl rfl) (ltn rfl) ?_
                  refine wl_val (r_pick_t rfl rfl) (ltn rfl) ?_
                  refine wl_val (r_assign rfl) (ltn rfl) ?_
                  refine wl_nil ?_
                  refine wq_seq ?_
                  refine wc_cond_t rfl ?_
                  refine wc_region ?_
                  refine wl_val (r_move rfl) (ltn rfl) ?_
                  refine wl_val ((by first | exact r_field0 0 Try.underlying55 rfl rfl Try.sizeOf21 (by decide) rfl | exact r_field 0 Try.underlying55 rfl rfl Try.sizeOf21 (by decide) rfl)) (ltn rfl) ?_
                  refine wl_eff0 (e_storeL 0 (l' := [_, _]) H2.f2 Try.sizeOf21 rfl rfl (by first | rfl | assumption) rfl rfl) ?_
                  rintro _ w21 H21
                  refine wl_nil ?_
                  refine wq_block_normal ?_
                  refine wq_seq ?_
                  refine wc_seq ?_
                  refine wc_region ?_
                  refine wl_val (r_load_whole Try.underlying55 rfl Try.sizeOf55 rfl rfl (H21).get.2) (ltn rfl) ?_
                  refine wl_eff0 (e_storePL 0 (l' := [_, _]) (us := [_, _]) H21.f2 Try.sizeOf55 rfl rfl rfl (ones_cons (by first | rfl | assumption) (ones_cons (by first | rfl | assumption) ones_nil)) rfl rfl) ?_
                  rintro _ w22 H22
                  refine wl_nil ?_
                  refine wq_seq ?_
                  refine wc_ret ?_
                  refine wq_end (.inl rfl) (resC Try.results35 rfl Try.underlying55 rfl (by rw [show (Try.prog.info? 55).map (·.size) = some 2 from by kernel_rfl]; rfl) (H22).get.2) ?_
                  refine ⟨?_, H22.right.right⟩; unfold nextS; simp_all
              · (try simp only [beq_iff_eq, bne_iff_ne, ne_eq, decide_eq_true_eq, decide_eq_false_iff_not, beq_eq_false_iff_ne, bne_eq_false_iff_eq, Bool.not_eq_true', Bool.not_eq_false', Bool.not_eq_eq_eq_not, Bool.not_true, Bool.not_false, gt_iff_lt, ge_iff_le, Int.not_lt, Int.not_le] at h13)
                try (exfalso; first | contradiction | omega)
                all_goals
                  refine wl_yes rfl rfl ?_
                  refine wl_val (r_move rfl) (ltn rfl) ?_
                  refine wl_yes rfl rfl ?_
                  refine wl_val (r_eql rfl rfl) (ltn rfl) ?_
                  refine wl_yes rfl rfl ?_
                  refine wl_val (r_pick_f rfl rfl) (ltn rfl) ?_
                  refine wl_yes rfl rfl ?_
                  refine wl_split rfl (ltn rfl) (fun h14 => ?_) (fun h14 => ?_)
                  · (try simp only [beq_iff_eq, bne_iff_ne, ne_eq, decide_eq_true_eq, decide_eq_false_iff_not, beq_eq_false_iff_ne, bne_eq_false_iff_eq, Bool.not_eq_true', Bool.not_eq_false', Bool.not_eq_eq_eq_not, Bool.not_true, Bool.not_false, gt_iff_lt, ge_iff_le, Int.not_lt, Int.not_le] at h14)
                    try (exfalso; first | contradiction | omega)
                    all_goals
                      refine wl_no rfl rfl rfl (ltn rfl) ?_
                      refine wl_no rfl rfl rfl (ltn rfl) ?_
                      refine wl_yes rfl rfl ?_
                      refine wl_val (r_pick_t rfl rfl) (ltn rfl) ?_
                      refine wl_val (r_pick_t rfl rfl) (ltn rfl) ?_
                      refine wl_val (r_assign rfl) (ltn rfl) ?_
                      refine wl_nil ?_
                      refine wq_seq ?_
                      refine wc_cond_t rfl ?_
                      refine wc_region ?_
                      refine wl_val (r_move rfl) (ltn rfl) ?_
                      refine wl_val ((by first | exact r_field0 0 Try.underlying55 rfl rfl Try.sizeOf21 (by decide) rfl | exact r_field 0 Try.underlying55 rfl rfl Try.sizeOf21 (by decide) rfl)) (ltn rfl) ?_
                      refine wl_eff0 (e_storeL 0 (l' := [_, _]) H2.f2 Try.sizeOf21 rfl rfl (by first | rfl | assumption) rfl rfl) ?_
                      rintro _ w23 H23
                      refine wl_nil ?_
                      refine wq_block_normal ?_
                      refine wq_seq ?_
                      refine wc_seq ?_
                      refine wc_region ?_
                      refine wl_val (r_load_whole Try.underlying55 rfl Try.sizeOf55 rfl rfl (H23).get.2) (ltn rfl) ?_
                      refine wl_eff0 (e_storePL 0 (l' := [_, _]) (us := [_, _]) H23.f2 Try.sizeOf55 rfl rfl rfl (ones_cons (by first | rfl | assumption) (ones_cons (by first | rfl | assumption) ones_nil)) rfl rfl) ?_
                      rintro _ w24 H24
                      refine wl_nil ?_
                      refine wq_seq ?_
                      refine wc_ret ?_
                      refine wq_end (.inl rfl) (resC Try.results35 rfl Try.underlying55 rfl (by rw [show (Try.prog.info? 55).map (·.size) = some 2 from by kernel_rfl]; rfl) (H24).get.2) ?_
                      refine ⟨?_, H24.right.right⟩; unfold nextS; simp_all
                  · (try simp only [beq_iff_eq, bne_iff_ne, ne_eq, decide_eq_true_eq, decide_eq_false_iff_not, beq_eq_false_iff_ne, bne_eq_false_iff_eq, Bool.not_eq_true', Bool.not_eq_false', Bool.not_eq_eq_eq_not, Bool.not_true, Bool.not_false, gt_iff_lt, ge_iff_le, Int.not_lt, Int.not_le] at h14)
                    try (exfalso; first | contradiction | omega)
                    all_goals
                      refine wl_yes rfl rfl ?_
                      refine wl_val (r_move rfl) (ltn rfl) ?_
                      refine wl_yes rfl rfl ?_
                      refine wl_val (r_eql rfl rfl) (ltn rfl) ?_
                      refine wl_yes rfl rfl ?_
                      refine wl_val (r_pick_f rfl rfl) (ltn rfl) ?_
                      refine wl_val (r_pick_t rfl rfl) (ltn rfl) ?_
                      refine wl_val (r_assign rfl) (ltn rfl) ?_
                      refine wl_nil ?_
                      refine wq_seq ?_
                      refine wc_cond rfl (fun h15 => ?_) (fun h15 => ?_)
                      · (try simp only [beq_iff_eq, bne_iff_ne, ne_eq, decide_eq_true_eq, decide_eq_false_iff_not, beq_eq_false_iff_ne, bne_eq_false_iff_eq, Bool.not_eq_true', Bool.not_eq_false', Bool.not_eq_eq_eq_not, Bool.not_true, Bool.not_false, gt_iff_lt, ge_iff_le, Int.not_lt, Int.not_le] at h15)
                        try (exfalso; first | contradiction | omega)
                        all_goals
                          
                          refine wc_region ?_
                          refine wl_val (r_move rfl) (ltn rfl) ?_
                          refine wl_val ((by first | exact r_field0 0 Try.underlying55 rfl rfl Try.sizeOf21 (by decide) rfl | exact r_field 0 Try.underlying55 rfl rfl Try.sizeOf21 (by decide) rfl)) (ltn rfl) ?_
                          refine wl_eff0 (e_storeL 0 (l' := [_, _]) H2.f2 Try.sizeOf21 rfl rfl (by first | rfl | assumption) rfl rfl) ?_
                          rintro _ w25 H25
                          refine wl_nil ?_
                          refine wq_block_normal ?_
                          refine wq_seq ?_
                          refine wc_seq ?_
                          refine wc_region ?_
                          refine wl_val (r_load_whole Try.underlying55 rfl Try.sizeOf55 rfl rfl (H25).get.2) (ltn rfl) ?_
                          refine wl_eff0 (e_storePL 0 (l' := [_, _]) (us := [_, _]) H25.f2 Try.sizeOf55 rfl rfl rfl (ones_cons (by first | rfl | assumption) (ones_cons (by first | rfl | assumption) ones_nil)) rfl rfl) ?_
                          rintro _ w26 H26
                          refine wl_nil ?_
                          refine wq_seq ?_
                          refine wc_ret ?_
                          refine wq_end (.inl rfl) (resC Try.results35 rfl Try.underlying55 rfl (by rw [show (Try.prog.info? 55).map (·.size) = some 2 from by kernel_rfl]; rfl) (H26).get.2) ?_
                          refine ⟨?_, H26.right.right⟩; unfold nextS; simp_all
                      · (try simp only [beq_iff_eq, bne_iff_ne, ne_eq, decide_eq_true_eq, decide_eq_false_iff_not, beq_eq_false_iff_ne, bne_eq_false_iff_eq, Bool.not_eq_true', Bool.not_eq_false', Bool.not_eq_eq_eq_not, Bool.not_true, Bool.not_false, gt_iff_lt, ge_iff_le, Int.not_lt, Int.not_le] at h15)
                        try (exfalso; first | contradiction | omega)
                        all_goals
                          
                          refine wc_seq ?_
                          refine wc_region ?_
                          refine wl_val ((by first | exact r_field0 0 Try.underlying55 rfl rfl Try.sizeOf21 (by decide) rfl | exact r_field 0 Try.underlying55 rfl rfl Try.sizeOf21 (by decide) rfl)) (ltn rfl) ?_
                          refine wl_val (r_load (plain_of Try.underlying21 rfl) rfl (cell_of_blk (H2.f2).get.2 rfl)) (ltn rfl) ?_
                          refine wl_val (r_neq rfl rfl) (ltn rfl) ?_
                          refine wl_split rfl (ltn rfl) (fun h16 => ?_) (fun h16 => ?_)
                          · (try simp only [beq_iff_eq, bne_iff_ne, ne_eq, decide_eq_true_eq, decide_eq_false_iff_not, beq_eq_false_iff_ne, bne_eq_false_iff_eq, Bool.not_eq_true', Bool.not_eq_false', Bool.not_eq_eq_eq_not, Bool.not_true, Bool.not_false, gt_iff_lt, ge_iff_le, Int.not_lt, Int.not_le] at h16)
                            try (exfalso; first | contradiction | omega)
                            all_goals
                              refine wl_yes rfl rfl ?_
                              refine wl_val (r_move rfl) (ltn rfl) ?_
                              refine wl_yes rfl rfl ?_
                              refine wl_val ((by first | exact r_field0 0 Try.underlying55 rfl rfl Try.sizeOf21 (by decide) rfl | exact r_field 0 Try.underlying55 rfl rfl Try.sizeOf21 (by decide) rfl)) (ltn rfl) ?_
                              refine wl_yes rfl rfl ?_
                              refine wl_val (r_load (plain_of Try.underlying21 rfl) rfl (cell_of_blk (H2.f2).get.2 rfl)) (ltn rfl) ?_
                              refine wl_yes rfl rfl ?_
                              refine wl_val (r_eql rfl rfl) (ltn rfl) ?_
                              refine wl_val (r_pick_t rfl rfl) (ltn rfl) ?_
                              refine wl_val (r_assign rfl) (ltn rfl) ?_
                              refine wl_nil ?_
                              refine wq_seq ?_
                              refine wc_cond rfl (fun h17 => ?_) (fun h17 => ?_)
                              · (try simp only [beq_iff_eq, bne_iff_ne, ne_eq, decide_eq_true_eq, decide_eq_false_iff_not, beq_eq_false_iff_ne, bne_eq_false_iff_eq, Bool.not_eq_true', Bool.not_eq_false', Bool.not_eq_eq_eq_not, Bool.not_true, Bool.not_false, gt_iff_lt, ge_iff_le, Int.not_lt, Int.not_le] at h17)
                                try (exfalso; first | contradiction | omega)
                                all_goals
                                  
                                  refine wc_region ?_
                                  refine wl_val ((by first | exact r_field0 0 Try.underlying55 rfl rfl Try.sizeOf21 (by decide) rfl | exact r_field 0 Try.underlying55 rfl rfl Try.sizeOf21 (by decide) rfl)) (ltn rfl) ?_
                                  refine wl_eff0 (e_storeL 0 (l' := [_, _]) H2.f2 Try.sizeOf21 rfl rfl (by first | rfl | assumption) rfl rfl) ?_
                                  rintro _ w27 H27
                                  refine wl_nil ?_
                                  refine wq_block_normal ?_
                                  refine wq_seq ?_
                                  refine wc_seq ?_
                                  refine wc_region ?_
                                  refine wl_val (r_load_whole Try.underlying55 rfl Try.sizeOf55 rfl rfl (H27).get.2) (ltn rfl) ?_
                                  refine wl_eff0 (e_storePL 0 (l' := [_, _]) (us := [_, _]) H27.f2 Try.sizeOf55 rfl rfl rfl (ones_cons (by first | rfl | assumption) (ones_cons (by first | rfl | assumption) ones_nil)) rfl rfl) ?_
                                  rintro _ w28 H28
                                  refine wl_nil ?_
                                  refine wq_seq ?_
                                  refine wc_ret ?_
                                  refine wq_end (.inl rfl) (resC Try.results35 rfl Try.underlying55 rfl (by rw [show (Try.prog.info? 55).map (·.size) = some 2 from by kernel_rfl]; rfl) (H28).get.2) ?_
                                  refine ⟨?_, H28.right.right⟩; unfold nextS; simp_all
                              · (try simp only [beq_iff_eq, bne_iff_ne, ne_eq, decide_eq_true_eq, decide_eq_false_iff_not, beq_eq_false_iff_ne, bne_eq_false_iff_eq, Bool.not_eq_true', Bool.not_eq_false', Bool.not_eq_eq_eq_not, Bool.not_true, Bool.not_false, gt_iff_lt, ge_iff_le, Int.not_lt, Int.not_le] at h17)
                                try (exfalso; first | contradiction | omega)
                                all_goals
                                  
                                  refine wc_skip ?_
                                  refine wq_block_normal ?_
                                  refine wq_seq ?_
                                  refine wc_seq ?_
                                  refine wc_region ?_
                                  refine wl_val (r_load_whole Try.underlying55 rfl Try.sizeOf55 rfl rfl (H2.f2).get.2) (ltn rfl) ?_
                                  refine wl_eff0 (e_storePL 0 (l' := [_, _]) (us := [_, _]) H2 Try.sizeOf55 rfl rfl rfl (ones_cons (by first | rfl | assumption) (ones_cons (by first | rfl | assumption) ones_nil)) rfl rfl) ?_
                                  rintro _ w29 H29
                                  refine wl_nil ?_
                                  refine wq_seq ?_
                                  refine wc_ret ?_
                                  refine wq_end (.inl rfl) (resC Try.results35 rfl Try.underlying55 rfl (by rw [show (Try.prog.info? 55).map (·.size) = some 2 from by kernel_rfl]; rfl) (H29).get.2) ?_
                                  refine ⟨?_, H29.right.right⟩; unfold nextS; simp_all
                          · (try simp only [beq_iff_eq, bne_iff_ne, ne_eq, decide_eq_true_eq, decide_eq_false_iff_not, beq_eq_false_iff_ne, bne_eq_false_iff_eq, Bool.not_eq_true', Bool.not_eq_false', Bool.not_eq_eq_eq_not, Bool.not_true, Bool.not_false, gt_iff_lt, ge_iff_le, Int.not_lt, Int.not_le] at h16)
                            try (exfalso; first | contradiction | omega)
                            all_goals
                              refine wl_no rfl rfl rfl (ltn rfl) ?_
                              refine wl_no rfl rfl rfl (ltn rfl) ?_
                              refine wl_no rfl rfl rfl (ltn rfl) ?_
                              refine wl_no rfl rfl rfl (ltn rfl) ?_
                              refine wl_val (r_pick_f rfl rfl) (ltn rfl) ?_
                              refine wl_val (r_assign rfl) (ltn rfl) ?_
                              refine wl_nil ?_
                              refine wq_seq ?_
                              refine wc_cond_f rfl ?_
                              refine wc_skip ?_
                              refine wq_block_normal ?_
                              refine wq_seq ?_
                              refine wc_seq ?_
                              refine wc_region ?_
                              refine wl_val (r_load_whole Try.underlying55 rfl Try.sizeOf55 rfl rfl (H2.f2).get.2) (ltn rfl) ?_
                              refine wl_eff0 (e_storePL 0 (l' := [_, _]) (us := [_, _]) H2 Try.sizeOf55 rfl rfl rfl (ones_cons (by first | rfl | assumption) (ones_cons (by first | rfl | assumption) ones_nil)) rfl rfl) ?_
                              rintro _ w30 H30
                              refine wl_nil ?_
                              refine wq_seq ?_
                              refine wc_ret ?_
                              refine wq_end (.inl rfl) (resC Try.results35 rfl Try.underlying55 rfl (by rw [show (Try.prog.info? 55).map (·.size) = some 2 from by kernel_rfl]; rfl) (H30).get.2) ?_
                              refine ⟨?_, H30.right.right⟩; unfold nextS; simp_all
          · (try simp only [beq_iff_eq, bne_iff_ne, ne_eq, decide_eq_true_eq, decide_eq_false_iff_not, beq_eq_false_iff_ne, bne_eq_false_iff_eq, Bool.not_eq_true', Bool.not_eq_false', Bool.not_eq_eq_eq_not, Bool.not_true, Bool.not_false, gt_iff_lt, ge_iff_le, Int.not_lt, Int.not_le] at h12)
            try (exfalso; first | contradiction | omega)
            all_goals
              refine wl_no rfl rfl rfl (ltn rfl) ?_
              refine wl_no rfl rfl rfl (ltn rfl) ?_
              refine wl_no rfl rfl rfl (ltn rfl) ?_
              refine wl_nou rfl rfl (ltn rfl) ?_
              refine wl_nou rfl rfl (ltn rfl) ?_
              refine wl_no rfl rfl rfl (ltn rfl) ?_
              refine wl_no rfl rfl rfl (ltn rfl) ?_
              refine wl_nou rfl rfl (ltn rfl) ?_
              refine wl_nou rfl rfl (ltn rfl) ?_
              refine wl_no rfl rfl rfl (ltn rfl) ?_
              refine wl_val (r_pick_f rfl rfl) (ltn rfl) ?_
              refine wl_val (r_assign rfl) (ltn rfl) ?_
              refine wl_nil ?_
              refine wq_seq ?_
              refine wc_cond_f rfl ?_
              refine wc_seq ?_
              refine wc_region ?_
              refine wl_val ((by first | exact r_field0 0 Try.underlying55 rfl rfl Try.sizeOf21 (by decide) rfl | exact r_field 0 Try.underlying55 rfl rfl Try.sizeOf21 (by decide) rfl)) (ltn rfl) ?_
              refine wl_val (r_load (plain_of Try.underlying21 rfl) rfl (cell_of_blk (H2.f2).get.2 rfl)) (ltn rfl) ?_
              refine wl_val (r_neq rfl rfl) (ltn rfl) ?_
              refine wl_split rfl (ltn rfl) (fun h18 => ?_) (fun h18 => ?_)
              · (try simp only [beq_iff_eq, bne_iff_ne, ne_eq, decide_eq_true_eq, decide_eq_false_iff_not, beq_eq_false_iff_ne, bne_eq_false_iff_eq, Bool.not_eq_true', Bool.not_eq_false', Bool.not_eq_eq_eq_not, Bool.not_true, Bool.not_false, gt_iff_lt, ge_iff_le, Int.not_lt, Int.not_le] at h18)
                try (exfalso; first | contradiction | omega)
                all_goals
                  refine wl_yes rfl rfl ?_
                  refine wl_val (r_move rfl) (ltn rfl) ?_
                  refine wl_yes rfl rfl ?_
                  refine wl_val ((by first | exact r_field0 0 Try.underlying55 rfl rfl Try.sizeOf21 (by decide) rfl | exact r_field 0 Try.underlying55 rfl rfl Try.sizeOf21 (by decide) rfl)) (ltn rfl) ?_
                  refine wl_yes rfl rfl ?_
                  refine wl_val (r_load (plain_of Try.underlying21 rfl) rfl (cell_of_blk (H2.f2).get.2 rfl)) (ltn rfl) ?_
                  refine wl_yes rfl rfl ?_
                  refine wl_val (r_eql rfl rfl) (ltn rfl) ?_
                  refine wl_val (r_pick_t rfl rfl) (ltn rfl) ?_
                  refine wl_val (r_assign rfl) (ltn rfl) ?_
                  refine wl_nil ?_
                  refine wq_seq ?_
                  refine wc_cond rfl (fun h19 => ?_) (fun h19 => ?_)
                  · (try simp only [beq_iff_eq, bne_iff_ne, ne_eq, decide_eq_true_eq, decide_eq_false_iff_not, beq_eq_false_iff_ne, bne_eq_false_iff_eq, Bool.not_eq_true', Bool.not_eq_false', Bool.not_eq_eq_eq_not, Bool.not_true, Bool.not_false, gt_iff_lt, ge_iff_le, Int.not_lt, Int.not_le] at h19)
                    try (exfalso; first | contradiction | omega)
                    all_goals
                      
                      refine wc_region ?_
                      refine wl_val ((by first | exact r_field0 0 Try.underlying55 rfl rfl Try.sizeOf21 (by decide) rfl | exact r_field 0 Try.underlying55 rfl rfl Try.sizeOf21 (by decide) rfl)) (ltn rfl) ?_
                      refine wl_eff0 (e_storeL 0 (l' := [_, _]) H2.f2 Try.sizeOf21 rfl rfl (by first | rfl | assumption) rfl rfl) ?_
                      rintro _ w31 H31
                      refine wl_nil ?_
                      refine wq_block_normal ?_
                      refine wq_seq ?_
                      refine wc_seq ?_
                      refine wc_region ?_
                      refine wl_val (r_load_whole Try.underlying55 rfl Try.sizeOf55 rfl rfl (H31).get.2) (ltn rfl) ?_
                      refine wl_eff0 (e_storePL 0 (l' := [_, _]) (us := [_, _]) H31.f2 Try.sizeOf55 rfl rfl rfl (ones_cons (by first | rfl | assumption) (ones_cons (by first | rfl | assumption) ones_nil)) rfl rfl) ?_
                      rintro _ w32 H32
                      refine wl_nil ?_
                      refine wq_seq ?_
                      refine wc_ret ?_
                      refine wq_end (.inl rfl) (resC Try.results35 rfl Try.underlying55 rfl (by rw [show (Try.prog.info? 55).map (·.size) = some 2 from by kernel_rfl]; rfl) (H32).get.2) ?_
                      refine ⟨?_, H32.right.right⟩; unfold nextS; simp_all
                  · (try simp only [beq_iff_eq, bne_iff_ne, ne_eq, decide_eq_true_eq, decide_eq_false_iff_not, beq_eq_false_iff_ne, bne_eq_false_iff_eq, Bool.not_eq_true', Bool.not_eq_false', Bool.not_eq_eq_eq_not, Bool.not_true, Bool.not_false, gt_iff_lt, ge_iff_le, Int.not_lt, Int.not_le] at h19)
                    try (exfalso; first | contradiction | omega)
                    all_goals
                      
                      refine wc_skip ?_
                      refine wq_block_normal ?_
                      refine wq_seq ?_
                      refine wc_seq ?_
                      refine wc_region ?_
                      refine wl_val (r_load_whole Try.underlying55 rfl Try.sizeOf55 rfl rfl (H2.f2).get.2) (ltn rfl) ?_
                      refine wl_eff0 (e_storePL 0 (l' := [_, _]) (us := [_, _]) H2 Try.sizeOf55 rfl rfl rfl (ones_cons (by first | rfl | assumption) (ones_cons (by first | rfl | assumption) ones_nil)) rfl rfl) ?_
                      rintro _ w33 H33
                      refine wl_nil ?_
                      refine wq_seq ?_
                      refine wc_ret ?_
                      refine wq_end (.inl rfl) (resC Try.results35 rfl Try.underlying55 rfl (by rw [show (Try.prog.info? 55).map (·.size) = some 2 from by kernel_rfl]; rfl) (H33).get.2) ?_
                      refine ⟨?_, H33.right.right⟩; unfold nextS; simp_all
              · (try simp only [beq_iff_eq, bne_iff_ne, ne_eq, decide_eq_true_eq, decide_eq_false_iff_not, beq_eq_false_iff_ne, bne_eq_false_iff_eq, Bool.not_eq_true', Bool.not_eq_false', Bool.not_eq_eq_eq_not, Bool.not_true, Bool.not_false, gt_iff_lt, ge_iff_le, Int.not_lt, Int.not_le] at h18)
                try (exfalso; first | contradiction | omega)
                all_goals
                  refine wl_no rfl rfl rfl (ltn rfl) ?_
                  refine wl_no rfl rfl rfl (ltn rfl) ?_
                  refine wl_no rfl rfl rfl (ltn rfl) ?_
                  refine wl_no rfl rfl rfl (ltn rfl) ?_
                  refine wl_val (r_pick_f rfl rfl) (ltn rfl) ?_
                  refine wl_val (r_assign rfl) (ltn rfl) ?_
                  refine wl_nil ?_
                  refine wq_seq ?_
                  refine wc_cond_f rfl ?_
                  refine wc_skip ?_
                  refine wq_block_normal ?_
                  refine wq_seq ?_
                  refine wc_seq ?_
                  refine wc_region ?_
                  refine wl_val (r_load_whole Try.underlying55 rfl Try.sizeOf55 rfl rfl (H2.f2).get.2) (ltn rfl) ?_
                  refine wl_eff0 (e_storePL 0 (l' := [_, _]) (us := [_, _]) H2 Try.sizeOf55 rfl rfl rfl (ones_cons (by first | rfl | assumption) (ones_cons (by first | rfl | assumption) ones_nil)) rfl rfl) ?_
                  rintro _ w34 H34
                  refine wl_nil ?_
                  refine wq_seq ?_
                  refine wc_ret ?_
                  refine wq_end (.inl rfl) (resC Try.results35 rfl Try.underlying55 rfl (by rw [show (Try.prog.info? 55).map (·.size) = some 2 from by kernel_rfl]; rfl) (H34).get.2) ?_
                  refine ⟨?_, H34.right.right⟩; unfold nextS; simp_all
end
end Go.Proofs.Ytgoopiakpbcgoaa
