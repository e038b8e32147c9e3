/- slices.Equal at []rune. -/
import Derived.Test.YtmkmffoadapmnaaDoorProg
import Derived.Test.YtmkmffoadapmnaaDoorLit
set_option linter.unusedSimpArgs false
set_option linter.unusedVariables false
namespace Go.Proofs.YtmkmffoadapmnaaDoor
open Go.RowKit
theorem take_eq_succ {l m : List Int} {i : Nat} (h1 : i < l.length) (h2 : i < m.length) (h : l.take i = m.take i) (e : l.getD i 0 = m.getD i 0) : l.take (i + 1) = m.take (i + 1) := by
  rw [List.take_succ_eq_append_getElem h1, List.take_succ_eq_append_getElem h2, h]
  simp [List.getD_eq_getElem?_getD, h1, h2] at e
  rw [e]

theorem equal_ret (w : World) (v1 v2 : Value) (l1 l2 : List Int) (h1 : RdI w .i32 v1 l1) (h2 : RdI w .i32 v2 l2) :
    Ret Tryd.prog 21 #[v1, v2] w fun v w' => v = .bool (l1 == l2) ∧ Drew w w' := by
  obtain ⟨a1, c1, rfl, hc1, hm1, hr1⟩ := h1.open
  obtain ⟨a2, c2, rfl, hc2, hm2, hr2⟩ := h2.open
  clear h1 h2
  refine ret_enter Tryd.func21 rfl Tryd.ntmps21 (Nat.le_of_ble_eq_true rfl) ?_
  dsimp only [slots0, Nat.reduceAdd]
  refine wc_seq ?_
  refine wc_region ?_
  refine wl_val (r_assign rfl) (ltn rfl) ?_
  refine wl_nil ?_
  refine wq_seq ?_
  refine wc_seq ?_
  refine wc_seq ?_
  refine wc_region ?_
  refine wl_val (r_move rfl) (ltn rfl) ?_
  refine wl_val (r_len Tryd.underlying22 rfl) (ltn rfl) ?_
  refine wl_val (r_move rfl) (ltn rfl) ?_
  refine wl_val (r_len Tryd.underlying22 rfl) (ltn rfl) ?_
  refine wl_val (r_neq rfl rfl) (ltn rfl) ?_
  refine wl_nil ?_
  refine wq_seq ?_
  refine wc_cond rfl (fun h1 => ?_) (fun h1 => ?_)
  · (try simp only [beq_iff_eq, bne_iff_ne, ne_eq, decide_eq_true_eq, decide_eq_false_iff_not, beq_eq_false_iff_ne, bne_eq_false_iff_eq, Bool.not_eq_true', Bool.not_eq_false', Bool.not_eq_eq_eq_not, Bool.not_true, Bool.not_false, gt_iff_lt, ge_iff_le, Int.not_lt, Int.not_le] at h1)
    try (exfalso; first | contradiction | omega)
    all_goals
      
      refine wc_seq ?_
      refine wc_region ?_
      refine wl_val (r_assign rfl) (ltn rfl) ?_
      refine wl_nil ?_
      refine wq_seq ?_
      refine wc_ret ?_
      refine wq_then_ret ?_
      refine wq_end1 (.inl rfl) Tryd.results21 rfl ?_
      exact ⟨by rw [show (l1 == l2) = false from beq_eq_false_iff_ne.2 (by rintro rfl; exact h1 rfl)], Drew.refl _⟩
  · (try simp only [beq_iff_eq, bne_iff_ne, ne_eq, decide_eq_true_eq, decide_eq_false_iff_not, beq_eq_false_iff_ne, bne_eq_false_iff_eq, Bool.not_eq_true', Bool.not_eq_false', Bool.not_eq_eq_eq_not, Bool.not_true, Bool.not_false, gt_iff_lt, ge_iff_le, Int.not_lt, Int.not_le] at h1)
    try (exfalso; first | contradiction | omega)
    all_goals
      
      refine wc_skip ?_
      refine wq_seq ?_
      refine wc_seq ?_
      refine wc_seq ?_
      refine wc_region ?_
      refine wl_val (r_move rfl) (ltn rfl) ?_
      refine wl_val (r_len Tryd.underlying22 rfl) (ltn rfl) ?_
      refine wl_val (r_move rfl) (ltn rfl) ?_
      refine wl_nil ?_
      refine wq_seq ?_
      refine wc_block ?_
      refine wc_loop [(0, _), (1, _), (12, _)] (fun (k : Nat) => [(13, .int .i64 (k : Int))]) (fun (k : Nat) W => k ≤ l1.length ∧ l1.length = l2.length ∧ l1.take k = l2.take k ∧ Drew w W) (fun (k : Nat) => l1.length - k) (0) (Sub.cons rfl (Sub.cons rfl (Sub.cons rfl (Sub.nil _)))) (Sub.cons rfl (Sub.nil _)) ⟨by omega, by omega, by simp, Drew.refl _⟩ ?_
      rintro k w1 ⟨hk, hl, ht, hD⟩
      dsimp only [List.cons_append, List.nil_append]
      refine wc_seq ?_
      refine wc_region ?_
      refine wl_val (r_lss rfl rfl) (ltn rfl) ?_
      refine wl_nil ?_
      refine wq_seq ?_
      refine wc_seq ?_
      refine wc_cond rfl (fun h2 => ?_) (fun h2 => ?_)
      · (try simp only [beq_iff_eq, bne_iff_ne, ne_eq, decide_eq_true_eq, decide_eq_false_iff_not, beq_eq_false_iff_ne, bne_eq_false_iff_eq, Bool.not_eq_true', Bool.not_eq_false', Bool.not_eq_eq_eq_not, Bool.not_true, Bool.not_false, gt_iff_lt, ge_iff_le, Int.not_lt, Int.not_le] at h2)
        try (exfalso; first | contradiction | omega)
        all_goals
          
          refine wc_skip ?_
          refine wq_seq ?_
          refine wc_seq ?_
          refine wc_block ?_
          refine wc_seq ?_
          refine wc_region ?_
          refine wl_val (r_move rfl) (ltn rfl) ?_
          refine wl_val (r_assign rfl) (ltn rfl) ?_
          refine wl_nil ?_
          refine wq_seq ?_
          refine wc_seq ?_
          obtain ⟨b1, o1, rfl, hq1⟩ := hr1 (by omega)
          obtain ⟨b2, o2, rfl, hq2⟩ := hr2 (by omega)
          have hc1 := hq1 k (by omega)
          have hc2 := hq2 k (by omega)
          refine wd_begin (n := 9) [0, 1, 2, 3, 4, 5, 6, 7, 8] (fun W => W.heap = w1.heap) (by kernel_rfl) (by kernel_rfl) rfl ?_
          have hS0 : (fun W => W.heap = w1.heap) (w1.drew) := rfl
          refine wd_takeT 0 rfl (by kernel_rfl) (by kernel_rfl) hS0 (fun _ => r_move rfl) (ltn rfl) ?_
          refine wd_takeT 1 rfl (by kernel_rfl) (by kernel_rfl) hS0 (fun _ => r_move rfl) (ltn rfl) ?_
          refine wd_takeT 2 rfl (by kernel_rfl) (by kernel_rfl) hS0 (fun _ => r_index Tryd.underlying22 Tryd.sizeOf21 rfl rfl (by omega)) (ltn rfl) ?_
          refine wd_take 3 rfl (by kernel_rfl) (by kernel_rfl) hS0 (by decide) (fun W hW => r_load (plain_of Tryd.underlying21 rfl) rfl (by rw [cell_heap (hW.trans hD.heap)]; simpa using hc1)) (ltn rfl) ?_
          refine wd_takeT 4 rfl (by kernel_rfl) (by kernel_rfl) hS0 (fun _ => r_move rfl) (ltn rfl) ?_
          refine wd_takeT 5 rfl (by kernel_rfl) (by kernel_rfl) hS0 (fun _ => r_move rfl) (ltn rfl) ?_
          refine wd_takeT 6 rfl (by kernel_rfl) (by kernel_rfl) hS0 (fun _ => r_index Tryd.underlying22 Tryd.sizeOf21 rfl rfl (by omega)) (ltn rfl) ?_
          refine wd_take 7 rfl (by kernel_rfl) (by kernel_rfl) hS0 (by decide) (fun W hW => r_load (plain_of Tryd.underlying21 rfl) rfl (by rw [cell_heap (hW.trans hD.heap)]; simpa using hc2)) (ltn rfl) ?_
          refine wd_takeT 8 rfl (by kernel_rfl) (by kernel_rfl) hS0 (fun _ => r_neq rfl rfl) (ltn rfl) ?_
          refine wd_done (by kernel_rfl) ?_
          refine wq_seq ?_
          refine wc_cond rfl (fun h3 => ?_) (fun h3 => ?_)
          · (try simp only [beq_iff_eq, bne_iff_ne, ne_eq, decide_eq_true_eq, decide_eq_false_iff_not, beq_eq_false_iff_ne, bne_eq_false_iff_eq, Bool.not_eq_true', Bool.not_eq_false', Bool.not_eq_eq_eq_not, Bool.not_true, Bool.not_false, gt_iff_lt, ge_iff_le, Int.not_lt, Int.not_le] at h3)
            try (exfalso; first | contradiction | omega)
            all_goals
              
              refine wc_seq ?_
              refine wc_region ?_
              refine wl_val (r_assign rfl) (ltn rfl) ?_
              refine wl_nil ?_
              refine wq_seq ?_
              refine wc_ret ?_
              refine wq_block_ret ?_
              refine wq_then_ret ?_
              refine wq_then_ret ?_
              refine wq_block_ret ?_
              refine wq_then_ret ?_
              refine wq_end1 (.inl rfl) Tryd.results21 rfl ?_
              exact ⟨by rw [show (l1 == l2) = false from beq_eq_false_iff_ne.2 (by rintro rfl; exact h3 rfl)], hD.drew⟩
          · (try simp only [beq_iff_eq, bne_iff_ne, ne_eq, decide_eq_true_eq, decide_eq_false_iff_not, beq_eq_false_iff_ne, bne_eq_false_iff_eq, Bool.not_eq_true', Bool.not_eq_false', Bool.not_eq_eq_eq_not, Bool.not_true, Bool.not_false, gt_iff_lt, ge_iff_le, Int.not_lt, Int.not_le] at h3)
            try (exfalso; first | contradiction | omega)
            all_goals
              
              refine wc_skip ?_
              refine wq_block_normal ?_
              refine wq_seq ?_
              refine wc_region ?_
              refine wl_val (r_add rfl rfl (by omega)) (ltn rfl) ?_
              refine wl_val (r_move rfl) (ltn rfl) ?_
              refine wl_nil ?_
              refine wq_round (k + 1) ?_ ?_ ?_ ?_
              · exact (Sub.cons rfl (Sub.nil _))
              · exact (Sub.cons rfl (Sub.cons rfl (Sub.cons rfl (Sub.nil _))))
              · (try dsimp only)
                exact ⟨by omega, by omega, take_eq_succ (by omega) (by omega) ht (by simpa using h3), hD.drew⟩
              · (try dsimp only); omega
      · (try simp only [beq_iff_eq, bne_iff_ne, ne_eq, decide_eq_true_eq, decide_eq_false_iff_not, beq_eq_false_iff_ne, bne_eq_false_iff_eq, Bool.not_eq_true', Bool.not_eq_false', Bool.not_eq_eq_eq_not, Bool.not_true, Bool.not_false, gt_iff_lt, ge_iff_le, Int.not_lt, Int.not_le] at h2)
        try (exfalso; first | contradiction | omega)
        all_goals
          
          refine wc_exit ?_
          refine wq_then_exit ?_
          refine wq_then_exit ?_
          refine wq_block_hit ?_
          refine wq_seq ?_
          refine wc_seq ?_
          refine wc_region ?_
          refine wl_val (r_assign rfl) (ltn rfl) ?_
          refine wl_nil ?_
          refine wq_seq ?_
          refine wc_ret ?_
          refine wq_end1 (.inl rfl) Tryd.results21 rfl ?_
          exact ⟨by rw [show (l1 == l2) = true from beq_iff_eq.2 (by rw [List.take_of_length_le (by omega), List.take_of_length_le (by omega)] at ht; exact ht)], hD⟩
end Go.Proofs.YtmkmffoadapmnaaDoor
