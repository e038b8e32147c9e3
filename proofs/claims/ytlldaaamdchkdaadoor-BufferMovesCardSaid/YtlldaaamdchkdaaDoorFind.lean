/- Where a rune stands: the two functions answer alike. -/
import Derived.Test.YtlldaaamdchkdaaDoorMoveRef
set_option linter.unusedSimpArgs false
set_option linter.unusedVariables false
namespace Go.Proofs.YtlldaaamdchkdaaDoor
open Go.RowKit
/-- The first one behind, the first one ahead. -/
def FindF (l : List Int) (n : Nat) (r : Int) (i : Int) (b : Bool) : Prop := (b = true ∧ ∃ k : Nat, i = k ∧ n < k ∧ k < l.length ∧ l.getD k 0 = r ∧ ∀ j, n < j → j < k → l.getD j 0 ≠ r) ∨ (b = false ∧ i = 0 ∧ ∀ j, n < j → j < l.length → l.getD j 0 ≠ r)
def FindB (l : List Int) (n : Nat) (r : Int) (i : Int) (b : Bool) : Prop := (b = true ∧ ∃ k : Nat, i = k ∧ k < n ∧ l.getD k 0 = r ∧ ∀ j, k < j → j < n → l.getD j 0 ≠ r) ∨ (b = false ∧ i = 0 ∧ ∀ j, j < n → l.getD j 0 ≠ r)
theorem findF_one {l : List Int} {n : Nat} {r i i' : Int} {b b' : Bool} (h : FindF l n r i b) (h' : FindF l n r i' b') : i = i' ∧ b = b' := by
  rcases h with ⟨rfl, k, rfl, h1, h2, h3, h4⟩ | ⟨rfl, rfl, h4⟩ <;> rcases h' with ⟨rfl, k', rfl, g1, g2, g3, g4⟩ | ⟨rfl, rfl, g4⟩
  · rcases Nat.lt_trichotomy k k' with e | e | e
    · exact absurd h3 (g4 k h1 e)
    · subst e; exact ⟨rfl, rfl⟩
    · exact absurd g3 (h4 k' g1 e)
  · exact absurd h3 (g4 k h1 h2)
  · exact absurd g3 (h4 k' g1 g2)
  · exact ⟨rfl, rfl⟩
theorem findB_one {l : List Int} {n : Nat} {r i i' : Int} {b b' : Bool} (h : FindB l n r i b) (h' : FindB l n r i' b') : i = i' ∧ b = b' := by
  rcases h with ⟨rfl, k, rfl, h1, h3, h4⟩ | ⟨rfl, rfl, h4⟩ <;> rcases h' with ⟨rfl, k', rfl, g1, g3, g4⟩ | ⟨rfl, rfl, g4⟩
  · rcases Nat.lt_trichotomy k k' with e | e | e
    · exact absurd g3 (h4 k' e g1)
    · subst e; exact ⟨rfl, rfl⟩
    · exact absurd h3 (g4 k e h1)
  · exact absurd h3 (g4 k h1)
  · exact absurd g3 (h4 k' g1)
  · exact ⟨rfl, rfl⟩
section
variable {w : World} {v : Value} {l : List Int} {x r : Int}
theorem find_f_ret (hr : RdI w .i32 v l) (hb : l.length ≤ 35184372088832) : Ret Tryd.prog 31 #[v, .int .i64 x, .int .i32 r, .bool true] w fun v' w' => ∃ i b, v' = .tuple #[.int .i64 i, .bool b] ∧ FindF l (withinM l.length x) r i b ∧ w = w' := by
  obtain ⟨a, c, rfl, hac, hac2, hcell⟩ := hr.open
  have hw := withinM_le l.length x
  obtain ⟨n, hn⟩ : ∃ n, withinM l.length x = n := ⟨_, rfl⟩
  rw [hn] at hw ⊢
  refine ret_enter Tryd.func31 rfl Tryd.ntmps31 (Nat.le_of_ble_eq_true rfl) ?_
  dsimp only [slots0, Nat.reduceAdd]
  refine wc_seq ?_
  refine wc_region ?_
  refine wl_val (r_assign rfl) (by decide) ?_
  refine wl_val (r_assign rfl) (by decide) ?_
  refine wl_nil ?_
  refine wq_seq ?_
  refine wc_seq ?_
  refine wc_region ?_
  refine wl_val (r_move rfl) (by decide) ?_
  refine wl_val (r_move rfl) (by decide) ?_
  refine wl_eff (e_call (r_call rfl Tryd.func59 rfl rfl) (within_ret)) (by decide) ?_
  rintro _ _ ⟨rfl, rfl⟩
  rw [hn]
  refine wl_val (r_assign rfl) (by decide) ?_
  refine wl_nil ?_
  refine wq_seq ?_
  refine wc_seq ?_
  refine wc_seq ?_
  refine wc_region ?_
  refine wl_val (r_move rfl) (by decide) ?_
  refine wl_nil ?_
  refine wq_seq ?_
  refine wc_cond_t rfl ?_
  refine wc_seq ?_
  refine wc_seq ?_
  refine wc_region ?_
  refine wl_val (r_move rfl) (by decide) ?_
  refine wl_val (r_add rfl rfl (by omega)) (by decide) ?_
  refine wl_val (r_assign rfl) (by decide) ?_
  refine wl_nil ?_
  refine wq_seq ?_
  refine wc_block ?_
  refine wc_loop [(0, _), (2, _)] (fun (k : Nat) => [(10, .int .i64 (k : Int))]) (fun (k : Nat) W => n + 1 ≤ k ∧ (∀ j, n < j → j < k → l.getD j 0 ≠ r) ∧ w = W) (fun (k : Nat) => l.length + 1 - k) ((n + 1)) (Sub.cons rfl (Sub.cons rfl (Sub.nil _))) (Sub.cons rfl (Sub.nil _)) ⟨by omega, fun j h8 h9 => absurd h8 (by omega), rfl⟩ ?_
  rintro k w2 ⟨hk1, hk3, rfl⟩
  dsimp only [List.cons_append, List.nil_append]
  refine wc_seq ?_
  refine wc_seq ?_
  refine wc_region ?_
  refine wl_val (r_move rfl) (by decide) ?_
  refine wl_val (r_move rfl) (by decide) ?_
  refine wl_val (r_len Tryd.underlying22 rfl) (by decide) ?_
  refine wl_val (r_lss rfl rfl) (by decide) ?_
  refine wl_nil ?_
  refine wq_seq ?_
  refine wc_cond rfl (fun h1 => ?_) (fun h1 => ?_)
  · (try simp only [beq_iff_eq, bne_iff_ne, ne_eq, decide_eq_true_eq, decide_eq_false_iff_not, beq_eq_false_iff_ne, bne_eq_false_iff_eq, Bool.not_eq_true', Bool.not_eq_false', Bool.not_eq_eq_eq_not, Bool.not_true, Bool.not_false, gt_iff_lt, ge_iff_le, Int.not_lt, Int.not_le] at h1)
    try (exfalso; first | contradiction | omega)
    all_goals
      
      refine wc_skip ?_
      refine wq_seq ?_
      refine wc_seq ?_
      refine wc_block ?_
      refine wc_seq ?_
      obtain ⟨b, o, rfl, hq⟩ := hcell (by omega)
      have hqk := hq k (by omega)
      refine wc_region ?_
      refine wl_val (r_move rfl) (by decide) ?_
      refine wl_val (r_move rfl) (by decide) ?_
      refine wl_val (r_index Tryd.underlying22 Tryd.sizeOf21 rfl rfl (by omega)) (by decide) ?_
      refine wl_val (r_load (plain_of Tryd.underlying21 rfl) rfl (by rw [show (k : Int).toNat * 1 = k from by omega]; exact hqk)) (by decide) ?_
      refine wl_val (r_move rfl) (by decide) ?_
      refine wl_val (r_eql rfl rfl) (by decide) ?_
      refine wl_nil ?_
      refine wq_seq ?_
      refine wc_cond rfl (fun h2 => ?_) (fun h2 => ?_)
      · (try simp only [beq_iff_eq, bne_iff_ne, ne_eq, decide_eq_true_eq, decide_eq_false_iff_not, beq_eq_false_iff_ne, bne_eq_false_iff_eq, Bool.not_eq_true', Bool.not_eq_false', Bool.not_eq_eq_eq_not, Bool.not_true, Bool.not_false, gt_iff_lt, ge_iff_le, Int.not_lt, Int.not_le] at h2)
        try (exfalso; first | contradiction | omega)
        all_goals
          
          refine wc_seq ?_
          refine wc_region ?_
          refine wl_val (r_move rfl) (by decide) ?_
          refine wl_val (r_assign rfl) (by decide) ?_
          refine wl_val (r_assign rfl) (by decide) ?_
          refine wl_nil ?_
          refine wq_seq ?_
          refine wc_ret ?_
          refine wq_block_ret ?_
          refine wq_then_ret ?_
          refine wq_then_ret ?_
          refine wq_block_ret ?_
          refine wq_then_ret ?_
          refine wq_then_ret ?_
          refine wq_end2 (.inl rfl) Tryd.results31 rfl rfl ?_
          exact ⟨_, _, rfl, .inl ⟨rfl, k, rfl, by omega, by omega, by assumption, hk3⟩, rfl⟩
      · (try simp only [beq_iff_eq, bne_iff_ne, ne_eq, decide_eq_true_eq, decide_eq_false_iff_not, beq_eq_false_iff_ne, bne_eq_false_iff_eq, Bool.not_eq_true', Bool.not_eq_false', Bool.not_eq_eq_eq_not, Bool.not_true, Bool.not_false, gt_iff_lt, ge_iff_le, Int.not_lt, Int.not_le] at h2)
        try (exfalso; first | contradiction | omega)
        all_goals
          
          refine wc_skip ?_
          refine wq_block_normal ?_
          refine wq_seq ?_
          refine wc_region ?_
          refine wl_val (r_move rfl) (by decide) ?_
          refine wl_val (r_add rfl rfl (by omega)) (by decide) ?_
          refine wl_val (r_assign rfl) (by decide) ?_
          refine wl_nil ?_
          refine wq_round (k + 1) ?_ ?_ ?_ ?_
          · exact (Sub.cons rfl (Sub.nil _))
          · exact (Sub.cons rfl (Sub.cons rfl (Sub.nil _)))
          · exact ⟨by omega, fun j h8 h9 => by by_cases e : j = k; (subst e; assumption); exact hk3 j h8 (by omega), rfl⟩
          · (try dsimp only); omega
  · (try simp only [beq_iff_eq, bne_iff_ne, ne_eq, decide_eq_true_eq, decide_eq_false_iff_not, beq_eq_false_iff_ne, bne_eq_false_iff_eq, Bool.not_eq_true', Bool.not_eq_false', Bool.not_eq_eq_eq_not, Bool.not_true, Bool.not_false, gt_iff_lt, ge_iff_le, Int.not_lt, Int.not_le] at h1)
    try (exfalso; first | contradiction | omega)
    all_goals
      
      refine wc_exit ?_
      refine wq_then_exit ?_
      refine wq_then_exit ?_
      refine wq_block_hit ?_
      refine wq_seq ?_
      refine wc_seq ?_
      refine wc_region ?_
      refine wl_val (r_assign rfl) (by decide) ?_
      refine wl_val (r_assign rfl) (by decide) ?_
      refine wl_nil ?_
      refine wq_seq ?_
      refine wc_ret ?_
      refine wq_then_ret ?_
      refine wq_end2 (.inl rfl) Tryd.results31 rfl rfl ?_
      exact ⟨_, _, rfl, .inr ⟨rfl, rfl, fun j h8 h9 => hk3 j h8 (by omega)⟩, rfl⟩
theorem ref_find_f_ret (hr : RdI w .i32 v l) (hb : l.length ≤ 35184372088832) : Ret Tryd.prog 32 #[v, .int .i64 x, .int .i32 r, .bool true] w fun v' w' => ∃ i b, v' = .tuple #[.int .i64 i, .bool b] ∧ FindF l (withinM l.length x) r i b ∧ w = w' := by
  obtain ⟨a, c, rfl, hac, hac2, hcell⟩ := hr.open
  have hw := withinM_le l.length x
  obtain ⟨n, hn⟩ : ∃ n, withinM l.length x = n := ⟨_, rfl⟩
  rw [hn] at hw ⊢
  refine ret_enter Tryd.func32 rfl Tryd.ntmps32 (Nat.le_of_ble_eq_true rfl) ?_
  dsimp only [slots0, Nat.reduceAdd]
  refine wc_seq ?_
  refine wc_region ?_
  refine wl_val (r_assign rfl) (by decide) ?_
  refine wl_val (r_assign rfl) (by decide) ?_
  refine wl_nil ?_
  refine wq_seq ?_
  refine wc_seq ?_
  refine wc_region ?_
  refine wl_val (r_move rfl) (by decide) ?_
  refine wl_val (r_move rfl) (by decide) ?_
  refine wl_eff (e_call (r_call rfl Tryd.func64 rfl rfl) (ref_cut_ret)) (by decide) ?_
  rintro _ _ ⟨rfl, rfl⟩
  rw [hn]
  refine wl_val (r_assign rfl) (by decide) ?_
  refine wl_nil ?_
  refine wq_seq ?_
  refine wc_seq ?_
  refine wc_seq ?_
  refine wc_region ?_
  refine wl_val (r_move rfl) (by decide) ?_
  refine wl_nil ?_
  refine wq_seq ?_
  refine wc_cond_t rfl ?_
  refine wc_seq ?_
  refine wc_seq ?_
  refine wc_region ?_
  refine wl_val (r_move rfl) (by decide) ?_
  refine wl_val (r_add rfl rfl (by omega)) (by decide) ?_
  refine wl_val (r_assign rfl) (by decide) ?_
  refine wl_nil ?_
  refine wq_seq ?_
  refine wc_block ?_
  refine wc_loop [(0, _), (2, _)] (fun (k : Nat) => [(10, .int .i64 (k : Int))]) (fun (k : Nat) W => n + 1 ≤ k ∧ (∀ j, n < j → j < k → l.getD j 0 ≠ r) ∧ w = W) (fun (k : Nat) => l.length + 1 - k) ((n + 1)) (Sub.cons rfl (Sub.cons rfl (Sub.nil _))) (Sub.cons rfl (Sub.nil _)) ⟨by omega, fun j h8 h9 => absurd h8 (by omega), rfl⟩ ?_
  rintro k w2 ⟨hk1, hk3, rfl⟩
  dsimp only [List.cons_append, List.nil_append]
  refine wc_seq ?_
  refine wc_seq ?_
  refine wc_region ?_
  refine wl_val (r_move rfl) (by decide) ?_
  refine wl_val (r_move rfl) (by decide) ?_
  refine wl_val (r_len Tryd.underlying22 rfl) (by decide) ?_
  refine wl_val (r_lss rfl rfl) (by decide) ?_
  refine wl_nil ?_
  refine wq_seq ?_
  refine wc_cond rfl (fun h1 => ?_) (fun h1 => ?_)
  · (try simp only [beq_iff_eq, bne_iff_ne, ne_eq, decide_eq_true_eq, decide_eq_false_iff_not, beq_eq_false_iff_ne, bne_eq_false_iff_eq, Bool.not_eq_true', Bool.not_eq_false', Bool.not_eq_eq_eq_not, Bool.not_true, Bool.not_false, gt_iff_lt, ge_iff_le, Int.not_lt, Int.not_le] at h1)
    try (exfalso; first | contradiction | omega)
    all_goals
      
      refine wc_skip ?_
      refine wq_seq ?_
      refine wc_seq ?_
      refine wc_block ?_
      refine wc_seq ?_
      obtain ⟨b, o, rfl, hq⟩ := hcell (by omega)
      have hqk := hq k (by omega)
      refine wc_region ?_
      refine wl_val (r_move rfl) (by decide) ?_
      refine wl_val (r_move rfl) (by decide) ?_
      refine wl_val (r_index Tryd.underlying22 Tryd.sizeOf21 rfl rfl (by omega)) (by decide) ?_
      refine wl_val (r_load (plain_of Tryd.underlying21 rfl) rfl (by rw [show (k : Int).toNat * 1 = k from by omega]; exact hqk)) (by decide) ?_
      refine wl_val (r_move rfl) (by decide) ?_
      refine wl_val (r_eql rfl rfl) (by decide) ?_
      refine wl_nil ?_
      refine wq_seq ?_
      refine wc_cond rfl (fun h2 => ?_) (fun h2 => ?_)
      · (try simp only [beq_iff_eq, bne_iff_ne, ne_eq, decide_eq_true_eq, decide_eq_false_iff_not, beq_eq_false_iff_ne, bne_eq_false_iff_eq, Bool.not_eq_true', Bool.not_eq_false', Bool.not_eq_eq_eq_not, Bool.not_true, Bool.not_false, gt_iff_lt, ge_iff_le, Int.not_lt, Int.not_le] at h2)
        try (exfalso; first | contradiction | omega)
        all_goals
          
          refine wc_seq ?_
          refine wc_region ?_
          refine wl_val (r_move rfl) (by decide) ?_
          refine wl_val (r_assign rfl) (by decide) ?_
          refine wl_val (r_assign rfl) (by decide) ?_
          refine wl_nil ?_
          refine wq_seq ?_
          refine wc_ret ?_
          refine wq_block_ret ?_
          refine wq_then_ret ?_
          refine wq_then_ret ?_
          refine wq_block_ret ?_
          refine wq_then_ret ?_
          refine wq_then_ret ?_
          refine wq_end2 (.inl rfl) Tryd.results32 rfl rfl ?_
          exact ⟨_, _, rfl, .inl ⟨rfl, k, rfl, by omega, by omega, by assumption, hk3⟩, rfl⟩
      · (try simp only [beq_iff_eq, bne_iff_ne, ne_eq, decide_eq_true_eq, decide_eq_false_iff_not, beq_eq_false_iff_ne, bne_eq_false_iff_eq, Bool.not_eq_true', Bool.not_eq_false', Bool.not_eq_eq_eq_not, Bool.not_true, Bool.not_false, gt_iff_lt, ge_iff_le, Int.not_lt, Int.not_le] at h2)
        try (exfalso; first | contradiction | omega)
        all_goals
          
          refine wc_skip ?_
          refine wq_block_normal ?_
          refine wq_seq ?_
          refine wc_region ?_
          refine wl_val (r_move rfl) (by decide) ?_
          refine wl_val (r_add rfl rfl (by omega)) (by decide) ?_
          refine wl_val (r_assign rfl) (by decide) ?_
          refine wl_nil ?_
          refine wq_round (k + 1) ?_ ?_ ?_ ?_
          · exact (Sub.cons rfl (Sub.nil _))
          · exact (Sub.cons rfl (Sub.cons rfl (Sub.nil _)))
          · exact ⟨by omega, fun j h8 h9 => by by_cases e : j = k; (subst e; assumption); exact hk3 j h8 (by omega), rfl⟩
          · (try dsimp only); omega
  · (try simp only [beq_iff_eq, bne_iff_ne, ne_eq, decide_eq_true_eq, decide_eq_false_iff_not, beq_eq_false_iff_ne, bne_eq_false_iff_eq, Bool.not_eq_true', Bool.not_eq_false', Bool.not_eq_eq_eq_not, Bool.not_true, Bool.not_false, gt_iff_lt, ge_iff_le, Int.not_lt, Int.not_le] at h1)
    try (exfalso; first | contradiction | omega)
    all_goals
      
      refine wc_exit ?_
      refine wq_then_exit ?_
      refine wq_then_exit ?_
      refine wq_block_hit ?_
      refine wq_seq ?_
      refine wc_seq ?_
      refine wc_region ?_
      refine wl_val (r_assign rfl) (by decide) ?_
      refine wl_val (r_assign rfl) (by decide) ?_
      refine wl_nil ?_
      refine wq_seq ?_
      refine wc_ret ?_
      refine wq_then_ret ?_
      refine wq_end2 (.inl rfl) Tryd.results32 rfl rfl ?_
      exact ⟨_, _, rfl, .inr ⟨rfl, rfl, fun j h8 h9 => hk3 j h8 (by omega)⟩, rfl⟩
theorem find_b_ret (hr : RdI w .i32 v l) (hb : l.length ≤ 35184372088832) : Ret Tryd.prog 31 #[v, .int .i64 x, .int .i32 r, .bool false] w fun v' w' => ∃ i b, v' = .tuple #[.int .i64 i, .bool b] ∧ FindB l (withinM l.length x) r i b ∧ w = w' := by
  obtain ⟨a, c, rfl, hac, hac2, hcell⟩ := hr.open
  have hw := withinM_le l.length x
  obtain ⟨n, hn⟩ : ∃ n, withinM l.length x = n := ⟨_, rfl⟩
  rw [hn] at hw ⊢
  refine ret_enter Tryd.func31 rfl Tryd.ntmps31 (Nat.le_of_ble_eq_true rfl) ?_
  dsimp only [slots0, Nat.reduceAdd]
  refine wc_seq ?_
  refine wc_region ?_
  refine wl_val (r_assign rfl) (by decide) ?_
  refine wl_val (r_assign rfl) (by decide) ?_
  refine wl_nil ?_
  refine wq_seq ?_
  refine wc_seq ?_
  refine wc_region ?_
  refine wl_val (r_move rfl) (by decide) ?_
  refine wl_val (r_move rfl) (by decide) ?_
  refine wl_eff (e_call (r_call rfl Tryd.func59 rfl rfl) (within_ret)) (by decide) ?_
  rintro _ _ ⟨rfl, rfl⟩
  rw [hn]
  refine wl_val (r_assign rfl) (by decide) ?_
  refine wl_nil ?_
  refine wq_seq ?_
  refine wc_seq ?_
  refine wc_seq ?_
  refine wc_region ?_
  refine wl_val (r_move rfl) (by decide) ?_
  refine wl_nil ?_
  refine wq_seq ?_
  refine wc_cond_f rfl ?_
  refine wc_skip ?_
  refine wq_seq ?_
  refine wc_seq ?_
  refine wc_seq ?_
  refine wc_region ?_
  refine wl_val (r_move rfl) (by decide) ?_
  refine wl_val (r_sub rfl rfl (by omega)) (by decide) ?_
  refine wl_val (r_assign rfl) (by decide) ?_
  refine wl_nil ?_
  refine wq_seq ?_
  refine wc_block ?_
  refine wc_loop [(0, _), (2, _)] (fun (k : Nat) => [(11, .int .i64 ((k : Int) - 1))]) (fun (k : Nat) W => k ≤ n ∧ (∀ j, k ≤ j → j < n → l.getD j 0 ≠ r) ∧ w = W) (fun (k : Nat) => k) (n) (Sub.cons rfl (Sub.cons rfl (Sub.nil _))) (Sub.cons rfl (Sub.nil _)) ⟨by omega, fun j h8 h9 => absurd h8 (by omega), rfl⟩ ?_
  rintro k w2 ⟨hk1, hk3, rfl⟩
  dsimp only [List.cons_append, List.nil_append]
  refine wc_seq ?_
  refine wc_seq ?_
  refine wc_region ?_
  refine wl_val (r_move rfl) (by decide) ?_
  refine wl_val (r_geq rfl rfl) (by decide) ?_
  refine wl_nil ?_
  refine wq_seq ?_
  refine wc_cond rfl (fun h1 => ?_) (fun h1 => ?_)
  · (try simp only [beq_iff_eq, bne_iff_ne, ne_eq, decide_eq_true_eq, decide_eq_false_iff_not, beq_eq_false_iff_ne, bne_eq_false_iff_eq, Bool.not_eq_true', Bool.not_eq_false', Bool.not_eq_eq_eq_not, Bool.not_true, Bool.not_false, gt_iff_lt, ge_iff_le, Int.not_lt, Int.not_le] at h1)
    try (exfalso; first | contradiction | omega)
    all_goals
      
      refine wc_skip ?_
      refine wq_seq ?_
      refine wc_seq ?_
      refine wc_block ?_
      refine wc_seq ?_
      obtain ⟨b, o, rfl, hq⟩ := hcell (by omega)
      have hqk := hq (k - 1) (by omega)
      refine wc_region ?_
      refine wl_val (r_move rfl) (by decide) ?_
      refine wl_val (r_move rfl) (by decide) ?_
      refine wl_val (r_index Tryd.underlying22 Tryd.sizeOf21 rfl rfl (by omega)) (by decide) ?_
      refine wl_val (r_load (plain_of Tryd.underlying21 rfl) rfl (by rw [show ((k : Int) - 1).toNat * 1 = k - 1 from by omega]; exact hqk)) (by decide) ?_
      refine wl_val (r_move rfl) (by decide) ?_
      refine wl_val (r_eql rfl rfl) (by decide) ?_
      refine wl_nil ?_
      refine wq_seq ?_
      refine wc_cond rfl (fun h2 => ?_) (fun h2 => ?_)
      · (try simp only [beq_iff_eq, bne_iff_ne, ne_eq, decide_eq_true_eq, decide_eq_false_iff_not, beq_eq_false_iff_ne, bne_eq_false_iff_eq, Bool.not_eq_true', Bool.not_eq_false', Bool.not_eq_eq_eq_not, Bool.not_true, Bool.not_false, gt_iff_lt, ge_iff_le, Int.not_lt, Int.not_le] at h2)
        try (exfalso; first | contradiction | omega)
        all_goals
          
          refine wc_seq ?_
          refine wc_region ?_
          refine wl_val (r_move rfl) (by decide) ?_
          refine wl_val (r_assign rfl) (by decide) ?_
          refine wl_val (r_assign rfl) (by decide) ?_
          refine wl_nil ?_
          refine wq_seq ?_
          refine wc_ret ?_
          refine wq_block_ret ?_
          refine wq_then_ret ?_
          refine wq_then_ret ?_
          refine wq_block_ret ?_
          refine wq_then_ret ?_
          refine wq_end2 (.inl rfl) Tryd.results31 rfl rfl ?_
          exact ⟨_, _, rfl, .inl ⟨rfl, k - 1, by omega, by omega, by assumption, fun j h8 h9 => hk3 j (by omega) h9⟩, rfl⟩
      · (try simp only [beq_iff_eq, bne_iff_ne, ne_eq, decide_eq_true_eq, decide_eq_false_iff_not, beq_eq_false_iff_ne, bne_eq_false_iff_eq, Bool.not_eq_true', Bool.not_eq_false', Bool.not_eq_eq_eq_not, Bool.not_true, Bool.not_false, gt_iff_lt, ge_iff_le, Int.not_lt, Int.not_le] at h2)
        try (exfalso; first | contradiction | omega)
        all_goals
          
          refine wc_skip ?_
          refine wq_block_normal ?_
          refine wq_seq ?_
          refine wc_region ?_
          refine wl_val (r_move rfl) (by decide) ?_
          refine wl_val (r_sub rfl rfl (by omega)) (by decide) ?_
          refine wl_val (r_assign rfl) (by decide) ?_
          refine wl_nil ?_
          refine wq_round (k - 1) ?_ ?_ ?_ ?_
          · exact (Sub.cons' rfl (by rw [show ((k - 1 : Nat) : Int) - 1 = (k : Int) - 1 - 1 from by omega]) (Sub.nil _))
          · exact (Sub.cons rfl (Sub.cons rfl (Sub.nil _)))
          · exact ⟨by omega, fun j h8 h9 => by by_cases e : j = k - 1; (subst e; assumption); exact hk3 j (by omega) h9, rfl⟩
          · (try dsimp only); omega
  · (try simp only [beq_iff_eq, bne_iff_ne, ne_eq, decide_eq_true_eq, decide_eq_false_iff_not, beq_eq_false_iff_ne, bne_eq_false_iff_eq, Bool.not_eq_true', Bool.not_eq_false', Bool.not_eq_eq_eq_not, Bool.not_true, Bool.not_false, gt_iff_lt, ge_iff_le, Int.not_lt, Int.not_le] at h1)
    try (exfalso; first | contradiction | omega)
    all_goals
      
      refine wc_exit ?_
      refine wq_then_exit ?_
      refine wq_then_exit ?_
      refine wq_block_hit ?_
      refine wq_seq ?_
      refine wc_seq ?_
      refine wc_region ?_
      refine wl_val (r_assign rfl) (by decide) ?_
      refine wl_val (r_assign rfl) (by decide) ?_
      refine wl_nil ?_
      refine wq_seq ?_
      refine wc_ret ?_
      refine wq_end2 (.inl rfl) Tryd.results31 rfl rfl ?_
      exact ⟨_, _, rfl, .inr ⟨rfl, rfl, fun j h8 => hk3 j (by omega) h8⟩, rfl⟩
theorem ref_find_b_ret (hr : RdI w .i32 v l) (hb : l.length ≤ 35184372088832) : Ret Tryd.prog 32 #[v, .int .i64 x, .int .i32 r, .bool false] w fun v' w' => ∃ i b, v' = .tuple #[.int .i64 i, .bool b] ∧ FindB l (withinM l.length x) r i b ∧ w = w' := by
  obtain ⟨a, c, rfl, hac, hac2, hcell⟩ := hr.open
  have hw := withinM_le l.length x
  obtain ⟨n, hn⟩ : ∃ n, withinM l.length x = n := ⟨_, rfl⟩
  rw [hn] at hw ⊢
  refine ret_enter Tryd.func32 rfl Tryd.ntmps32 (Nat.le_of_ble_eq_true rfl) ?_
  dsimp only [slots0, Nat.reduceAdd]
  refine wc_seq ?_
  refine wc_region ?_
  refine wl_val (r_assign rfl) (by decide) ?_
  refine wl_val (r_assign rfl) (by decide) ?_
  refine wl_nil ?_
  refine wq_seq ?_
  refine wc_seq ?_
  refine wc_region ?_
  refine wl_val (r_move rfl) (by decide) ?_
  refine wl_val (r_move rfl) (by decide) ?_
  refine wl_eff (e_call (r_call rfl Tryd.func64 rfl rfl) (ref_cut_ret)) (by decide) ?_
  rintro _ _ ⟨rfl, rfl⟩
  rw [hn]
  refine wl_val (r_assign rfl) (by decide) ?_
  refine wl_nil ?_
  refine wq_seq ?_
  refine wc_seq ?_
  refine wc_seq ?_
  refine wc_region ?_
  refine wl_val (r_move rfl) (by decide) ?_
  refine wl_nil ?_
  refine wq_seq ?_
  refine wc_cond_f rfl ?_
  refine wc_skip ?_
  refine wq_seq ?_
  refine wc_seq ?_
  refine wc_seq ?_
  refine wc_region ?_
  refine wl_val (r_move rfl) (by decide) ?_
  refine wl_val (r_sub rfl rfl (by omega)) (by decide) ?_
  refine wl_val (r_assign rfl) (by decide) ?_
  refine wl_nil ?_
  refine wq_seq ?_
  refine wc_block ?_
  refine wc_loop [(0, _), (2, _)] (fun (k : Nat) => [(11, .int .i64 ((k : Int) - 1))]) (fun (k : Nat) W => k ≤ n ∧ (∀ j, k ≤ j → j < n → l.getD j 0 ≠ r) ∧ w = W) (fun (k : Nat) => k) (n) (Sub.cons rfl (Sub.cons rfl (Sub.nil _))) (Sub.cons rfl (Sub.nil _)) ⟨by omega, fun j h8 h9 => absurd h8 (by omega), rfl⟩ ?_
  rintro k w2 ⟨hk1, hk3, rfl⟩
  dsimp only [List.cons_append, List.nil_append]
  refine wc_seq ?_
  refine wc_seq ?_
  refine wc_region ?_
  refine wl_val (r_move rfl) (by decide) ?_
  refine wl_val (r_geq rfl rfl) (by decide) ?_
  refine wl_nil ?_
  refine wq_seq ?_
  refine wc_cond rfl (fun h1 => ?_) (fun h1 => ?_)
  · (try simp only [beq_iff_eq, bne_iff_ne, ne_eq, decide_eq_true_eq, decide_eq_false_iff_not, beq_eq_false_iff_ne, bne_eq_false_iff_eq, Bool.not_eq_true', Bool.not_eq_false', Bool.not_eq_eq_eq_not, Bool.not_true, Bool.not_false, gt_iff_lt, ge_iff_le, Int.not_lt, Int.not_le] at h1)
    try (exfalso; first | contradiction | omega)
    all_goals
      
      refine wc_skip ?_
      refine wq_seq ?_
      refine wc_seq ?_
      refine wc_block ?_
      refine wc_seq ?_
      obtain ⟨b, o, rfl, hq⟩ := hcell (by omega)
      have hqk := hq (k - 1) (by omega)
      refine wc_region ?_
      refine wl_val (r_move rfl) (by decide) ?_
      refine wl_val (r_move rfl) (by decide) ?_
      refine wl_val (r_index Tryd.underlying22 Tryd.sizeOf21 rfl rfl (by omega)) (by decide) ?_
      refine wl_val (r_load (plain_of Tryd.underlying21 rfl) rfl (by rw [show ((k : Int) - 1).toNat * 1 = k - 1 from by omega]; exact hqk)) (by decide) ?_
      refine wl_val (r_move rfl) (by decide) ?_
      refine wl_val (r_eql rfl rfl) (by decide) ?_
      refine wl_nil ?_
      refine wq_seq ?_
      refine wc_cond rfl (fun h2 => ?_) (fun h2 => ?_)
      · (try simp only [beq_iff_eq, bne_iff_ne, ne_eq, decide_eq_true_eq, decide_eq_false_iff_not, beq_eq_false_iff_ne, bne_eq_false_iff_eq, Bool.not_eq_true', Bool.not_eq_false', Bool.not_eq_eq_eq_not, Bool.not_true, Bool.not_false, gt_iff_lt, ge_iff_le, Int.not_lt, Int.not_le] at h2)
        try (exfalso; first | contradiction | omega)
        all_goals
          
          refine wc_seq ?_
          refine wc_region ?_
          refine wl_val (r_move rfl) (by decide) ?_
          refine wl_val (r_assign rfl) (by decide) ?_
          refine wl_val (r_assign rfl) (by decide) ?_
          refine wl_nil ?_
          refine wq_seq ?_
          refine wc_ret ?_
          refine wq_block_ret ?_
          refine wq_then_ret ?_
          refine wq_then_ret ?_
          refine wq_block_ret ?_
          refine wq_then_ret ?_
          refine wq_end2 (.inl rfl) Tryd.results32 rfl rfl ?_
          exact ⟨_, _, rfl, .inl ⟨rfl, k - 1, by omega, by omega, by assumption, fun j h8 h9 => hk3 j (by omega) h9⟩, rfl⟩
      · (try simp only [beq_iff_eq, bne_iff_ne, ne_eq, decide_eq_true_eq, decide_eq_false_iff_not, beq_eq_false_iff_ne, bne_eq_false_iff_eq, Bool.not_eq_true', Bool.not_eq_false', Bool.not_eq_eq_eq_not, Bool.not_true, Bool.not_false, gt_iff_lt, ge_iff_le, Int.not_lt, Int.not_le] at h2)
        try (exfalso; first | contradiction | omega)
        all_goals
          
          refine wc_skip ?_
          refine wq_block_normal ?_
          refine wq_seq ?_
          refine wc_region ?_
          refine wl_val (r_move rfl) (by decide) ?_
          refine wl_val (r_sub rfl rfl (by omega)) (by decide) ?_
          refine wl_val (r_assign rfl) (by decide) ?_
          refine wl_nil ?_
          refine wq_round (k - 1) ?_ ?_ ?_ ?_
          · exact (Sub.cons' rfl (by rw [show ((k - 1 : Nat) : Int) - 1 = (k : Int) - 1 - 1 from by omega]) (Sub.nil _))
          · exact (Sub.cons rfl (Sub.cons rfl (Sub.nil _)))
          · exact ⟨by omega, fun j h8 h9 => by by_cases e : j = k - 1; (subst e; assumption); exact hk3 j (by omega) h9, rfl⟩
          · (try dsimp only); omega
  · (try simp only [beq_iff_eq, bne_iff_ne, ne_eq, decide_eq_true_eq, decide_eq_false_iff_not, beq_eq_false_iff_ne, bne_eq_false_iff_eq, Bool.not_eq_true', Bool.not_eq_false', Bool.not_eq_eq_eq_not, Bool.not_true, Bool.not_false, gt_iff_lt, ge_iff_le, Int.not_lt, Int.not_le] at h1)
    try (exfalso; first | contradiction | omega)
    all_goals
      
      refine wc_exit ?_
      refine wq_then_exit ?_
      refine wq_then_exit ?_
      refine wq_block_hit ?_
      refine wq_seq ?_
      refine wc_seq ?_
      refine wc_region ?_
      refine wl_val (r_assign rfl) (by decide) ?_
      refine wl_val (r_assign rfl) (by decide) ?_
      refine wl_nil ?_
      refine wq_seq ?_
      refine wc_ret ?_
      refine wq_end2 (.inl rfl) Tryd.results32 rfl rfl ?_
      exact ⟨_, _, rfl, .inr ⟨rfl, rfl, fun j h8 => hk3 j (by omega) h8⟩, rfl⟩
end
end Go.Proofs.YtlldaaamdchkdaaDoor
