/- Undo: what is done to a line by an edit, the edit that takes it back, two edits in one; the document's too. -/
import Derived.Test.YtaabgcfeghcmnaaOwn
import Derived.Test.YtaabgcfeghcmnaaSlices
import Derived.Test.YtaabgcfeghcmnaaFlat
set_option linter.unusedSimpArgs false
set_option linter.unusedVariables false
namespace Go.Proofs.Ytaabgcfeghcmnaa
open Go.RowKit
theorem same_runes_ret (w : World) (v1 v2 : Value) (l1 l2 : List Int) (h1 : RdI w .i32 v1 l1) (h2 : RdI w .i32 v2 l2) :
    Ret Try.prog 14 #[v1, v2] w fun v w' => v = .bool (l1 == l2) ∧ Drew w w' := by
  obtain ⟨a1, c1, rfl, hc1, hm1, hr1⟩ := h1.open
  obtain ⟨a2, c2, rfl, hc2, hm2, hr2⟩ := h2.open
  clear h1 h2
  refine ret_enter Try.func14 rfl Try.ntmps14 (Nat.le_of_ble_eq_true rfl) ?_
  dsimp only [slots0, Nat.reduceAdd]
  refine wc_seq ?_
  refine wc_region ?_
  refine wl_val (r_assign rfl) (ltn rfl) ?_
  refine wl_nil ?_
  refine wq_seq ?_
  refine wc_seq ?_
  refine wc_seq ?_
  refine wc_region ?_
  refine wl_val (r_move rfl) (ltn rfl) ?_
  refine wl_val (r_len Try.underlying22 rfl) (ltn rfl) ?_
  refine wl_val (r_move rfl) (ltn rfl) ?_
  refine wl_val (r_len Try.underlying22 rfl) (ltn rfl) ?_
  refine wl_val (r_neq rfl rfl) (ltn rfl) ?_
  refine wl_nil ?_
  refine wq_seq ?_
  refine wc_cond rfl (fun h1 => ?_) (fun h1 => ?_)
  · (try simp only [beq_iff_eq, bne_iff_ne, ne_eq, decide_eq_true_eq, decide_eq_false_iff_not, beq_eq_false_iff_ne, bne_eq_false_iff_eq, Bool.not_eq_true', Bool.not_eq_false', Bool.not_eq_eq_eq_not, Bool.not_true, Bool.not_false, gt_iff_lt, ge_iff_le, Int.not_lt, Int.not_le] at h1)
    try (exfalso; first | contradiction | omega)
    all_goals
      
      refine wc_seq ?_
      refine wc_region ?_
      refine wl_val (r_assign rfl) (ltn rfl) ?_
      refine wl_nil ?_
      refine wq_seq ?_
      refine wc_ret ?_
      refine wq_then_ret ?_
      refine wq_end1 (.inl rfl) Try.results14 rfl ?_
      exact ⟨by rw [show (l1 == l2) = false from beq_eq_false_iff_ne.2 (by rintro rfl; exact h1 rfl)], Drew.refl _⟩
  · (try simp only [beq_iff_eq, bne_iff_ne, ne_eq, decide_eq_true_eq, decide_eq_false_iff_not, beq_eq_false_iff_ne, bne_eq_false_iff_eq, Bool.not_eq_true', Bool.not_eq_false', Bool.not_eq_eq_eq_not, Bool.not_true, Bool.not_false, gt_iff_lt, ge_iff_le, Int.not_lt, Int.not_le] at h1)
    try (exfalso; first | contradiction | omega)
    all_goals
      
      refine wc_skip ?_
      refine wq_seq ?_
      refine wc_seq ?_
      refine wc_seq ?_
      refine wc_region ?_
      refine wl_val (r_assign rfl) (ltn rfl) ?_
      refine wl_nil ?_
      refine wq_seq ?_
      refine wc_block ?_
      refine wc_loop [(0, _), (1, _)] (fun (k : Nat) => [(5, .int .i64 (k : Int))]) (fun (k : Nat) W => k ≤ l1.length ∧ l1.length = l2.length ∧ l1.take k = l2.take k ∧ Drew w W) (fun (k : Nat) => l1.length - k) (0) (Sub.cons rfl (Sub.cons rfl (Sub.nil _))) (Sub.cons rfl (Sub.nil _)) ⟨by omega, by omega, by simp, Drew.refl _⟩ ?_
      rintro k w1 ⟨hk, hl, ht, hD⟩
      dsimp only [List.cons_append, List.nil_append]
      refine wc_seq ?_
      refine wc_seq ?_
      refine wc_region ?_
      refine wl_val (r_move rfl) (ltn rfl) ?_
      refine wl_val (r_move rfl) (ltn rfl) ?_
      refine wl_val (r_len Try.underlying22 rfl) (ltn rfl) ?_
      refine wl_val (r_lss rfl rfl) (ltn rfl) ?_
      refine wl_nil ?_
      refine wq_seq ?_
      refine wc_cond rfl (fun h2 => ?_) (fun h2 => ?_)
      · (try simp only [beq_iff_eq, bne_iff_ne, ne_eq, decide_eq_true_eq, decide_eq_false_iff_not, beq_eq_false_iff_ne, bne_eq_false_iff_eq, Bool.not_eq_true', Bool.not_eq_false', Bool.not_eq_eq_eq_not, Bool.not_true, Bool.not_false, gt_iff_lt, ge_iff_le, Int.not_lt, Int.not_le] at h2)
        try (exfalso; first | contradiction | omega)
        all_goals
          
          refine wc_skip ?_
          refine wq_seq ?_
          refine wc_seq ?_
          refine wc_block ?_
          refine wc_seq ?_
          obtain ⟨b1, o1, rfl, hq1⟩ := hr1 (by omega)
          obtain ⟨b2, o2, rfl, hq2⟩ := hr2 (by omega)
          have hc1 := hq1 k (by omega)
          have hc2 := hq2 k (by omega)
          refine wd_begin (n := 9) [0, 1, 2, 3, 4, 5, 6, 7, 8] (fun W => W.heap = w1.heap) (by kernel_rfl) (by kernel_rfl) rfl ?_
          have hS0 : (fun W => W.heap = w1.heap) (w1.drew) := rfl
          refine wd_takeT 0 rfl (by kernel_rfl) (by kernel_rfl) hS0 (fun _ => r_move rfl) (ltn rfl) ?_
          refine wd_takeT 1 rfl (by kernel_rfl) (by kernel_rfl) hS0 (fun _ => r_move rfl) (ltn rfl) ?_
          refine wd_takeT 2 rfl (by kernel_rfl) (by kernel_rfl) hS0 (fun _ => r_index Try.underlying22 Try.sizeOf21 rfl rfl (by omega)) (ltn rfl) ?_
          refine wd_take 3 rfl (by kernel_rfl) (by kernel_rfl) hS0 (by decide) (fun W hW => r_load (plain_of Try.underlying21 rfl) rfl (by rw [cell_heap (hW.trans hD.heap)]; simpa using hc1)) (ltn rfl) ?_
          refine wd_takeT 4 rfl (by kernel_rfl) (by kernel_rfl) hS0 (fun _ => r_move rfl) (ltn rfl) ?_
          refine wd_takeT 5 rfl (by kernel_rfl) (by kernel_rfl) hS0 (fun _ => r_move rfl) (ltn rfl) ?_
          refine wd_takeT 6 rfl (by kernel_rfl) (by kernel_rfl) hS0 (fun _ => r_index Try.underlying22 Try.sizeOf21 rfl rfl (by omega)) (ltn rfl) ?_
          refine wd_take 7 rfl (by kernel_rfl) (by kernel_rfl) hS0 (by decide) (fun W hW => r_load (plain_of Try.underlying21 rfl) rfl (by rw [cell_heap (hW.trans hD.heap)]; simpa using hc2)) (ltn rfl) ?_
          refine wd_takeT 8 rfl (by kernel_rfl) (by kernel_rfl) hS0 (fun _ => r_neq rfl rfl) (ltn rfl) ?_
          refine wd_done (by kernel_rfl) ?_
          refine wq_seq ?_
          refine wc_cond rfl (fun h3 => ?_) (fun h3 => ?_)
          · (try simp only [beq_iff_eq, bne_iff_ne, ne_eq, decide_eq_true_eq, decide_eq_false_iff_not, beq_eq_false_iff_ne, bne_eq_false_iff_eq, Bool.not_eq_true', Bool.not_eq_false', Bool.not_eq_eq_eq_not, Bool.not_true, Bool.not_false, gt_iff_lt, ge_iff_le, Int.not_lt, Int.not_le] at h3)
            try (exfalso; first | contradiction | omega)
            all_goals
              
              refine wc_seq ?_
              refine wc_region ?_
              refine wl_val (r_assign rfl) (ltn rfl) ?_
              refine wl_nil ?_
              refine wq_seq ?_
              refine wc_ret ?_
              refine wq_block_ret ?_
              refine wq_then_ret ?_
              refine wq_then_ret ?_
              refine wq_block_ret ?_
              refine wq_then_ret ?_
              refine wq_end1 (.inl rfl) Try.results14 rfl ?_
              exact ⟨by rw [show (l1 == l2) = false from beq_eq_false_iff_ne.2 (by rintro rfl; exact h3 rfl)], hD.drew⟩
          · (try simp only [beq_iff_eq, bne_iff_ne, ne_eq, decide_eq_true_eq, decide_eq_false_iff_not, beq_eq_false_iff_ne, bne_eq_false_iff_eq, Bool.not_eq_true', Bool.not_eq_false', Bool.not_eq_eq_eq_not, Bool.not_true, Bool.not_false, gt_iff_lt, ge_iff_le, Int.not_lt, Int.not_le] at h3)
            try (exfalso; first | contradiction | omega)
            all_goals
              
              refine wc_skip ?_
              refine wq_block_normal ?_
              refine wq_seq ?_
              refine wc_region ?_
              refine wl_val (r_move rfl) (ltn rfl) ?_
              refine wl_val (r_add rfl rfl (by omega)) (ltn rfl) ?_
              refine wl_val (r_assign rfl) (ltn rfl) ?_
              refine wl_nil ?_
              refine wq_round (k + 1) ?_ ?_ ?_ ?_
              · exact (Sub.cons rfl (Sub.nil _))
              · exact (Sub.cons rfl (Sub.cons rfl (Sub.nil _)))
              · (try dsimp only)
                exact ⟨by omega, by omega, take_eq_succ (by omega) (by omega) ht (by simpa using h3), hD.drew⟩
              · (try dsimp only); omega
      · (try simp only [beq_iff_eq, bne_iff_ne, ne_eq, decide_eq_true_eq, decide_eq_false_iff_not, beq_eq_false_iff_ne, bne_eq_false_iff_eq, Bool.not_eq_true', Bool.not_eq_false', Bool.not_eq_eq_eq_not, Bool.not_true, Bool.not_false, gt_iff_lt, ge_iff_le, Int.not_lt, Int.not_le] at h2)
        try (exfalso; first | contradiction | omega)
        all_goals
          
          refine wc_exit ?_
          refine wq_then_exit ?_
          refine wq_then_exit ?_
          refine wq_block_hit ?_
          refine wq_seq ?_
          refine wc_seq ?_
          refine wc_region ?_
          refine wl_val (r_assign rfl) (ltn rfl) ?_
          refine wl_nil ?_
          refine wq_seq ?_
          refine wc_ret ?_
          refine wq_end1 (.inl rfl) Try.results14 rfl ?_
          exact ⟨by rw [show (l1 == l2) = true from beq_iff_eq.2 (by rw [List.take_of_length_le (by omega), List.take_of_length_le (by omega)] at ht; exact ht)], hD⟩
theorem same_runes_eq (w : World) (v1 v2 : Value) (l : List Int) (h1 : RdI w .i32 v1 l) (h2 : RdI w .i32 v2 l) : Ret Try.prog 14 #[v1, v2] w fun v w' => v = .bool true ∧ Drew w w' := by
  have := same_runes_ret w v1 v2 l l h1 h2
  simpa using this
section
variable {w0 w : World} {F : HP} {v d s z d2 z2 u1 u2 u3 : Value} {L dl il dl2 il2 l1 l2 l3 : List Int} {a a2 : Int}
theorem concat2_any (H : Holds w0 w F) (hv : FRd w0 F 1 v 2 [u1, u2]) (h1 : FRdI w0 F .i32 u1 l1) (h2 : FRdI w0 F .i32 u2 l2) (hb : l1.length + l2.length ≤ 35184372088832) :
    Ret Try.prog 46 #[v] w fun v' w' => Holds w0 w' (RowI 21 .i32 v' (l1 ++ l2) • F) := by
  have := concat_ret (ls := [l1, l2]) (vs := [u1, u2]) H hv (fun k hk => ?_) (by simp; omega)
  · simpa using this
  · simp at hk
    match k, hk with
    | 0, _ => exact h1
    | 1, _ => exact h2
theorem concat3_any (H : Holds w0 w F) (hv : FRd w0 F 1 v 3 [u1, u2, u3]) (h1 : FRdI w0 F .i32 u1 l1) (h2 : FRdI w0 F .i32 u2 l2) (h3 : FRdI w0 F .i32 u3 l3) (hb : l1.length + l2.length + l3.length ≤ 35184372088832) :
    Ret Try.prog 46 #[v] w fun v' w' => Holds w0 w' (RowI 21 .i32 v' (l1 ++ l2 ++ l3) • F) := by
  have := concat_ret (ls := [l1, l2, l3]) (vs := [u1, u2, u3]) H hv (fun k hk => ?_) (by simp; omega)
  · simpa using this
  · simp at hk
    match k, hk with
    | 0, _ => exact h1
    | 1, _ => exact h2
    | 2, _ => exact h3
theorem rclone_ret (H : Holds w0 w F) (hv : FRdI w0 F .i32 v L) (hb : L.length ≤ 35184372088832) :
    Ret Try.prog 47 #[v] w fun v' w' => Holds w0 w' (RowI 21 .i32 v' L • F) := by
  refine ret_enter Try.func47 rfl Try.ntmps47 (Nat.le_of_ble_eq_true rfl) ?_
  dsimp only [slots0, Nat.reduceAdd]
  refine wc_seq ?_
  refine wc_region ?_
  refine wl_val (r_assign rfl) (ltn rfl) ?_
  refine wl_nil ?_
  refine wq_seq ?_
  refine wc_seq ?_
  refine wc_region ?_
  refine wl_val (r_move rfl) (ltn rfl) ?_
  refine wl_eff (e_append_ints (l := []) (H.row_nil none) (hv _ (H)) Try.underlying22 (show (Try.prog.info? 21).map (fun i => (i.zero, i.size, i.bytes)) = some (some (.int .i32 0), 1, 4) by kernel_rfl) rfl rfl (by first | omega | (simp only [List.length_append, List.length_nil, List.length_cons]; omega) | (simp; omega)) (by first | omega | (simp only [List.length_append, List.length_nil, List.length_cons]; omega) | (simp; omega))) (ltn rfl) ?_
  rintro l1 w1 H1
  try simp only [List.nil_append] at H1
  refine wl_val (r_assign rfl) (ltn rfl) ?_
  refine wl_nil ?_
  refine wq_seq ?_
  refine wc_ret ?_
  refine wq_end1 (.inl rfl) Try.results47 rfl ?_
  exact H1
/-- Whether an edit fits a line; its answer; the line behind it. -/
def uFit (L : List Int) (a : Int) (dl : List Int) : Bool := decide (0 ≤ a ∧ a + dl.length ≤ L.length) && ((L.drop a.toNat).take dl.length == dl)
def uE (L : List Int) (a : Int) (dl il : List Int) : Int := if uFit L a dl then (if 1024 < (L.length : Int) - dl.length + il.length then 3 else 0) else 1
def uL (L : List Int) (a : Int) (dl il : List Int) : List Int := if uE L a dl il = 0 then L.take a.toNat ++ il ++ L.drop (a.toNat + dl.length) else []
theorem uE_bad (h : uFit L a dl = false) : uE L a dl il = 1 := by unfold uE; rw [h]; rfl
theorem uE_long (h : uFit L a dl = true) (g : 1024 < (L.length : Int) - dl.length + il.length) : uE L a dl il = 3 := by unfold uE; rw [h, if_pos g]; rfl
theorem uE_ok (h : uFit L a dl = true) (g : ¬ 1024 < (L.length : Int) - dl.length + il.length) : uE L a dl il = 0 := by unfold uE; rw [h, if_neg g]; rfl
theorem uL_not (h : uE L a dl il ≠ 0) : uL L a dl il = [] := by unfold uL; rw [if_neg h]
theorem uL_ok (h : uE L a dl il = 0) : uL L a dl il = L.take a.toNat ++ il ++ L.drop (a.toNat + dl.length) := by unfold uL; rw [if_pos h]
theorem uFit_iff : uFit L a dl = true ↔ (0 ≤ a ∧ a + dl.length ≤ L.length) ∧ (L.drop a.toNat).take dl.length = dl := by
  unfold uFit; simp only [Bool.and_eq_true, decide_eq_true_eq, beq_iff_eq]
theorem uFit_not (h : ¬ ((0 ≤ a ∧ a + dl.length ≤ L.length) ∧ (L.drop a.toNat).take dl.length = dl)) : uFit L a dl = false := by
  rw [← Bool.not_eq_true, uFit_iff]; exact h
theorem undo_apply_ret (H : Holds w0 w F) (hv : FRdI w0 F .i32 v L) (hd : FRdI w0 F .i32 d dl) (hi : FRdI w0 F .i32 s il) (b1 : L.length ≤ 35184372087808) (b2 : dl.length ≤ 140737488355328) (b3 : il.length ≤ 35184372087808) :
    Ret Try.prog 9 #[v, .agg #[.int .i64 a, d, s]] w fun v' w' => ∃ u, v' = .tuple #[u, .int .i64 (uE L a dl il)] ∧ Holds w0 w' (RowI 21 .i32 u (uL L a dl il) • F) := by
  refine ret_enter Try.func9 rfl Try.ntmps9 (Nat.le_of_ble_eq_true rfl) ?_
  dsimp only [slots0, Nat.reduceAdd]
  refine wc_seq ?_
  refine wc_region ?_
  refine wl_eff (e_boxL (l := [_, _, _]) H rfl rfl) (ltn rfl) ?_
  rintro _ w1 ⟨b1, rfl, H1⟩
  refine wl_val (r_assign rfl) (ltn rfl) ?_
  refine wl_val (r_assign rfl) (ltn rfl) ?_
  refine wl_nil ?_
  refine wq_seq ?_
  refine wc_seq ?_
  refine wc_seq ?_
  have H1d1 := H1.drew
  have hS1d1 := Holds.kp (H1d1)
  refine wd_beginK [1, 5, 12, 17, 24, 26, 28, 33] hS1d1 (by kernel_rfl) (by kernel_rfl) rfl ?_
  refine wd_takeT 0 rfl (by kernel_rfl) (by kernel_rfl) hS1d1 (fun _ => (by first | exact r_field0 0 Try.underlying24 rfl rfl Try.sizeOf3 (by decide) rfl | exact r_field 0 Try.underlying24 rfl rfl Try.sizeOf3 (by decide) rfl)) (ltn rfl) ?_
  refine wd_take 1 rfl (by kernel_rfl) (by kernel_rfl) hS1d1 (by decide) (fun W hW => r_load (plain_of Try.underlying3 rfl) rfl (cell_of_blk ((Kp.h hW)).get.2 rfl)) (ltn rfl) ?_
  refine wd_takeT 2 rfl (by kernel_rfl) (by kernel_rfl) hS1d1 (fun _ => r_lss rfl rfl) (ltn rfl) ?_
  refine wd_split 3 rfl rfl (by kernel_rfl) (by kernel_rfl) hS1d1 (ltn rfl) (fun h1 => ?_) (fun h1 => ?_)
  · (try simp only [beq_iff_eq, bne_iff_ne, ne_eq, decide_eq_true_eq, decide_eq_false_iff_not, beq_eq_false_iff_ne, bne_eq_false_iff_eq, Bool.not_eq_true', Bool.not_eq_false', Bool.not_eq_eq_eq_not, Bool.not_true, Bool.not_false, gt_iff_lt, ge_iff_le, Int.not_lt, Int.not_le] at h1)
    try (exfalso; first | contradiction | omega)
    all_goals
      refine wd_no 4 rfl rfl rfl rfl (by kernel_rfl) (by kernel_rfl) hS1d1 (ltn rfl) ?_
      refine wd_no 5 rfl rfl rfl rfl (by kernel_rfl) (by kernel_rfl) hS1d1 (ltn rfl) ?_
      refine wd_no 6 rfl rfl rfl rfl (by kernel_rfl) (by kernel_rfl) hS1d1 (ltn rfl) ?_
      refine wd_no 7 rfl rfl rfl rfl (by kernel_rfl) (by kernel_rfl) hS1d1 (ltn rfl) ?_
      refine wd_no 8 rfl rfl rfl rfl (by kernel_rfl) (by kernel_rfl) hS1d1 (ltn rfl) ?_
      refine wd_takeT 9 rfl (by kernel_rfl) (by kernel_rfl) hS1d1 (fun _ => r_pick_t rfl rfl) (ltn rfl) ?_
      refine wd_takeT 10 rfl (by kernel_rfl) (by kernel_rfl) hS1d1 (fun _ => r_move rfl) (ltn rfl) ?_
      refine wd_no 11 rfl rfl rfl rfl (by kernel_rfl) (by kernel_rfl) hS1d1 (ltn rfl) ?_
      refine wd_no 12 rfl rfl rfl rfl (by kernel_rfl) (by kernel_rfl) hS1d1 (ltn rfl) ?_
      refine wd_no 13 rfl rfl rfl rfl (by kernel_rfl) (by kernel_rfl) hS1d1 (ltn rfl) ?_
      refine wd_no 14 rfl rfl rfl rfl (by kernel_rfl) (by kernel_rfl) hS1d1 (ltn rfl) ?_
      refine wd_no 15 rfl rfl rfl rfl (by kernel_rfl) (by kernel_rfl) hS1d1 (ltn rfl) ?_
      refine wd_no 16 rfl rfl rfl rfl (by kernel_rfl) (by kernel_rfl) hS1d1 (ltn rfl) ?_
      refine wd_no 17 rfl rfl rfl rfl (by kernel_rfl) (by kernel_rfl) hS1d1 (ltn rfl) ?_
      refine wd_no 18 rfl rfl rfl rfl (by kernel_rfl) (by kernel_rfl) hS1d1 (ltn rfl) ?_
      refine wd_no 19 rfl rfl rfl rfl (by kernel_rfl) (by kernel_rfl) hS1d1 (ltn rfl) ?_
      refine wd_takeT 20 rfl (by kernel_rfl) (by kernel_rfl) hS1d1 (fun _ => r_pick_t rfl rfl) (ltn rfl) ?_
      refine wd_takeT 21 rfl (by kernel_rfl) (by kernel_rfl) hS1d1 (fun _ => r_move rfl) (ltn rfl) ?_
      refine wd_no 22 rfl rfl rfl rfl (by kernel_rfl) (by kernel_rfl) hS1d1 (ltn rfl) ?_
      refine wd_no 23 rfl rfl rfl rfl (by kernel_rfl) (by kernel_rfl) hS1d1 (ltn rfl) ?_
      refine wd_no 24 rfl rfl rfl rfl (by kernel_rfl) (by kernel_rfl) hS1d1 (ltn rfl) ?_
      refine wd_no 25 rfl rfl rfl rfl (by kernel_rfl) (by kernel_rfl) hS1d1 (ltn rfl) ?_
      refine wd_no 26 rfl rfl rfl rfl (by kernel_rfl) (by kernel_rfl) hS1d1 (ltn rfl) ?_
      refine wd_no 27 rfl rfl rfl rfl (by kernel_rfl) (by kernel_rfl) hS1d1 (ltn rfl) ?_
      refine wd_no 28 rfl rfl rfl rfl (by kernel_rfl) (by kernel_rfl) hS1d1 (ltn rfl) ?_
      refine wd_no 29 rfl rfl rfl rfl (by kernel_rfl) (by kernel_rfl) hS1d1 (ltn rfl) ?_
      refine wd_no 30 rfl rfl rfl rfl (by kernel_rfl) (by kernel_rfl) hS1d1 (ltn rfl) ?_
      refine wd_no 31 rfl rfl rfl rfl (by kernel_rfl) (by kernel_rfl) hS1d1 (ltn rfl) ?_
      refine wd_no 32 rfl rfl rfl rfl (by kernel_rfl) (by kernel_rfl) hS1d1 (ltn rfl) ?_
      refine wd_no 33 rfl rfl rfl rfl (by kernel_rfl) (by kernel_rfl) hS1d1 (ltn rfl) ?_
      refine wd_no 34 rfl rfl rfl rfl (by kernel_rfl) (by kernel_rfl) hS1d1 (ltn rfl) ?_
      refine wd_no 35 rfl rfl rfl rfl (by kernel_rfl) (by kernel_rfl) hS1d1 (ltn rfl) ?_
      refine wd_takeT 36 rfl (by kernel_rfl) (by kernel_rfl) hS1d1 (fun _ => r_pick_t rfl rfl) (ltn rfl) ?_
      refine wd_done (by kernel_rfl) ?_
      refine wq_seq ?_
      refine wc_cond_t rfl ?_
      refine wc_seq ?_
      refine wc_region ?_
      refine wl_val (r_assign rfl) (ltn rfl) ?_
      refine wl_val (r_assign rfl) (ltn rfl) ?_
      refine wl_nil ?_
      refine wq_seq ?_
      refine wc_ret ?_
      refine wq_then_ret ?_
      refine wq_end2 (.inl rfl) Try.results9 rfl rfl ?_
      have e : uFit L a dl = false := uFit_not (fun q => by first | (exfalso; omega) | (rw [show (a + dl.length).toNat - a.toNat = dl.length from by omega] at hcond; exact hcond q.2))
      rw [uL_not (by rw [uE_bad e]; decide), uE_bad e]
      exact ⟨_, rfl, (H1d1.right).row_nil none⟩
  · (try simp only [beq_iff_eq, bne_iff_ne, ne_eq, decide_eq_true_eq, decide_eq_false_iff_not, beq_eq_false_iff_ne, bne_eq_false_iff_eq, Bool.not_eq_true', Bool.not_eq_false', Bool.not_eq_eq_eq_not, Bool.not_true, Bool.not_false, gt_iff_lt, ge_iff_le, Int.not_lt, Int.not_le] at h1)
    try (exfalso; first | contradiction | omega)
    all_goals
      refine wd_takeT_yes 4 rfl rfl rfl (by kernel_rfl) (by kernel_rfl) hS1d1 (fun _ => (by first | exact r_field0 0 Try.underlying24 rfl rfl Try.sizeOf3 (by decide) rfl | exact r_field 0 Try.underlying24 rfl rfl Try.sizeOf3 (by decide) rfl)) (ltn rfl) ?_
      refine wd_take_yes 5 rfl rfl rfl (by kernel_rfl) (by kernel_rfl) hS1d1 (by decide) (fun W hW => r_load (plain_of Try.underlying3 rfl) rfl (cell_of_blk ((Kp.h hW)).get.2 rfl)) (ltn rfl) ?_
      refine wd_takeT_yes 6 rfl rfl rfl (by kernel_rfl) (by kernel_rfl) hS1d1 (fun _ => r_move rfl) (ltn rfl) ?_
      refine wd_takeT_yes 7 rfl rfl rfl (by kernel_rfl) (by kernel_rfl) hS1d1 (fun _ => r_lenR (hv _ (H1d1.right)) Try.underlying22 rfl) (ltn rfl) ?_
      refine wd_takeT_yes 8 rfl rfl rfl (by kernel_rfl) (by kernel_rfl) hS1d1 (fun _ => r_gtr rfl rfl) (ltn rfl) ?_
      refine wd_takeT 9 rfl (by kernel_rfl) (by kernel_rfl) hS1d1 (fun _ => r_pick_f rfl rfl) (ltn rfl) ?_
      refine wd_split 10 rfl rfl (by kernel_rfl) (by kernel_rfl) hS1d1 (ltn rfl) (fun h2 => ?_) (fun h2 => ?_)
      · (try simp only [beq_iff_eq, bne_iff_ne, ne_eq, decide_eq_true_eq, decide_eq_false_iff_not, beq_eq_false_iff_ne, bne_eq_false_iff_eq, Bool.not_eq_true', Bool.not_eq_false', Bool.not_eq_eq_eq_not, Bool.not_true, Bool.not_false, gt_iff_lt, ge_iff_le, Int.not_lt, Int.not_le] at h2)
        try (exfalso; first | contradiction | omega)
        all_goals
          refine wd_no 11 rfl rfl rfl rfl (by kernel_rfl) (by kernel_rfl) hS1d1 (ltn rfl) ?_
          refine wd_no 12 rfl rfl rfl rfl (by kernel_rfl) (by kernel_rfl) hS1d1 (ltn rfl) ?_
          refine wd_no 13 rfl rfl rfl rfl (by kernel_rfl) (by kernel_rfl) hS1d1 (ltn rfl) ?_
          refine wd_no 14 rfl rfl rfl rfl (by kernel_rfl) (by kernel_rfl) hS1d1 (ltn rfl) ?_
          refine wd_no 15 rfl rfl rfl rfl (by kernel_rfl) (by kernel_rfl) hS1d1 (ltn rfl) ?_
          refine wd_no 16 rfl rfl rfl rfl (by kernel_rfl) (by kernel_rfl) hS1d1 (ltn rfl) ?_
          refine wd_no 17 rfl rfl rfl rfl (by kernel_rfl) (by kernel_rfl) hS1d1 (ltn rfl) ?_
          refine wd_no 18 rfl rfl rfl rfl (by kernel_rfl) (by kernel_rfl) hS1d1 (ltn rfl) ?_
          refine wd_no 19 rfl rfl rfl rfl (by kernel_rfl) (by kernel_rfl) hS1d1 (ltn rfl) ?_
          refine wd_takeT 20 rfl (by kernel_rfl) (by kernel_rfl) hS1d1 (fun _ => r_pick_t rfl rfl) (ltn rfl) ?_
          refine wd_takeT 21 rfl (by kernel_rfl) (by kernel_rfl) hS1d1 (fun _ => r_move rfl) (ltn rfl) ?_
          refine wd_no 22 rfl rfl rfl rfl (by kernel_rfl) (by kernel_rfl) hS1d1 (ltn rfl) ?_
          refine wd_no 23 rfl rfl rfl rfl (by kernel_rfl) (by kernel_rfl) hS1d1 (ltn rfl) ?_
          refine wd_no 24 rfl rfl rfl rfl (by kernel_rfl) (by kernel_rfl) hS1d1 (ltn rfl) ?_
          refine wd_no 25 rfl rfl rfl rfl (by kernel_rfl) (by kernel_rfl) hS1d1 (ltn rfl) ?_
          refine wd_no 26 rfl rfl rfl rfl (by kernel_rfl) (by kernel_rfl) hS1d1 (ltn rfl) ?_
          refine wd_no 27 rfl rfl rfl rfl (by kernel_rfl) (by kernel_rfl) hS1d1 (ltn rfl) ?_
          refine wd_no 28 rfl rfl rfl rfl (by kernel_rfl) (by kernel_rfl) hS1d1 (ltn rfl) ?_
          refine wd_no 29 rfl rfl rfl rfl (by kernel_rfl) (by kernel_rfl) hS1d1 (ltn rfl) ?_
          refine wd_no 30 rfl rfl rfl rfl (by kernel_rfl) (by kernel_rfl) hS1d1 (ltn rfl) ?_
          refine wd_no 31 rfl rfl rfl rfl (by kernel_rfl) (by kernel_rfl) hS1d1 (ltn rfl) ?_
          refine wd_no 32 rfl rfl rfl rfl (by kernel_rfl) (by kernel_rfl) hS1d1 (ltn rfl) ?_
          refine wd_no 33 rfl rfl rfl rfl (by kernel_rfl) (by kernel_rfl) hS1d1 (ltn rfl) ?_
          refine wd_no 34 rfl rfl rfl rfl (by kernel_rfl) (by kernel_rfl) hS1d1 (ltn rfl) ?_
          refine wd_no 35 rfl rfl rfl rfl (by kernel_rfl) (by kernel_rfl) hS1d1 (ltn rfl) ?_
          refine wd_takeT 36 rfl (by kernel_rfl) (by kernel_rfl) hS1d1 (fun _ => r_pick_t rfl rfl) (ltn rfl) ?_
          refine wd_done (by kernel_rfl) ?_
          refine wq_seq ?_
          refine wc_cond_t rfl ?_
          refine wc_seq ?_
          refine wc_region ?_
          refine wl_val (r_assign rfl) (ltn rfl) ?_
          refine wl_val (r_assign rfl) (ltn rfl) ?_
          refine wl_nil ?_
          refine wq_seq ?_
          refine wc_ret ?_
          refine wq_then_ret ?_
          refine wq_end2 (.inl rfl) Try.results9 rfl rfl ?_
          have e : uFit L a dl = false := uFit_not (fun q => by first | (exfalso; omega) | (rw [show (a + dl.length).toNat - a.toNat = dl.length from by omega] at hcond; exact hcond q.2))
          rw [uL_not (by rw [uE_bad e]; decide), uE_bad e]
          exact ⟨_, rfl, (H1d1.right).row_nil none⟩
      · (try simp only [beq_iff_eq, bne_iff_ne, ne_eq, decide_eq_true_eq, decide_eq_false_iff_not, beq_eq_false_iff_ne, bne_eq_false_iff_eq, Bool.not_eq_true', Bool.not_eq_false', Bool.not_eq_eq_eq_not, Bool.not_true, Bool.not_false, gt_iff_lt, ge_iff_le, Int.not_lt, Int.not_le] at h2)
        try (exfalso; first | contradiction | omega)
        all_goals
          refine wd_takeT_yes 11 rfl rfl rfl (by kernel_rfl) (by kernel_rfl) hS1d1 (fun _ => (by first | exact r_field0 1 Try.underlying24 rfl rfl Try.sizeOf22 (by decide) rfl | exact r_field 1 Try.underlying24 rfl rfl Try.sizeOf22 (by decide) rfl)) (ltn rfl) ?_
          refine wd_take_yes 12 rfl rfl rfl (by kernel_rfl) (by kernel_rfl) hS1d1 (by decide) (fun W hW => r_load (plain_of Try.underlying22 rfl) rfl (cell_of_blk ((Kp.h hW)).get.2 rfl)) (ltn rfl) ?_
          refine wd_takeT_yes 13 rfl rfl rfl (by kernel_rfl) (by kernel_rfl) hS1d1 (fun _ => r_lenR (hd _ (H1d1.right)) Try.underlying22 rfl) (ltn rfl) ?_
          refine wd_takeT_yes 14 rfl rfl rfl (by kernel_rfl) (by kernel_rfl) hS1d1 (fun _ => r_move rfl) (ltn rfl) ?_
          refine wd_takeT_yes 15 rfl rfl rfl (by kernel_rfl) (by kernel_rfl) hS1d1 (fun _ => r_lenR (hv _ (H1d1.right)) Try.underlying22 rfl) (ltn rfl) ?_
          refine wd_takeT_yes 16 rfl rfl rfl (by kernel_rfl) (by kernel_rfl) hS1d1 (fun _ => (by first | exact r_field0 0 Try.underlying24 rfl rfl Try.sizeOf3 (by decide) rfl | exact r_field 0 Try.underlying24 rfl rfl Try.sizeOf3 (by decide) rfl)) (ltn rfl) ?_
          refine wd_take_yes 17 rfl rfl rfl (by kernel_rfl) (by kernel_rfl) hS1d1 (by decide) (fun W hW => r_load (plain_of Try.underlying3 rfl) rfl (cell_of_blk ((Kp.h hW)).get.2 rfl)) (ltn rfl) ?_
          refine wd_takeT_yes 18 rfl rfl rfl (by kernel_rfl) (by kernel_rfl) hS1d1 (fun _ => r_sub rfl rfl (by omega)) (ltn rfl) ?_
          refine wd_takeT_yes 19 rfl rfl rfl (by kernel_rfl) (by kernel_rfl) hS1d1 (fun _ => r_gtr rfl rfl) (ltn rfl) ?_
          refine wd_takeT 20 rfl (by kernel_rfl) (by kernel_rfl) hS1d1 (fun _ => r_pick_f rfl rfl) (ltn rfl) ?_
          refine wd_split 21 rfl rfl (by kernel_rfl) (by kernel_rfl) hS1d1 (ltn rfl) (fun h3 => ?_) (fun h3 => ?_)
          · (try simp only [beq_iff_eq, bne_iff_ne, ne_eq, decide_eq_true_eq, decide_eq_false_iff_not, beq_eq_false_iff_ne, bne_eq_false_iff_eq, Bool.not_eq_true', Bool.not_eq_false', Bool.not_eq_eq_eq_not, Bool.not_true, Bool.not_false, gt_iff_lt, ge_iff_le, Int.not_lt, Int.not_le] at h3)
            try (exfalso; first | contradiction | omega)
            all_goals
              refine wd_no 22 rfl rfl rfl rfl (by kernel_rfl) (by kernel_rfl) hS1d1 (ltn rfl) ?_
              refine wd_no 23 rfl rfl rfl rfl (by kernel_rfl) (by kernel_rfl) hS1d1 (ltn rfl) ?_
              refine wd_no 24 rfl rfl rfl rfl (by kernel_rfl) (by kernel_rfl) hS1d1 (ltn rfl) ?_
              refine wd_no 25 rfl rfl rfl rfl (by kernel_rfl) (by kernel_rfl) hS1d1 (ltn rfl) ?_
              refine wd_no 26 rfl rfl rfl rfl (by kernel_rfl) (by kernel_rfl) hS1d1 (ltn rfl) ?_
              refine wd_no 27 rfl rfl rfl rfl (by kernel_rfl) (by kernel_rfl) hS1d1 (ltn rfl) ?_
              refine wd_no 28 rfl rfl rfl rfl (by kernel_rfl) (by kernel_rfl) hS1d1 (ltn rfl) ?_
              refine wd_no 29 rfl rfl rfl rfl (by kernel_rfl) (by kernel_rfl) hS1d1 (ltn rfl) ?_
              refine wd_no 30 rfl rfl rfl rfl (by kernel_rfl) (by kernel_rfl) hS1d1 (ltn rfl) ?_
              refine wd_no 31 rfl rfl rfl rfl (by kernel_rfl) (by kernel_rfl) hS1d1 (ltn rfl) ?_
              refine wd_no 32 rfl rfl rfl rfl (by kernel_rfl) (by kernel_rfl) hS1d1 (ltn rfl) ?_
              refine wd_no 33 rfl rfl rfl rfl (by kernel_rfl) (by kernel_rfl) hS1d1 (ltn rfl) ?_
              refine wd_no 34 rfl rfl rfl rfl (by kernel_rfl) (by kernel_rfl) hS1d1 (ltn rfl) ?_
              refine wd_no 35 rfl rfl rfl rfl (by kernel_rfl) (by kernel_rfl) hS1d1 (ltn rfl) ?_
              refine wd_takeT 36 rfl (by kernel_rfl) (by kernel_rfl) hS1d1 (fun _ => r_pick_t rfl rfl) (ltn rfl) ?_
              refine wd_done (by kernel_rfl) ?_
              refine wq_seq ?_
              refine wc_cond_t rfl ?_
              refine wc_seq ?_
              refine wc_region ?_
              refine wl_val (r_assign rfl) (ltn rfl) ?_
              refine wl_val (r_assign rfl) (ltn rfl) ?_
              refine wl_nil ?_
              refine wq_seq ?_
              refine wc_ret ?_
              refine wq_then_ret ?_
              refine wq_end2 (.inl rfl) Try.results9 rfl rfl ?_
              have e : uFit L a dl = false := uFit_not (fun q => by first | (exfalso; omega) | (rw [show (a + dl.length).toNat - a.toNat = dl.length from by omega] at hcond; exact hcond q.2))
              rw [uL_not (by rw [uE_bad e]; decide), uE_bad e]
              exact ⟨_, rfl, (H1d1.right).row_nil none⟩
          · (try simp only [beq_iff_eq, bne_iff_ne, ne_eq, decide_eq_true_eq, decide_eq_false_iff_not, beq_eq_false_iff_ne, bne_eq_false_iff_eq, Bool.not_eq_true', Bool.not_eq_false', Bool.not_eq_eq_eq_not, Bool.not_true, Bool.not_false, gt_iff_lt, ge_iff_le, Int.not_lt, Int.not_le] at h3)
            try (exfalso; first | contradiction | omega)
            all_goals
              refine wd_takeT_yes 22 rfl rfl rfl (by kernel_rfl) (by kernel_rfl) hS1d1 (fun _ => r_move rfl) (ltn rfl) ?_
              refine wd_takeT_yes 23 rfl rfl rfl (by kernel_rfl) (by kernel_rfl) hS1d1 (fun _ => (by first | exact r_field0 0 Try.underlying24 rfl rfl Try.sizeOf3 (by decide) rfl | exact r_field 0 Try.underlying24 rfl rfl Try.sizeOf3 (by decide) rfl)) (ltn rfl) ?_
              refine wd_take_yes 24 rfl rfl rfl (by kernel_rfl) (by kernel_rfl) hS1d1 (by decide) (fun W hW => r_load (plain_of Try.underlying3 rfl) rfl (cell_of_blk ((Kp.h hW)).get.2 rfl)) (ltn rfl) ?_
              refine wd_takeT_yes 25 rfl rfl rfl (by kernel_rfl) (by kernel_rfl) hS1d1 (fun _ => (by first | exact r_field0 0 Try.underlying24 rfl rfl Try.sizeOf3 (by decide) rfl | exact r_field 0 Try.underlying24 rfl rfl Try.sizeOf3 (by decide) rfl)) (ltn rfl) ?_
              refine wd_take_yes 26 rfl rfl rfl (by kernel_rfl) (by kernel_rfl) hS1d1 (by decide) (fun W hW => r_load (plain_of Try.underlying3 rfl) rfl (cell_of_blk ((Kp.h hW)).get.2 rfl)) (ltn rfl) ?_
              refine wd_takeT_yes 27 rfl rfl rfl (by kernel_rfl) (by kernel_rfl) hS1d1 (fun _ => (by first | exact r_field0 1 Try.underlying24 rfl rfl Try.sizeOf22 (by decide) rfl | exact r_field 1 Try.underlying24 rfl rfl Try.sizeOf22 (by decide) rfl)) (ltn rfl) ?_
              refine wd_take_yes 28 rfl rfl rfl (by kernel_rfl) (by kernel_rfl) hS1d1 (by decide) (fun W hW => r_load (plain_of Try.underlying22 rfl) rfl (cell_of_blk ((Kp.h hW)).get.2 rfl)) (ltn rfl) ?_
              refine wd_takeT_yes 29 rfl rfl rfl (by kernel_rfl) (by kernel_rfl) hS1d1 (fun _ => r_lenR (hd _ (H1d1.right)) Try.underlying22 rfl) (ltn rfl) ?_
              refine wd_takeT_yes 30 rfl rfl rfl (by kernel_rfl) (by kernel_rfl) hS1d1 (fun _ => r_add rfl rfl (by omega)) (ltn rfl) ?_
              refine wd_takeT_yes 31 rfl rfl rfl (by kernel_rfl) (by kernel_rfl) hS1d1 (fun _ => r_sliceS (hv _ (H1d1.right)) Try.underlying22 Try.sizeOf21 rfl rfl rfl (by omega)) (ltn rfl) ?_
              refine wd_takeT_yes 32 rfl rfl rfl (by kernel_rfl) (by kernel_rfl) hS1d1 (fun _ => (by first | exact r_field0 1 Try.underlying24 rfl rfl Try.sizeOf22 (by decide) rfl | exact r_field 1 Try.underlying24 rfl rfl Try.sizeOf22 (by decide) rfl)) (ltn rfl) ?_
              refine wd_take_yes 33 rfl rfl rfl (by kernel_rfl) (by kernel_rfl) hS1d1 (by decide) (fun W hW => r_load (plain_of Try.underlying22 rfl) rfl (cell_of_blk ((Kp.h hW)).get.2 rfl)) (ltn rfl) ?_
              refine wd_eff_yes 34 rfl rfl rfl (by kernel_rfl) (e_call (r_call rfl Try.func45 rfl rfl) (equal_ret _ _ _ _ _ (RdI.cut (hv _ (H1d1.right)) (by omega) (by omega)) (hd _ (H1d1.right)))) (ltn rfl) ?_
              rintro _ w2 ⟨rfl, hD2⟩
              have HD2 := H1d1.drewn hD2
              have hS2n := Holds.kp (HD2)
              refine keepX hS2n (by kernel_rfl) ?_
              refine wd_takeT_yes 35 rfl rfl rfl (by kernel_rfl) (by kernel_rfl) hS2n (fun _ => r_not rfl) (ltn rfl) ?_
              refine wd_takeT 36 rfl (by kernel_rfl) (by kernel_rfl) hS2n (fun _ => r_pick_f rfl rfl) (ltn rfl) ?_
              refine wd_done (by kernel_rfl) ?_
              refine wq_seq ?_
              refine wc_cond rfl (fun h4 => ?_) (fun h4 => ?_)
              · (try simp only [beq_iff_eq, bne_iff_ne, ne_eq, decide_eq_true_eq, decide_eq_false_iff_not, beq_eq_false_iff_ne, bne_eq_false_iff_eq, Bool.not_eq_true', Bool.not_eq_false', Bool.not_eq_eq_eq_not, Bool.not_true, Bool.not_false, gt_iff_lt, ge_iff_le, Int.not_lt, Int.not_le] at h4)
                try (exfalso; first | contradiction | omega)
                all_goals
                  have hcond := h4
                  refine wc_seq ?_
                  refine wc_region ?_
                  refine wl_val (r_assign rfl) (ltn rfl) ?_
                  refine wl_val (r_assign rfl) (ltn rfl) ?_
                  refine wl_nil ?_
                  refine wq_seq ?_
                  refine wc_ret ?_
                  refine wq_then_ret ?_
                  refine wq_end2 (.inl rfl) Try.results9 rfl rfl ?_
                  have e : uFit L a dl = false := uFit_not (fun q => by first | (exfalso; omega) | (rw [show (a + dl.length).toNat - a.toNat = dl.length from by omega] at hcond; exact hcond q.2))
                  rw [uL_not (by rw [uE_bad e]; decide), uE_bad e]
                  exact ⟨_, rfl, (HD2.right).row_nil none⟩
              · (try simp only [beq_iff_eq, bne_iff_ne, ne_eq, decide_eq_true_eq, decide_eq_false_iff_not, beq_eq_false_iff_ne, bne_eq_false_iff_eq, Bool.not_eq_true', Bool.not_eq_false', Bool.not_eq_eq_eq_not, Bool.not_true, Bool.not_false, gt_iff_lt, ge_iff_le, Int.not_lt, Int.not_le] at h4)
                try (exfalso; first | contradiction | omega)
                all_goals
                  have hcond := h4
                  refine wc_skip ?_
                  refine wq_seq ?_
                  refine wc_seq ?_
                  refine wc_seq ?_
                  refine wc_region ?_
                  refine wl_val (r_move rfl) (ltn rfl) ?_
                  refine wl_val (r_lenR (hv _ (HD2.right)) Try.underlying22 rfl) (ltn rfl) ?_
                  refine wl_val ((by first | exact r_field0 1 Try.underlying24 rfl rfl Try.sizeOf22 (by decide) rfl | exact r_field 1 Try.underlying24 rfl rfl Try.sizeOf22 (by decide) rfl)) (ltn rfl) ?_
                  refine wl_val (r_load (plain_of Try.underlying22 rfl) rfl (cell_of_blk (HD2).get.2 rfl)) (ltn rfl) ?_
                  refine wl_val (r_lenR (hd _ (HD2.right)) Try.underlying22 rfl) (ltn rfl) ?_
                  refine wl_val (r_sub rfl rfl (by omega)) (ltn rfl) ?_
                  refine wl_val ((by first | exact r_field0 2 Try.underlying24 rfl rfl Try.sizeOf22 (by decide) rfl | exact r_field 2 Try.underlying24 rfl rfl Try.sizeOf22 (by decide) rfl)) (ltn rfl) ?_
                  refine wl_val (r_load (plain_of Try.underlying22 rfl) rfl (cell_of_blk (HD2).get.2 rfl)) (ltn rfl) ?_
                  refine wl_val (r_lenR (hi _ (HD2.right)) Try.underlying22 rfl) (ltn rfl) ?_
                  refine wl_val (r_add rfl rfl (by omega)) (ltn rfl) ?_
                  refine wl_val (r_gtr rfl rfl) (ltn rfl) ?_
                  refine wl_nil ?_
                  refine wq_seq ?_
                  refine wc_cond rfl (fun h5 => ?_) (fun h5 => ?_)
                  · (try simp only [beq_iff_eq, bne_iff_ne, ne_eq, decide_eq_true_eq, decide_eq_false_iff_not, beq_eq_false_iff_ne, bne_eq_false_iff_eq, Bool.not_eq_true', Bool.not_eq_false', Bool.not_eq_eq_eq_not, Bool.not_true, Bool.not_false, gt_iff_lt, ge_iff_le, Int.not_lt, Int.not_le] at h5)
                    try (exfalso; first | contradiction | omega)
                    all_goals
                      
                      refine wc_seq ?_
                      refine wc_region ?_
                      refine wl_val (r_assign rfl) (ltn rfl) ?_
                      refine wl_val (r_assign rfl) (ltn rfl) ?_
                      refine wl_nil ?_
                      refine wq_seq ?_
                      refine wc_ret ?_
                      refine wq_then_ret ?_
                      refine wq_end2 (.inl rfl) Try.results9 rfl rfl ?_
                      have e1 : (a + dl.length).toNat - a.toNat = dl.length := by omega
                      have e : uFit L a dl = true := uFit_iff.2 ⟨by omega, by rw [e1] at hcond; exact hcond⟩
                      rw [uL_not (by rw [uE_long e (by omega)]; decide), uE_long e (by omega)]
                      exact ⟨_, rfl, (HD2.right).row_nil none⟩
                  · (try simp only [beq_iff_eq, bne_iff_ne, ne_eq, decide_eq_true_eq, decide_eq_false_iff_not, beq_eq_false_iff_ne, bne_eq_false_iff_eq, Bool.not_eq_true', Bool.not_eq_false', Bool.not_eq_eq_eq_not, Bool.not_true, Bool.not_false, gt_iff_lt, ge_iff_le, Int.not_lt, Int.not_le] at h5)
                    try (exfalso; first | contradiction | omega)
                    all_goals
                      
                      refine wc_skip ?_
                      refine wq_seq ?_
                      refine wc_seq ?_
                      have H5d2 := HD2.drew
                      have hS5d2 := Holds.kp (H5d2)
                      refine wd_beginK [2, 5, 8, 10] hS5d2 (by kernel_rfl) (by kernel_rfl) rfl ?_
                      refine wd_takeT 0 rfl (by kernel_rfl) (by kernel_rfl) hS5d2 (fun _ => r_move rfl) (ltn rfl) ?_
                      refine wd_takeT 1 rfl (by kernel_rfl) (by kernel_rfl) hS5d2 (fun _ => (by first | exact r_field0 0 Try.underlying24 rfl rfl Try.sizeOf3 (by decide) rfl | exact r_field 0 Try.underlying24 rfl rfl Try.sizeOf3 (by decide) rfl)) (ltn rfl) ?_
                      refine wd_take 2 rfl (by kernel_rfl) (by kernel_rfl) hS5d2 (by decide) (fun W hW => r_load (plain_of Try.underlying3 rfl) rfl (cell_of_blk ((Kp.h hW)).get.2 rfl)) (ltn rfl) ?_
                      refine wd_takeT 3 rfl (by kernel_rfl) (by kernel_rfl) hS5d2 (fun _ => r_sliceS (hv _ (H5d2.right)) Try.underlying22 Try.sizeOf21 rfl rfl rfl (by omega)) (ltn rfl) ?_
                      refine wd_takeT 4 rfl (by kernel_rfl) (by kernel_rfl) hS5d2 (fun _ => (by first | exact r_field0 2 Try.underlying24 rfl rfl Try.sizeOf22 (by decide) rfl | exact r_field 2 Try.underlying24 rfl rfl Try.sizeOf22 (by decide) rfl)) (ltn rfl) ?_
                      refine wd_take 5 rfl (by kernel_rfl) (by kernel_rfl) hS5d2 (by decide) (fun W hW => r_load (plain_of Try.underlying22 rfl) rfl (cell_of_blk ((Kp.h hW)).get.2 rfl)) (ltn rfl) ?_
                      refine wd_takeT 6 rfl (by kernel_rfl) (by kernel_rfl) hS5d2 (fun _ => r_move rfl) (ltn rfl) ?_
                      refine wd_takeT 7 rfl (by kernel_rfl) (by kernel_rfl) hS5d2 (fun _ => (by first | exact r_field0 0 Try.underlying24 rfl rfl Try.sizeOf3 (by decide) rfl | exact r_field 0 Try.underlying24 rfl rfl Try.sizeOf3 (by decide) rfl)) (ltn rfl) ?_
                      refine wd_take 8 rfl (by kernel_rfl) (by kernel_rfl) hS5d2 (by decide) (fun W hW => r_load (plain_of Try.underlying3 rfl) rfl (cell_of_blk ((Kp.h hW)).get.2 rfl)) (ltn rfl) ?_
                      refine wd_takeT 9 rfl (by kernel_rfl) (by kernel_rfl) hS5d2 (fun _ => (by first | exact r_field0 1 Try.underlying24 rfl rfl Try.sizeOf22 (by decide) rfl | exact r_field 1 Try.underlying24 rfl rfl Try.sizeOf22 (by decide) rfl)) (ltn rfl) ?_
                      refine wd_take 10 rfl (by kernel_rfl) (by kernel_rfl) hS5d2 (by decide) (fun W hW => r_load (plain_of Try.underlying22 rfl) rfl (cell_of_blk ((Kp.h hW)).get.2 rfl)) (ltn rfl) ?_
                      refine wd_takeT 11 rfl (by kernel_rfl) (by kernel_rfl) hS5d2 (fun _ => r_lenR (hd _ (H5d2.right)) Try.underlying22 rfl) (ltn rfl) ?_
                      refine wd_takeT 12 rfl (by kernel_rfl) (by kernel_rfl) hS5d2 (fun _ => r_add rfl rfl (by omega)) (ltn rfl) ?_
                      refine wd_takeT 13 rfl (by kernel_rfl) (by kernel_rfl) hS5d2 (fun _ => r_sliceS (hv _ (H5d2.right)) Try.underlying22 Try.sizeOf21 rfl rfl rfl (by omega)) (ltn rfl) ?_
                      refine wd_eff 14 rfl (by kernel_rfl) (e_lit_row (vs := [_, _, _]) H5d2 Try.underlying54 Try.sizeOf22 Try.zeroValue22 rfl rfl rfl (by decide) (ones_cons (by first | rfl | exact Rd.one (RdI.upto (hv _ (H5d2.right)) (by omega))) (ones_cons (by first | rfl | exact Rd.one (hi _ (H5d2.right))) (ones_cons (by first | rfl | exact Rd.one (RdI.from (hv _ (H5d2.right)) (by omega))) ones_nil)))) (ltn rfl) ?_
                      rintro l3 w3 H3
                      have hS3n := Holds.kp (H3.f2.f2)
                      refine keepX hS3n (by kernel_rfl) ?_
                      refine wd_eff 15 rfl (by kernel_rfl) (e_call (r_call rfl Try.func46 rfl rfl) (concat3_any H3 (fun W HW => (HW).row_rd) (fun W HW => RdI.upto (hv _ (HW.right.right)) (by omega)) (fun W HW => hi _ (HW.right.right)) (fun W HW => RdI.from (hv _ (HW.right.right)) (by omega)) (by first|omega|(simp only [List.length_take, List.length_drop]; omega)))) (ltn rfl) ?_
                      rintro u4 w4 H4
                      have hS4n := Holds.kp (H4.f3.f3.f3)
                      refine keepX hS4n (by kernel_rfl) ?_
                      refine wd_takeT 16 rfl (by kernel_rfl) (by kernel_rfl) hS4n (fun _ => r_assign rfl) (ltn rfl) ?_
                      refine wd_takeT 17 rfl (by kernel_rfl) (by kernel_rfl) hS4n (fun _ => r_assign rfl) (ltn rfl) ?_
                      refine wd_done (by kernel_rfl) ?_
                      refine wq_seq ?_
                      refine wc_ret ?_
                      refine wq_end2 (.inl rfl) Try.results9 rfl rfl ?_
                      have e1 : (a + dl.length).toNat - a.toNat = dl.length := by omega
                      have e : uFit L a dl = true := uFit_iff.2 ⟨by omega, by rw [e1] at hcond; exact hcond⟩
                      rw [uL_ok (uE_ok e (by omega)), uE_ok e (by omega)]
                      refine ⟨_, rfl, ?_⟩
                      have HE := H4.f2.right.f2.right
                      rw [show (a + dl.length).toNat = a.toNat + dl.length from by omega] at HE
                      exact HE
theorem ref_apply_ret (H : Holds w0 w F) (hv : FRdI w0 F .i32 v L) (hd : FRdI w0 F .i32 d dl) (hi : FRdI w0 F .i32 s il) (b1 : L.length ≤ 35184372087808) (b2 : dl.length ≤ 140737488355328) (b3 : il.length ≤ 35184372087808) :
    Ret Try.prog 10 #[v, .agg #[.int .i64 a, d, s]] w fun v' w' => ∃ u, v' = .tuple #[u, .int .i64 (uE L a dl il)] ∧ Holds w0 w' (RowI 21 .i32 u (uL L a dl il) • F) := by
  refine ret_enter Try.func10 rfl Try.ntmps10 (Nat.le_of_ble_eq_true rfl) ?_
  dsimp only [slots0, Nat.reduceAdd]
  refine wc_seq ?_
  refine wc_region ?_
  refine wl_eff (e_boxL (l := [_, _, _]) H rfl rfl) (ltn rfl) ?_
  rintro _ w1 ⟨b1, rfl, H1⟩
  refine wl_val (r_assign rfl) (ltn rfl) ?_
  refine wl_val (r_assign rfl) (ltn rfl) ?_
  refine wl_nil ?_
  refine wq_seq ?_
  refine wc_seq ?_
  refine wc_seq ?_
  have H1d1 := H1.drew
  have hS1d1 := Holds.kp (H1d1)
  refine wd_beginK [1, 5, 12, 17, 24, 26, 28, 33] hS1d1 (by kernel_rfl) (by kernel_rfl) rfl ?_
  refine wd_takeT 0 rfl (by kernel_rfl) (by kernel_rfl) hS1d1 (fun _ => (by first | exact r_field0 0 Try.underlying24 rfl rfl Try.sizeOf3 (by decide) rfl | exact r_field 0 Try.underlying24 rfl rfl Try.sizeOf3 (by decide) rfl)) (ltn rfl) ?_
  refine wd_take 1 rfl (by kernel_rfl) (by kernel_rfl) hS1d1 (by decide) (fun W hW => r_load (plain_of Try.underlying3 rfl) rfl (cell_of_blk ((Kp.h hW)).get.2 rfl)) (ltn rfl) ?_
  refine wd_takeT 2 rfl (by kernel_rfl) (by kernel_rfl) hS1d1 (fun _ => r_lss rfl rfl) (ltn rfl) ?_
  refine wd_split 3 rfl rfl (by kernel_rfl) (by kernel_rfl) hS1d1 (ltn rfl) (fun h1 => ?_) (fun h1 => ?_)
  · (try simp only [beq_iff_eq, bne_iff_ne, ne_eq, decide_eq_true_eq, decide_eq_false_iff_not, beq_eq_false_iff_ne, bne_eq_false_iff_eq, Bool.not_eq_true', Bool.not_eq_false', Bool.not_eq_eq_eq_not, Bool.not_true, Bool.not_false, gt_iff_lt, ge_iff_le, Int.not_lt, Int.not_le] at h1)
    try (exfalso; first | contradiction | omega)
    all_goals
      refine wd_no 4 rfl rfl rfl rfl (by kernel_rfl) (by kernel_rfl) hS1d1 (ltn rfl) ?_
      refine wd_no 5 rfl rfl rfl rfl (by kernel_rfl) (by kernel_rfl) hS1d1 (ltn rfl) ?_
      refine wd_no 6 rfl rfl rfl rfl (by kernel_rfl) (by kernel_rfl) hS1d1 (ltn rfl) ?_
      refine wd_no 7 rfl rfl rfl rfl (by kernel_rfl) (by kernel_rfl) hS1d1 (ltn rfl) ?_
      refine wd_no 8 rfl rfl rfl rfl (by kernel_rfl) (by kernel_rfl) hS1d1 (ltn rfl) ?_
      refine wd_takeT 9 rfl (by kernel_rfl) (by kernel_rfl) hS1d1 (fun _ => r_pick_t rfl rfl) (ltn rfl) ?_
      refine wd_takeT 10 rfl (by kernel_rfl) (by kernel_rfl) hS1d1 (fun _ => r_move rfl) (ltn rfl) ?_
      refine wd_no 11 rfl rfl rfl rfl (by kernel_rfl) (by kernel_rfl) hS1d1 (ltn rfl) ?_
      refine wd_no 12 rfl rfl rfl rfl (by kernel_rfl) (by kernel_rfl) hS1d1 (ltn rfl) ?_
      refine wd_no 13 rfl rfl rfl rfl (by kernel_rfl) (by kernel_rfl) hS1d1 (ltn rfl) ?_
      refine wd_no 14 rfl rfl rfl rfl (by kernel_rfl) (by kernel_rfl) hS1d1 (ltn rfl) ?_
      refine wd_no 15 rfl rfl rfl rfl (by kernel_rfl) (by kernel_rfl) hS1d1 (ltn rfl) ?_
      refine wd_no 16 rfl rfl rfl rfl (by kernel_rfl) (by kernel_rfl) hS1d1 (ltn rfl) ?_
      refine wd_no 17 rfl rfl rfl rfl (by kernel_rfl) (by kernel_rfl) hS1d1 (ltn rfl) ?_
      refine wd_no 18 rfl rfl rfl rfl (by kernel_rfl) (by kernel_rfl) hS1d1 (ltn rfl) ?_
      refine wd_no 19 rfl rfl rfl rfl (by kernel_rfl) (by kernel_rfl) hS1d1 (ltn rfl) ?_
      refine wd_takeT 20 rfl (by kernel_rfl) (by kernel_rfl) hS1d1 (fun _ => r_pick_t rfl rfl) (ltn rfl) ?_
      refine wd_takeT 21 rfl (by kernel_rfl) (by kernel_rfl) hS1d1 (fun _ => r_move rfl) (ltn rfl) ?_
      refine wd_no 22 rfl rfl rfl rfl (by kernel_rfl) (by kernel_rfl) hS1d1 (ltn rfl) ?_
      refine wd_no 23 rfl rfl rfl rfl (by kernel_rfl) (by kernel_rfl) hS1d1 (ltn rfl) ?_
      refine wd_no 24 rfl rfl rfl rfl (by kernel_rfl) (by kernel_rfl) hS1d1 (ltn rfl) ?_
      refine wd_no 25 rfl rfl rfl rfl (by kernel_rfl) (by kernel_rfl) hS1d1 (ltn rfl) ?_
      refine wd_no 26 rfl rfl rfl rfl (by kernel_rfl) (by kernel_rfl) hS1d1 (ltn rfl) ?_
      refine wd_no 27 rfl rfl rfl rfl (by kernel_rfl) (by kernel_rfl) hS1d1 (ltn rfl) ?_
      refine wd_no 28 rfl rfl rfl rfl (by kernel_rfl) (by kernel_rfl) hS1d1 (ltn rfl) ?_
      refine wd_no 29 rfl rfl rfl rfl (by kernel_rfl) (by kernel_rfl) hS1d1 (ltn rfl) ?_
      refine wd_no 30 rfl rfl rfl rfl (by kernel_rfl) (by kernel_rfl) hS1d1 (ltn rfl) ?_
      refine wd_no 31 rfl rfl rfl rfl (by kernel_rfl) (by kernel_rfl) hS1d1 (ltn rfl) ?_
      refine wd_no 32 rfl rfl rfl rfl (by kernel_rfl) (by kernel_rfl) hS1d1 (ltn rfl) ?_
      refine wd_no 33 rfl rfl rfl rfl (by kernel_rfl) (by kernel_rfl) hS1d1 (ltn rfl) ?_
      refine wd_no 34 rfl rfl rfl rfl (by kernel_rfl) (by kernel_rfl) hS1d1 (ltn rfl) ?_
      refine wd_no 35 rfl rfl rfl rfl (by kernel_rfl) (by kernel_rfl) hS1d1 (ltn rfl) ?_
      refine wd_takeT 36 rfl (by kernel_rfl) (by kernel_rfl) hS1d1 (fun _ => r_pick_t rfl rfl) (ltn rfl) ?_
      refine wd_done (by kernel_rfl) ?_
      refine wq_seq ?_
      refine wc_cond_t rfl ?_
      refine wc_seq ?_
      refine wc_region ?_
      refine wl_val (r_assign rfl) (ltn rfl) ?_
      refine wl_val (r_assign rfl) (ltn rfl) ?_
      refine wl_nil ?_
      refine wq_seq ?_
      refine wc_ret ?_
      refine wq_then_ret ?_
      refine wq_end2 (.inl rfl) Try.results10 rfl rfl ?_
      have e : uFit L a dl = false := uFit_not (fun q => by first | (exfalso; omega) | (rw [show (a + dl.length).toNat - a.toNat = dl.length from by omega] at hcond; exact hcond q.2))
      rw [uL_not (by rw [uE_bad e]; decide), uE_bad e]
      exact ⟨_, rfl, (H1d1.right).row_nil none⟩
  · (try simp only [beq_iff_eq, bne_iff_ne, ne_eq, decide_eq_true_eq, decide_eq_false_iff_not, beq_eq_false_iff_ne, bne_eq_false_iff_eq, Bool.not_eq_true', Bool.not_eq_false', Bool.not_eq_eq_eq_not, Bool.not_true, Bool.not_false, gt_iff_lt, ge_iff_le, Int.not_lt, Int.not_le] at h1)
    try (exfalso; first | contradiction | omega)
    all_goals
      refine wd_takeT_yes 4 rfl rfl rfl (by kernel_rfl) (by kernel_rfl) hS1d1 (fun _ => (by first | exact r_field0 0 Try.underlying24 rfl rfl Try.sizeOf3 (by decide) rfl | exact r_field 0 Try.underlying24 rfl rfl Try.sizeOf3 (by decide) rfl)) (ltn rfl) ?_
      refine wd_take_yes 5 rfl rfl rfl (by kernel_rfl) (by kernel_rfl) hS1d1 (by decide) (fun W hW => r_load (plain_of Try.underlying3 rfl) rfl (cell_of_blk ((Kp.h hW)).get.2 rfl)) (ltn rfl) ?_
      refine wd_takeT_yes 6 rfl rfl rfl (by kernel_rfl) (by kernel_rfl) hS1d1 (fun _ => r_move rfl) (ltn rfl) ?_
      refine wd_takeT_yes 7 rfl rfl rfl (by kernel_rfl) (by kernel_rfl) hS1d1 (fun _ => r_lenR (hv _ (H1d1.right)) Try.underlying22 rfl) (ltn rfl) ?_
      refine wd_takeT_yes 8 rfl rfl rfl (by kernel_rfl) (by kernel_rfl) hS1d1 (fun _ => r_gtr rfl rfl) (ltn rfl) ?_
      refine wd_takeT 9 rfl (by kernel_rfl) (by kernel_rfl) hS1d1 (fun _ => r_pick_f rfl rfl) (ltn rfl) ?_
      refine wd_split 10 rfl rfl (by kernel_rfl) (by kernel_rfl) hS1d1 (ltn rfl) (fun h2 => ?_) (fun h2 => ?_)
      · (try simp only [beq_iff_eq, bne_iff_ne, ne_eq, decide_eq_true_eq, decide_eq_false_iff_not, beq_eq_false_iff_ne, bne_eq_false_iff_eq, Bool.not_eq_true', Bool.not_eq_false', Bool.not_eq_eq_eq_not, Bool.not_true, Bool.not_false, gt_iff_lt, ge_iff_le, Int.not_lt, Int.not_le] at h2)
        try (exfalso; first | contradiction | omega)
        all_goals
          refine wd_no 11 rfl rfl rfl rfl (by kernel_rfl) (by kernel_rfl) hS1d1 (ltn rfl) ?_
          refine wd_no 12 rfl rfl rfl rfl (by kernel_rfl) (by kernel_rfl) hS1d1 (ltn rfl) ?_
          refine wd_no 13 rfl rfl rfl rfl (by kernel_rfl) (by kernel_rfl) hS1d1 (ltn rfl) ?_
          refine wd_no 14 rfl rfl rfl rfl (by kernel_rfl) (by kernel_rfl) hS1d1 (ltn rfl) ?_
          refine wd_no 15 rfl rfl rfl rfl (by kernel_rfl) (by kernel_rfl) hS1d1 (ltn rfl) ?_
          refine wd_no 16 rfl rfl rfl rfl (by kernel_rfl) (by kernel_rfl) hS1d1 (ltn rfl) ?_
          refine wd_no 17 rfl rfl rfl rfl (by kernel_rfl) (by kernel_rfl) hS1d1 (ltn rfl) ?_
          refine wd_no 18 rfl rfl rfl rfl (by kernel_rfl) (by kernel_rfl) hS1d1 (ltn rfl) ?_
          refine wd_no 19 rfl rfl rfl rfl (by kernel_rfl) (by kernel_rfl) hS1d1 (ltn rfl) ?_
          refine wd_takeT 20 rfl (by kernel_rfl) (by kernel_rfl) hS1d1 (fun _ => r_pick_t rfl rfl) (ltn rfl) ?_
          refine wd_takeT 21 rfl (by kernel_rfl) (by kernel_rfl) hS1d1 (fun _ => r_move rfl) (ltn rfl) ?_
          refine wd_no 22 rfl rfl rfl rfl (by kernel_rfl) (by kernel_rfl) hS1d1 (ltn rfl) ?_
          refine wd_no 23 rfl rfl rfl rfl (by kernel_rfl) (by kernel_rfl) hS1d1 (ltn rfl) ?_
          refine wd_no 24 rfl rfl rfl rfl (by kernel_rfl) (by kernel_rfl) hS1d1 (ltn rfl) ?_
          refine wd_no 25 rfl rfl rfl rfl (by kernel_rfl) (by kernel_rfl) hS1d1 (ltn rfl) ?_
          refine wd_no 26 rfl rfl rfl rfl (by kernel_rfl) (by kernel_rfl) hS1d1 (ltn rfl) ?_
          refine wd_no 27 rfl rfl rfl rfl (by kernel_rfl) (by kernel_rfl) hS1d1 (ltn rfl) ?_
          refine wd_no 28 rfl rfl rfl rfl (by kernel_rfl) (by kernel_rfl) hS1d1 (ltn rfl) ?_
          refine wd_no 29 rfl rfl rfl rfl (by kernel_rfl) (by kernel_rfl) hS1d1 (ltn rfl) ?_
          refine wd_no 30 rfl rfl rfl rfl (by kernel_rfl) (by kernel_rfl) hS1d1 (ltn rfl) ?_
          refine wd_no 31 rfl rfl rfl rfl (by kernel_rfl) (by kernel_rfl) hS1d1 (ltn rfl) ?_
          refine wd_no 32 rfl rfl rfl rfl (by kernel_rfl) (by kernel_rfl) hS1d1 (ltn rfl) ?_
          refine wd_no 33 rfl rfl rfl rfl (by kernel_rfl) (by kernel_rfl) hS1d1 (ltn rfl) ?_
          refine wd_no 34 rfl rfl rfl rfl (by kernel_rfl) (by kernel_rfl) hS1d1 (ltn rfl) ?_
          refine wd_no 35 rfl rfl rfl rfl (by kernel_rfl) (by kernel_rfl) hS1d1 (ltn rfl) ?_
          refine wd_takeT 36 rfl (by kernel_rfl) (by kernel_rfl) hS1d1 (fun _ => r_pick_t rfl rfl) (ltn rfl) ?_
          refine wd_done (by kernel_rfl) ?_
          refine wq_seq ?_
          refine wc_cond_t rfl ?_
          refine wc_seq ?_
          refine wc_region ?_
          refine wl_val (r_assign rfl) (ltn rfl) ?_
          refine wl_val (r_assign rfl) (ltn rfl) ?_
          refine wl_nil ?_
          refine wq_seq ?_
          refine wc_ret ?_
          refine wq_then_ret ?_
          refine wq_end2 (.inl rfl) Try.results10 rfl rfl ?_
          have e : uFit L a dl = false := uFit_not (fun q => by first | (exfalso; omega) | (rw [show (a + dl.length).toNat - a.toNat = dl.length from by omega] at hcond; exact hcond q.2))
          rw [uL_not (by rw [uE_bad e]; decide), uE_bad e]
          exact ⟨_, rfl, (H1d1.right).row_nil none⟩
      · (try simp only [beq_iff_eq, bne_iff_ne, ne_eq, decide_eq_true_eq, decide_eq_false_iff_not, beq_eq_false_iff_ne, bne_eq_false_iff_eq, Bool.not_eq_true', Bool.not_eq_false', Bool.not_eq_eq_eq_not, Bool.not_true, Bool.not_false, gt_iff_lt, ge_iff_le, Int.not_lt, Int.not_le] at h2)
        try (exfalso; first | contradiction | omega)
        all_goals
          refine wd_takeT_yes 11 rfl rfl rfl (by kernel_rfl) (by kernel_rfl) hS1d1 (fun _ => (by first | exact r_field0 1 Try.underlying24 rfl rfl Try.sizeOf22 (by decide) rfl | exact r_field 1 Try.underlying24 rfl rfl Try.sizeOf22 (by decide) rfl)) (ltn rfl) ?_
          refine wd_take_yes 12 rfl rfl rfl (by kernel_rfl) (by kernel_rfl) hS1d1 (by decide) (fun W hW => r_load (plain_of Try.underlying22 rfl) rfl (cell_of_blk ((Kp.h hW)).get.2 rfl)) (ltn rfl) ?_
          refine wd_takeT_yes 13 rfl rfl rfl (by kernel_rfl) (by kernel_rfl) hS1d1 (fun _ => r_lenR (hd _ (H1d1.right)) Try.underlying22 rfl) (ltn rfl) ?_
          refine wd_takeT_yes 14 rfl rfl rfl (by kernel_rfl) (by kernel_rfl) hS1d1 (fun _ => r_move rfl) (ltn rfl) ?_
          refine wd_takeT_yes 15 rfl rfl rfl (by kernel_rfl) (by kernel_rfl) hS1d1 (fun _ => r_lenR (hv _ (H1d1.right)) Try.underlying22 rfl) (ltn rfl) ?_
          refine wd_takeT_yes 16 rfl rfl rfl (by kernel_rfl) (by kernel_rfl) hS1d1 (fun _ => (by first | exact r_field0 0 Try.underlying24 rfl rfl Try.sizeOf3 (by decide) rfl | exact r_field 0 Try.underlying24 rfl rfl Try.sizeOf3 (by decide) rfl)) (ltn rfl) ?_
          refine wd_take_yes 17 rfl rfl rfl (by kernel_rfl) (by kernel_rfl) hS1d1 (by decide) (fun W hW => r_load (plain_of Try.underlying3 rfl) rfl (cell_of_blk ((Kp.h hW)).get.2 rfl)) (ltn rfl) ?_
          refine wd_takeT_yes 18 rfl rfl rfl (by kernel_rfl) (by kernel_rfl) hS1d1 (fun _ => r_sub rfl rfl (by omega)) (ltn rfl) ?_
          refine wd_takeT_yes 19 rfl rfl rfl (by kernel_rfl) (by kernel_rfl) hS1d1 (fun _ => r_gtr rfl rfl) (ltn rfl) ?_
          refine wd_takeT 20 rfl (by kernel_rfl) (by kernel_rfl) hS1d1 (fun _ => r_pick_f rfl rfl) (ltn rfl) ?_
          refine wd_split 21 rfl rfl (by kernel_rfl) (by kernel_rfl) hS1d1 (ltn rfl) (fun h3 => ?_) (fun h3 => ?_)
          · (try simp only [beq_iff_eq, bne_iff_ne, ne_eq, decide_eq_true_eq, decide_eq_false_iff_not, beq_eq_false_iff_ne, bne_eq_false_iff_eq, Bool.not_eq_true', Bool.not_eq_false', Bool.not_eq_eq_eq_not, Bool.not_true, Bool.not_false, gt_iff_lt, ge_iff_le, Int.not_lt, Int.not_le] at h3)
            try (exfalso; first | contradiction | omega)
            all_goals
              refine wd_no 22 rfl rfl rfl rfl (by kernel_rfl) (by kernel_rfl) hS1d1 (ltn rfl) ?_
              refine wd_no 23 rfl rfl rfl rfl (by kernel_rfl) (by kernel_rfl) hS1d1 (ltn rfl) ?_
              refine wd_no 24 rfl rfl rfl rfl (by kernel_rfl) (by kernel_rfl) hS1d1 (ltn rfl) ?_
              refine wd_no 25 rfl rfl rfl rfl (by kernel_rfl) (by kernel_rfl) hS1d1 (ltn rfl) ?_
              refine wd_no 26 rfl rfl rfl rfl (by kernel_rfl) (by kernel_rfl) hS1d1 (ltn rfl) ?_
              refine wd_no 27 rfl rfl rfl rfl (by kernel_rfl) (by kernel_rfl) hS1d1 (ltn rfl) ?_
              refine wd_no 28 rfl rfl rfl rfl (by kernel_rfl) (by kernel_rfl) hS1d1 (ltn rfl) ?_
              refine wd_no 29 rfl rfl rfl rfl (by kernel_rfl) (by kernel_rfl) hS1d1 (ltn rfl) ?_
              refine wd_no 30 rfl rfl rfl rfl (by kernel_rfl) (by kernel_rfl) hS1d1 (ltn rfl) ?_
              refine wd_no 31 rfl rfl rfl rfl (by kernel_rfl) (by kernel_rfl) hS1d1 (ltn rfl) ?_
              refine wd_no 32 rfl rfl rfl rfl (by kernel_rfl) (by kernel_rfl) hS1d1 (ltn rfl) ?_
              refine wd_no 33 rfl rfl rfl rfl (by kernel_rfl) (by kernel_rfl) hS1d1 (ltn rfl) ?_
              refine wd_no 34 rfl rfl rfl rfl (by kernel_rfl) (by kernel_rfl) hS1d1 (ltn rfl) ?_
              refine wd_no 35 rfl rfl rfl rfl (by kernel_rfl) (by kernel_rfl) hS1d1 (ltn rfl) ?_
              refine wd_takeT 36 rfl (by kernel_rfl) (by kernel_rfl) hS1d1 (fun _ => r_pick_t rfl rfl) (ltn rfl) ?_
              refine wd_done (by kernel_rfl) ?_
              refine wq_seq ?_
              refine wc_cond_t rfl ?_
              refine wc_seq ?_
              refine wc_region ?_
              refine wl_val (r_assign rfl) (ltn rfl) ?_
              refine wl_val (r_assign rfl) (ltn rfl) ?_
              refine wl_nil ?_
              refine wq_seq ?_
              refine wc_ret ?_
              refine wq_then_ret ?_
              refine wq_end2 (.inl rfl) Try.results10 rfl rfl ?_
              have e : uFit L a dl = false := uFit_not (fun q => by first | (exfalso; omega) | (rw [show (a + dl.length).toNat - a.toNat = dl.length from by omega] at hcond; exact hcond q.2))
              rw [uL_not (by rw [uE_bad e]; decide), uE_bad e]
              exact ⟨_, rfl, (H1d1.right).row_nil none⟩
          · (try simp only [beq_iff_eq, bne_iff_ne, ne_eq, decide_eq_true_eq, decide_eq_false_iff_not, beq_eq_false_iff_ne, bne_eq_false_iff_eq, Bool.not_eq_true', Bool.not_eq_false', Bool.not_eq_eq_eq_not, Bool.not_true, Bool.not_false, gt_iff_lt, ge_iff_le, Int.not_lt, Int.not_le] at h3)
            try (exfalso; first | contradiction | omega)
            all_goals
              refine wd_takeT_yes 22 rfl rfl rfl (by kernel_rfl) (by kernel_rfl) hS1d1 (fun _ => r_move rfl) (ltn rfl) ?_
              refine wd_takeT_yes 23 rfl rfl rfl (by kernel_rfl) (by kernel_rfl) hS1d1 (fun _ => (by first | exact r_field0 0 Try.underlying24 rfl rfl Try.sizeOf3 (by decide) rfl | exact r_field 0 Try.underlying24 rfl rfl Try.sizeOf3 (by decide) rfl)) (ltn rfl) ?_
              refine wd_take_yes 24 rfl rfl rfl (by kernel_rfl) (by kernel_rfl) hS1d1 (by decide) (fun W hW => r_load (plain_of Try.underlying3 rfl) rfl (cell_of_blk ((Kp.h hW)).get.2 rfl)) (ltn rfl) ?_
              refine wd_takeT_yes 25 rfl rfl rfl (by kernel_rfl) (by kernel_rfl) hS1d1 (fun _ => (by first | exact r_field0 0 Try.underlying24 rfl rfl Try.sizeOf3 (by decide) rfl | exact r_field 0 Try.underlying24 rfl rfl Try.sizeOf3 (by decide) rfl)) (ltn rfl) ?_
              refine wd_take_yes 26 rfl rfl rfl (by kernel_rfl) (by kernel_rfl) hS1d1 (by decide) (fun W hW => r_load (plain_of Try.underlying3 rfl) rfl (cell_of_blk ((Kp.h hW)).get.2 rfl)) (ltn rfl) ?_
              refine wd_takeT_yes 27 rfl rfl rfl (by kernel_rfl) (by kernel_rfl) hS1d1 (fun _ => (by first | exact r_field0 1 Try.underlying24 rfl rfl Try.sizeOf22 (by decide) rfl | exact r_field 1 Try.underlying24 rfl rfl Try.sizeOf22 (by decide) rfl)) (ltn rfl) ?_
              refine wd_take_yes 28 rfl rfl rfl (by kernel_rfl) (by kernel_rfl) hS1d1 (by decide) (fun W hW => r_load (plain_of Try.underlying22 rfl) rfl (cell_of_blk ((Kp.h hW)).get.2 rfl)) (ltn rfl) ?_
              refine wd_takeT_yes 29 rfl rfl rfl (by kernel_rfl) (by kernel_rfl) hS1d1 (fun _ => r_lenR (hd _ (H1d1.right)) Try.underlying22 rfl) (ltn rfl) ?_
              refine wd_takeT_yes 30 rfl rfl rfl (by kernel_rfl) (by kernel_rfl) hS1d1 (fun _ => r_add rfl rfl (by omega)) (ltn rfl) ?_
              refine wd_takeT_yes 31 rfl rfl rfl (by kernel_rfl) (by kernel_rfl) hS1d1 (fun _ => r_sliceS (hv _ (H1d1.right)) Try.underlying22 Try.sizeOf21 rfl rfl rfl (by omega)) (ltn rfl) ?_
              refine wd_takeT_yes 32 rfl rfl rfl (by kernel_rfl) (by kernel_rfl) hS1d1 (fun _ => (by first | exact r_field0 1 Try.underlying24 rfl rfl Try.sizeOf22 (by decide) rfl | exact r_field 1 Try.underlying24 rfl rfl Try.sizeOf22 (by decide) rfl)) (ltn rfl) ?_
              refine wd_take_yes 33 rfl rfl rfl (by kernel_rfl) (by kernel_rfl) hS1d1 (by decide) (fun W hW => r_load (plain_of Try.underlying22 rfl) rfl (cell_of_blk ((Kp.h hW)).get.2 rfl)) (ltn rfl) ?_
              refine wd_eff_yes 34 rfl rfl rfl (by kernel_rfl) (e_call (r_call rfl Try.func14 rfl rfl) (same_runes_ret _ _ _ _ _ (RdI.cut (hv _ (H1d1.right)) (by omega) (by omega)) (hd _ (H1d1.right)))) (ltn rfl) ?_
              rintro _ w2 ⟨rfl, hD2⟩
              have HD2 := H1d1.drewn hD2
              have hS2n := Holds.kp (HD2)
              refine keepX hS2n (by kernel_rfl) ?_
              refine wd_takeT_yes 35 rfl rfl rfl (by kernel_rfl) (by kernel_rfl) hS2n (fun _ => r_not rfl) (ltn rfl) ?_
              refine wd_takeT 36 rfl (by kernel_rfl) (by kernel_rfl) hS2n (fun _ => r_pick_f rfl rfl) (ltn rfl) ?_
              refine wd_done (by kernel_rfl) ?_
              refine wq_seq ?_
              refine wc_cond rfl (fun h4 => ?_) (fun h4 => ?_)
              · (try simp only [beq_iff_eq, bne_iff_ne, ne_eq, decide_eq_true_eq, decide_eq_false_iff_not, beq_eq_false_iff_ne, bne_eq_false_iff_eq, Bool.not_eq_true', Bool.not_eq_false', Bool.not_eq_eq_eq_not, Bool.not_true, Bool.not_false, gt_iff_lt, ge_iff_le, Int.not_lt, Int.not_le] at h4)
                try (exfalso; first | contradiction | omega)
                all_goals
                  have hcond := h4
                  refine wc_seq ?_
                  refine wc_region ?_
                  refine wl_val (r_assign rfl) (ltn rfl) ?_
                  refine wl_val (r_assign rfl) (ltn rfl) ?_
                  refine wl_nil ?_
                  refine wq_seq ?_
                  refine wc_ret ?_
                  refine wq_then_ret ?_
                  refine wq_end2 (.inl rfl) Try.results10 rfl rfl ?_
                  have e : uFit L a dl = false := uFit_not (fun q => by first | (exfalso; omega) | (rw [show (a + dl.length).toNat - a.toNat = dl.length from by omega] at hcond; exact hcond q.2))
                  rw [uL_not (by rw [uE_bad e]; decide), uE_bad e]
                  exact ⟨_, rfl, (HD2.right).row_nil none⟩
              · (try simp only [beq_iff_eq, bne_iff_ne, ne_eq, decide_eq_true_eq, decide_eq_false_iff_not, beq_eq_false_iff_ne, bne_eq_false_iff_eq, Bool.not_eq_true', Bool.not_eq_false', Bool.not_eq_eq_eq_not, Bool.not_true, Bool.not_false, gt_iff_lt, ge_iff_le, Int.not_lt, Int.not_le] at h4)
                try (exfalso; first | contradiction | omega)
                all_goals
                  have hcond := h4
                  refine wc_skip ?_
                  refine wq_seq ?_
                  refine wc_seq ?_
                  refine wc_seq ?_
                  refine wc_region ?_
                  refine wl_val ((by first | exact r_field0 2 Try.underlying24 rfl rfl Try.sizeOf22 (by decide) rfl | exact r_field 2 Try.underlying24 rfl rfl Try.sizeOf22 (by decide) rfl)) (ltn rfl) ?_
                  refine wl_val (r_load (plain_of Try.underlying22 rfl) rfl (cell_of_blk (HD2).get.2 rfl)) (ltn rfl) ?_
                  refine wl_val (r_lenR (hi _ (HD2.right)) Try.underlying22 rfl) (ltn rfl) ?_
                  refine wl_val (r_move rfl) (ltn rfl) ?_
                  refine wl_val (r_lenR (hv _ (HD2.right)) Try.underlying22 rfl) (ltn rfl) ?_
                  refine wl_val ((by first | exact r_field0 1 Try.underlying24 rfl rfl Try.sizeOf22 (by decide) rfl | exact r_field 1 Try.underlying24 rfl rfl Try.sizeOf22 (by decide) rfl)) (ltn rfl) ?_
                  refine wl_val (r_load (plain_of Try.underlying22 rfl) rfl (cell_of_blk (HD2).get.2 rfl)) (ltn rfl) ?_
                  refine wl_val (r_lenR (hd _ (HD2.right)) Try.underlying22 rfl) (ltn rfl) ?_
                  refine wl_val (r_sub rfl rfl (by omega)) (ltn rfl) ?_
                  refine wl_val (r_sub rfl rfl (by omega)) (ltn rfl) ?_
                  refine wl_val (r_gtr rfl rfl) (ltn rfl) ?_
                  refine wl_nil ?_
                  refine wq_seq ?_
                  refine wc_cond rfl (fun h5 => ?_) (fun h5 => ?_)
                  · (try simp only [beq_iff_eq, bne_iff_ne, ne_eq, decide_eq_true_eq, decide_eq_false_iff_not, beq_eq_false_iff_ne, bne_eq_false_iff_eq, Bool.not_eq_true', Bool.not_eq_false', Bool.not_eq_eq_eq_not, Bool.not_true, Bool.not_false, gt_iff_lt, ge_iff_le, Int.not_lt, Int.not_le] at h5)
                    try (exfalso; first | contradiction | omega)
                    all_goals
                      
                      refine wc_seq ?_
                      refine wc_region ?_
                      refine wl_val (r_assign rfl) (ltn rfl) ?_
                      refine wl_val (r_assign rfl) (ltn rfl) ?_
                      refine wl_nil ?_
                      refine wq_seq ?_
                      refine wc_ret ?_
                      refine wq_then_ret ?_
                      refine wq_end2 (.inl rfl) Try.results10 rfl rfl ?_
                      have e1 : (a + dl.length).toNat - a.toNat = dl.length := by omega
                      have e : uFit L a dl = true := uFit_iff.2 ⟨by omega, by rw [e1] at hcond; exact hcond⟩
                      rw [uL_not (by rw [uE_long e (by omega)]; decide), uE_long e (by omega)]
                      exact ⟨_, rfl, (HD2.right).row_nil none⟩
                  · (try simp only [beq_iff_eq, bne_iff_ne, ne_eq, decide_eq_true_eq, decide_eq_false_iff_not, beq_eq_false_iff_ne, bne_eq_false_iff_eq, Bool.not_eq_true', Bool.not_eq_false', Bool.not_eq_eq_eq_not, Bool.not_true, Bool.not_false, gt_iff_lt, ge_iff_le, Int.not_lt, Int.not_le] at h5)
                    try (exfalso; first | contradiction | omega)
                    all_goals
                      
                      refine wc_skip ?_
                      refine wq_seq ?_
                      refine wc_seq ?_
                      refine wc_region ?_
                      refine wl_val (r_move rfl) (ltn rfl) ?_
                      refine wl_val ((by first | exact r_field0 0 Try.underlying24 rfl rfl Try.sizeOf3 (by decide) rfl | exact r_field 0 Try.underlying24 rfl rfl Try.sizeOf3 (by decide) rfl)) (ltn rfl) ?_
                      refine wl_val (r_load (plain_of Try.underlying3 rfl) rfl (cell_of_blk (HD2).get.2 rfl)) (ltn rfl) ?_
                      refine wl_val (r_sliceS (hv _ (HD2.right)) Try.underlying22 Try.sizeOf21 rfl rfl rfl (by omega)) (ltn rfl) ?_
                      refine wl_eff (e_call (r_call rfl Try.func47 rfl rfl) (rclone_ret HD2 (fun W HW => RdI.upto (hv _ (HW.right)) (by omega)) (by first|omega|(simp only [List.length_take]; omega)))) (ltn rfl) ?_
                      rintro u3 w3 H3
                      refine wl_val (r_assign rfl) (ltn rfl) ?_
                      refine wl_nil ?_
                      refine wq_seq ?_
                      refine wc_seq ?_
                      refine wc_region ?_
                      refine wl_val (r_move rfl) (ltn rfl) ?_
                      refine wl_val ((by first | exact r_field0 2 Try.underlying24 rfl rfl Try.sizeOf22 (by decide) rfl | exact r_field 2 Try.underlying24 rfl rfl Try.sizeOf22 (by decide) rfl)) (ltn rfl) ?_
                      refine wl_val (r_load (plain_of Try.underlying22 rfl) rfl (cell_of_blk (H3.f2).get.2 rfl)) (ltn rfl) ?_
                      refine wl_eff (e_append_ints H3 (hi _ (H3.right.right)) Try.underlying22 (show (Try.prog.info? 21).map (fun i => (i.zero, i.size, i.bytes)) = some (some (.int .i32 0), 1, 4) by kernel_rfl) rfl rfl (by first | omega | (simp only [List.length_append, List.length_nil, List.length_cons]; omega) | (simp; omega)) (by first | omega | (simp only [List.length_append, List.length_nil, List.length_cons]; omega) | (simp; omega))) (ltn rfl) ?_
                      rintro l4 w4 H4
                      try simp only [List.nil_append] at H4
                      refine wl_val (r_assign rfl) (ltn rfl) ?_
                      refine wl_nil ?_
                      refine wq_seq ?_
                      refine wc_seq ?_
                      refine wc_region ?_
                      refine wl_val (r_move rfl) (ltn rfl) ?_
                      refine wl_val (r_move rfl) (ltn rfl) ?_
                      refine wl_val ((by first | exact r_field0 0 Try.underlying24 rfl rfl Try.sizeOf3 (by decide) rfl | exact r_field 0 Try.underlying24 rfl rfl Try.sizeOf3 (by decide) rfl)) (ltn rfl) ?_
                      refine wl_val (r_load (plain_of Try.underlying3 rfl) rfl (cell_of_blk (H4.f2).get.2 rfl)) (ltn rfl) ?_
                      refine wl_val ((by first | exact r_field0 1 Try.underlying24 rfl rfl Try.sizeOf22 (by decide) rfl | exact r_field 1 Try.underlying24 rfl rfl Try.sizeOf22 (by decide) rfl)) (ltn rfl) ?_
                      refine wl_val (r_load (plain_of Try.underlying22 rfl) rfl (cell_of_blk (H4.f2).get.2 rfl)) (ltn rfl) ?_
                      refine wl_val (r_lenR (hd _ (H4.right.right)) Try.underlying22 rfl) (ltn rfl) ?_
                      refine wl_val (r_add rfl rfl (by omega)) (ltn rfl) ?_
                      refine wl_val (r_sliceS (hv _ (H4.right.right)) Try.underlying22 Try.sizeOf21 rfl rfl rfl (by omega)) (ltn rfl) ?_
                      refine wl_eff (e_append_ints H4 (RdI.from (hv _ (H4.right.right)) (by omega)) Try.underlying22 (show (Try.prog.info? 21).map (fun i => (i.zero, i.size, i.bytes)) = some (some (.int .i32 0), 1, 4) by kernel_rfl) rfl rfl (by first | omega | (simp only [List.length_append, List.length_nil, List.length_cons]; omega) | (simp; omega)) (by first | omega | (simp only [List.length_append, List.length_nil, List.length_cons]; omega) | (simp; omega))) (ltn rfl) ?_
                      rintro l5 w5 H5
                      try simp only [List.nil_append] at H5
                      refine wl_val (r_assign rfl) (ltn rfl) ?_
                      refine wl_val (r_assign rfl) (ltn rfl) ?_
                      refine wl_nil ?_
                      refine wq_seq ?_
                      refine wc_ret ?_
                      refine wq_end2 (.inl rfl) Try.results10 rfl rfl ?_
                      have e1 : (a + dl.length).toNat - a.toNat = dl.length := by omega
                      have e : uFit L a dl = true := uFit_iff.2 ⟨by omega, by rw [e1] at hcond; exact hcond⟩
                      rw [uL_ok (uE_ok e (by omega)), uE_ok e (by omega)]
                      refine ⟨_, rfl, ?_⟩
                      have HE := H5.f2.right
                      rw [show (a + dl.length).toNat = a.toNat + dl.length from by omega] at HE
                      exact HE
/-- An edit's cells. -/
abbrev edV (a : Int) (d z : Value) : Value := .agg #[.int .i64 a, d, z]
theorem undo_own_ret (H : Holds w0 w F) (hd : FRdI w0 F .i32 d dl) (hi : FRdI w0 F .i32 z il) (b2 : dl.length ≤ 35184372087808) (b3 : il.length ≤ 35184372087808) :
    Ret Try.prog 50 #[edV a d z] w fun v' w' => ∃ d' s', v' = edV a d' s' ∧ Holds w0 w' (RowI 21 .i32 d' dl • RowI 21 .i32 s' il • F) := by
  refine ret_enter Try.func50 rfl Try.ntmps50 (Nat.le_of_ble_eq_true rfl) ?_
  dsimp only [slots0, Nat.reduceAdd]
  refine wc_seq ?_
  refine wc_region ?_
  refine wl_eff (e_boxL (l := [_, _, _]) H rfl rfl) (ltn rfl) ?_
  rintro _ w1 ⟨b1, rfl, H1⟩
  refine wl_eff (e_allocL (l := [_, _, _]) H1 Try.zeroValue24 rfl) (ltn rfl) ?_
  rintro _ w2 ⟨b2, rfl, H2⟩
  refine wl_nil ?_
  refine wq_seq ?_
  refine wc_seq ?_
  have H1d2 := H2.drew
  have hS1d2 := Holds.kp (H1d2.f2.f2)
  refine wd_beginK [1, 3, 6] hS1d2 (by kernel_rfl) (by kernel_rfl) rfl ?_
  refine wd_takeT 0 rfl (by kernel_rfl) (by kernel_rfl) hS1d2 (fun _ => (by first | exact r_field0 0 Try.underlying24 rfl rfl Try.sizeOf3 (by decide) rfl | exact r_field 0 Try.underlying24 rfl rfl Try.sizeOf3 (by decide) rfl)) (ltn rfl) ?_
  refine wd_take 1 rfl (by kernel_rfl) (by kernel_rfl) hS1d2 (by decide) (fun W hW => r_load (plain_of Try.underlying3 rfl) rfl (cell_of_blk ((Kp.h hW).f2).get.2 rfl)) (ltn rfl) ?_
  refine wd_takeT 2 rfl (by kernel_rfl) (by kernel_rfl) hS1d2 (fun _ => (by first | exact r_field0 1 Try.underlying24 rfl rfl Try.sizeOf22 (by decide) rfl | exact r_field 1 Try.underlying24 rfl rfl Try.sizeOf22 (by decide) rfl)) (ltn rfl) ?_
  refine wd_take 3 rfl (by kernel_rfl) (by kernel_rfl) hS1d2 (by decide) (fun W hW => r_load (plain_of Try.underlying22 rfl) rfl (cell_of_blk ((Kp.h hW).f2).get.2 rfl)) (ltn rfl) ?_
  refine wd_takeT 5 rfl (by kernel_rfl) (by kernel_rfl) hS1d2 (fun _ => (by first | exact r_field0 2 Try.underlying24 rfl rfl Try.sizeOf22 (by decide) rfl | exact r_field 2 Try.underlying24 rfl rfl Try.sizeOf22 (by decide) rfl)) (ltn rfl) ?_
  refine wd_take 6 rfl (by kernel_rfl) (by kernel_rfl) hS1d2 (by decide) (fun W hW => r_load (plain_of Try.underlying22 rfl) rfl (cell_of_blk ((Kp.h hW).f2).get.2 rfl)) (ltn rfl) ?_
  refine wd_eff 4 rfl (by kernel_rfl) (e_call (r_call rfl Try.func48 rfl rfl) (clone_ret H1d2 (fun W HW => hd _ (HW.right.right)) (by omega))) (ltn rfl) ?_
  rintro u3 w3 H3
  have hS3n := Holds.kp (H3.f3.f3.f3)
  refine keepK hS3n (fun W hW => (Kp.h hW).right.f2.f2) ?_
  refine wd_eff 7 rfl (by kernel_rfl) (e_call (r_call rfl Try.func48 rfl rfl) (clone_ret H3 (fun W HW => hi _ (HW.right.right.right)) (by omega))) (ltn rfl) ?_
  rintro u4 w4 H4
  have hS4n := Holds.kp (H4.f4.f4.f4.f4)
  refine keepK hS4n (fun W hW => (Kp.h hW).right.f3.f3.f3) ?_
  obtain ⟨au3, cu3, eu3, -⟩ := RdI.open ((H4.f2).row_rd)
  subst eu3
  obtain ⟨au4, cu4, eu4, -⟩ := RdI.open ((H4).row_rd)
  subst eu4
  refine wd_takeT 8 rfl (by kernel_rfl) (by kernel_rfl) hS4n (fun _ => r_build (pl := #[(0, 1), (1, 1), (2, 1)]) (_) Try.underlying24 Try.zeroValue24 (fun w => by kernel_rfl) rfl (rfl)) (ltn rfl) ?_
  refine wd_eff0 9 rfl (by kernel_rfl) (e_storePL 0 (l' := [_, _, _]) (us := [_, _, _]) H4.f3 Try.sizeOf24 rfl rfl rfl (ones_cons (by first | rfl | assumption) (ones_cons (by first | rfl | exact Rd.one ((H4.f2).row_rd)) (ones_cons (by first | rfl | exact Rd.one ((H4).row_rd)) ones_nil))) rfl rfl) ?_
  rintro _ w7 H7
  have hS7n := Holds.kp (H7.f4.f4.f4.f4)
  refine keepX hS7n (by kernel_rfl) ?_
  refine wd_done (by kernel_rfl) ?_
  refine wq_seq ?_
  refine wc_ret ?_
  refine wq_end (.inl rfl) (resC Try.results50 rfl Try.underlying24 rfl (by rw [show (Try.prog.info? 24).map (·.size) = some 3 from by kernel_rfl]; rfl) (H7).get.2) ?_
  exact ⟨_, _, rfl, H7.right.f3.right.f2⟩
theorem ref_clone_ret (H : Holds w0 w F) (hd : FRdI w0 F .i32 d dl) (hi : FRdI w0 F .i32 z il) (b2 : dl.length ≤ 35184372087808) (b3 : il.length ≤ 35184372087808) :
    Ret Try.prog 20 #[edV a d z] w fun v' w' => ∃ d' s', v' = edV a d' s' ∧ Holds w0 w' (RowI 21 .i32 d' dl • RowI 21 .i32 s' il • F) := by
  refine ret_enter Try.func20 rfl Try.ntmps20 (Nat.le_of_ble_eq_true rfl) ?_
  dsimp only [slots0, Nat.reduceAdd]
  refine wc_seq ?_
  refine wc_region ?_
  refine wl_eff (e_boxL (l := [_, _, _]) H rfl rfl) (ltn rfl) ?_
  rintro _ w1 ⟨b1, rfl, H1⟩
  refine wl_eff (e_allocL (l := [_, _, _]) H1 Try.zeroValue24 rfl) (ltn rfl) ?_
  rintro _ w2 ⟨b2, rfl, H2⟩
  refine wl_nil ?_
  refine wq_seq ?_
  refine wc_seq ?_
  have H1d2 := H2.drew
  have hS1d2 := Holds.kp (H1d2.f2.f2)
  refine wd_beginK [1, 3, 6] hS1d2 (by kernel_rfl) (by kernel_rfl) rfl ?_
  refine wd_takeT 0 rfl (by kernel_rfl) (by kernel_rfl) hS1d2 (fun _ => (by first | exact r_field0 0 Try.underlying24 rfl rfl Try.sizeOf3 (by decide) rfl | exact r_field 0 Try.underlying24 rfl rfl Try.sizeOf3 (by decide) rfl)) (ltn rfl) ?_
  refine wd_take 1 rfl (by kernel_rfl) (by kernel_rfl) hS1d2 (by decide) (fun W hW => r_load (plain_of Try.underlying3 rfl) rfl (cell_of_blk ((Kp.h hW).f2).get.2 rfl)) (ltn rfl) ?_
  refine wd_takeT 2 rfl (by kernel_rfl) (by kernel_rfl) hS1d2 (fun _ => (by first | exact r_field0 1 Try.underlying24 rfl rfl Try.sizeOf22 (by decide) rfl | exact r_field 1 Try.underlying24 rfl rfl Try.sizeOf22 (by decide) rfl)) (ltn rfl) ?_
  refine wd_take 3 rfl (by kernel_rfl) (by kernel_rfl) hS1d2 (by decide) (fun W hW => r_load (plain_of Try.underlying22 rfl) rfl (cell_of_blk ((Kp.h hW).f2).get.2 rfl)) (ltn rfl) ?_
  refine wd_takeT 5 rfl (by kernel_rfl) (by kernel_rfl) hS1d2 (fun _ => (by first | exact r_field0 2 Try.underlying24 rfl rfl Try.sizeOf22 (by decide) rfl | exact r_field 2 Try.underlying24 rfl rfl Try.sizeOf22 (by decide) rfl)) (ltn rfl) ?_
  refine wd_take 6 rfl (by kernel_rfl) (by kernel_rfl) hS1d2 (by decide) (fun W hW => r_load (plain_of Try.underlying22 rfl) rfl (cell_of_blk ((Kp.h hW).f2).get.2 rfl)) (ltn rfl) ?_
  refine wd_eff 4 rfl (by kernel_rfl) (e_call (r_call rfl Try.func47 rfl rfl) (rclone_ret H1d2 (fun W HW => hd _ (HW.right.right)) (by first|omega|(simp only [List.length_take]; omega)))) (ltn rfl) ?_
  rintro u3 w3 H3
  have hS3n := Holds.kp (H3.f3.f3.f3)
  refine keepK hS3n (fun W hW => (Kp.h hW).right.f2.f2) ?_
  refine wd_eff 7 rfl (by kernel_rfl) (e_call (r_call rfl Try.func47 rfl rfl) (rclone_ret H3 (fun W HW => hi _ (HW.right.right.right)) (by first|omega|(simp only [List.length_take]; omega)))) (ltn rfl) ?_
  rintro u4 w4 H4
  have hS4n := Holds.kp (H4.f4.f4.f4.f4)
  refine keepK hS4n (fun W hW => (Kp.h hW).right.f3.f3.f3) ?_
  obtain ⟨au3, cu3, eu3, -⟩ := RdI.open ((H4.f2).row_rd)
  subst eu3
  obtain ⟨au4, cu4, eu4, -⟩ := RdI.open ((H4).row_rd)
  subst eu4
  refine wd_takeT 8 rfl (by kernel_rfl) (by kernel_rfl) hS4n (fun _ => r_build (pl := #[(0, 1), (1, 1), (2, 1)]) (_) Try.underlying24 Try.zeroValue24 (fun w => by kernel_rfl) rfl (rfl)) (ltn rfl) ?_
  refine wd_eff0 9 rfl (by kernel_rfl) (e_storePL 0 (l' := [_, _, _]) (us := [_, _, _]) H4.f3 Try.sizeOf24 rfl rfl rfl (ones_cons (by first | rfl | assumption) (ones_cons (by first | rfl | exact Rd.one ((H4.f2).row_rd)) (ones_cons (by first | rfl | exact Rd.one ((H4).row_rd)) ones_nil))) rfl rfl) ?_
  rintro _ w7 H7
  have hS7n := Holds.kp (H7.f4.f4.f4.f4)
  refine keepX hS7n (by kernel_rfl) ?_
  refine wd_done (by kernel_rfl) ?_
  refine wq_seq ?_
  refine wc_ret ?_
  refine wq_end (.inl rfl) (resC Try.results20 rfl Try.underlying24 rfl (by rw [show (Try.prog.info? 24).map (·.size) = some 3 from by kernel_rfl]; rfl) (H7).get.2) ?_
  exact ⟨_, _, rfl, H7.right.f3.right.f2⟩
theorem undo_inverse_ret (H : Holds w0 w F) (hd : FRdI w0 F .i32 d dl) (hi : FRdI w0 F .i32 z il) (b2 : dl.length ≤ 35184372087808) (b3 : il.length ≤ 35184372087808) :
    Ret Try.prog 16 #[edV a d z] w fun v' w' => ∃ d' s', v' = edV a d' s' ∧ Holds w0 w' (RowI 21 .i32 d' il • RowI 21 .i32 s' dl • F) := by
  refine ret_enter Try.func16 rfl Try.ntmps16 (Nat.le_of_ble_eq_true rfl) ?_
  dsimp only [slots0, Nat.reduceAdd]
  refine wc_seq ?_
  refine wc_region ?_
  refine wl_eff (e_boxL (l := [_, _, _]) H rfl rfl) (ltn rfl) ?_
  rintro _ w1 ⟨b1, rfl, H1⟩
  refine wl_eff (e_allocL (l := [_, _, _]) H1 Try.zeroValue24 rfl) (ltn rfl) ?_
  rintro _ w2 ⟨b2, rfl, H2⟩
  refine wl_nil ?_
  refine wq_seq ?_
  refine wc_seq ?_
  refine wc_region ?_
  refine wl_val ((by first | exact r_field0 0 Try.underlying24 rfl rfl Try.sizeOf3 (by decide) rfl | exact r_field 0 Try.underlying24 rfl rfl Try.sizeOf3 (by decide) rfl)) (ltn rfl) ?_
  refine wl_val (r_load (plain_of Try.underlying3 rfl) rfl (cell_of_blk (H2.f2).get.2 rfl)) (ltn rfl) ?_
  refine wl_val ((by first | exact r_field0 2 Try.underlying24 rfl rfl Try.sizeOf22 (by decide) rfl | exact r_field 2 Try.underlying24 rfl rfl Try.sizeOf22 (by decide) rfl)) (ltn rfl) ?_
  refine wl_val (r_load (plain_of Try.underlying22 rfl) rfl (cell_of_blk (H2.f2).get.2 rfl)) (ltn rfl) ?_
  refine wl_val ((by first | exact r_field0 1 Try.underlying24 rfl rfl Try.sizeOf22 (by decide) rfl | exact r_field 1 Try.underlying24 rfl rfl Try.sizeOf22 (by decide) rfl)) (ltn rfl) ?_
  refine wl_val (r_load (plain_of Try.underlying22 rfl) rfl (cell_of_blk (H2.f2).get.2 rfl)) (ltn rfl) ?_
  obtain ⟨az, cz, ez, -⟩ := RdI.open (hi _ (H2.right.right))
  subst ez
  obtain ⟨ad, cd, ed, -⟩ := RdI.open (hd _ (H2.right.right))
  subst ed
  refine wl_val (r_build (pl := #[(0, 1), (1, 1), (2, 1)]) (_) Try.underlying24 Try.zeroValue24 (fun w => by kernel_rfl) rfl (rfl)) (ltn rfl) ?_
  refine wl_eff (e_call (r_call rfl Try.func50 rfl rfl) (undo_own_ret H2 (fun W HW => hi _ (HW.right.right)) (fun W HW => hd _ (HW.right.right)) (by omega) (by omega))) (ltn rfl) ?_
  rintro _ w5 ⟨d5, s5, rfl, H5⟩
  refine wl_eff0 (e_storePL 0 (l' := [_, _, _]) (us := [_, _, _]) H5.f3 Try.sizeOf24 rfl rfl rfl (ones_cons (by first | rfl | assumption) (ones_cons (by first | rfl | exact Rd.one ((H5).row_rd)) (ones_cons (by first | rfl | exact Rd.one ((H5.f2).row_rd)) ones_nil))) rfl rfl) ?_
  rintro _ w6 H6
  refine wl_nil ?_
  refine wq_seq ?_
  refine wc_ret ?_
  refine wq_end (.inl rfl) (resC Try.results16 rfl Try.underlying24 rfl (by rw [show (Try.prog.info? 24).map (·.size) = some 3 from by kernel_rfl]; rfl) (H6).get.2) ?_
  exact ⟨_, _, rfl, H6.right.f3.right.f2.f2⟩
theorem ref_inverse_ret (H : Holds w0 w F) (hd : FRdI w0 F .i32 d dl) (hi : FRdI w0 F .i32 z il) (b2 : dl.length ≤ 35184372087808) (b3 : il.length ≤ 35184372087808) :
    Ret Try.prog 17 #[edV a d z] w fun v' w' => ∃ d' s', v' = edV a d' s' ∧ Holds w0 w' (RowI 21 .i32 d' il • RowI 21 .i32 s' dl • F) := by
  refine ret_enter Try.func17 rfl Try.ntmps17 (Nat.le_of_ble_eq_true rfl) ?_
  dsimp only [slots0, Nat.reduceAdd]
  refine wc_seq ?_
  refine wc_region ?_
  refine wl_eff (e_boxL (l := [_, _, _]) H rfl rfl) (ltn rfl) ?_
  rintro _ w1 ⟨b1, rfl, H1⟩
  refine wl_eff (e_allocL (l := [_, _, _]) H1 Try.zeroValue24 rfl) (ltn rfl) ?_
  rintro _ w2 ⟨b2, rfl, H2⟩
  refine wl_nil ?_
  refine wq_seq ?_
  refine wc_seq ?_
  have H1d2 := H2.drew
  have hS1d2 := Holds.kp (H1d2.f2.f2)
  refine wd_beginK [1, 3, 6] hS1d2 (by kernel_rfl) (by kernel_rfl) rfl ?_
  refine wd_takeT 0 rfl (by kernel_rfl) (by kernel_rfl) hS1d2 (fun _ => (by first | exact r_field0 0 Try.underlying24 rfl rfl Try.sizeOf3 (by decide) rfl | exact r_field 0 Try.underlying24 rfl rfl Try.sizeOf3 (by decide) rfl)) (ltn rfl) ?_
  refine wd_take 1 rfl (by kernel_rfl) (by kernel_rfl) hS1d2 (by decide) (fun W hW => r_load (plain_of Try.underlying3 rfl) rfl (cell_of_blk ((Kp.h hW).f2).get.2 rfl)) (ltn rfl) ?_
  refine wd_takeT 2 rfl (by kernel_rfl) (by kernel_rfl) hS1d2 (fun _ => (by first | exact r_field0 2 Try.underlying24 rfl rfl Try.sizeOf22 (by decide) rfl | exact r_field 2 Try.underlying24 rfl rfl Try.sizeOf22 (by decide) rfl)) (ltn rfl) ?_
  refine wd_take 3 rfl (by kernel_rfl) (by kernel_rfl) hS1d2 (by decide) (fun W hW => r_load (plain_of Try.underlying22 rfl) rfl (cell_of_blk ((Kp.h hW).f2).get.2 rfl)) (ltn rfl) ?_
  refine wd_takeT 5 rfl (by kernel_rfl) (by kernel_rfl) hS1d2 (fun _ => (by first | exact r_field0 1 Try.underlying24 rfl rfl Try.sizeOf22 (by decide) rfl | exact r_field 1 Try.underlying24 rfl rfl Try.sizeOf22 (by decide) rfl)) (ltn rfl) ?_
  refine wd_take 6 rfl (by kernel_rfl) (by kernel_rfl) hS1d2 (by decide) (fun W hW => r_load (plain_of Try.underlying22 rfl) rfl (cell_of_blk ((Kp.h hW).f2).get.2 rfl)) (ltn rfl) ?_
  refine wd_eff 4 rfl (by kernel_rfl) (e_call (r_call rfl Try.func47 rfl rfl) (rclone_ret H1d2 (fun W HW => hi _ (HW.right.right)) (by first|omega|(simp only [List.length_take]; omega)))) (ltn rfl) ?_
  rintro u3 w3 H3
  have hS3n := Holds.kp (H3.f3.f3.f3)
  refine keepK hS3n (fun W hW => (Kp.h hW).right.f2.f2) ?_
  refine wd_eff 7 rfl (by kernel_rfl) (e_call (r_call rfl Try.func47 rfl rfl) (rclone_ret H3 (fun W HW => hd _ (HW.right.right.right)) (by first|omega|(simp only [List.length_take]; omega)))) (ltn rfl) ?_
  rintro u4 w4 H4
  have hS4n := Holds.kp (H4.f4.f4.f4.f4)
  refine keepK hS4n (fun W hW => (Kp.h hW).right.f3.f3.f3) ?_
  obtain ⟨au3, cu3, eu3, -⟩ := RdI.open ((H4.f2).row_rd)
  subst eu3
  obtain ⟨au4, cu4, eu4, -⟩ := RdI.open ((H4).row_rd)
  subst eu4
  refine wd_takeT 8 rfl (by kernel_rfl) (by kernel_rfl) hS4n (fun _ => r_build (pl := #[(0, 1), (1, 1), (2, 1)]) (_) Try.underlying24 Try.zeroValue24 (fun w => by kernel_rfl) rfl (rfl)) (ltn rfl) ?_
  refine wd_eff0 9 rfl (by kernel_rfl) (e_storePL 0 (l' := [_, _, _]) (us := [_, _, _]) H4.f3 Try.sizeOf24 rfl rfl rfl (ones_cons (by first | rfl | assumption) (ones_cons (by first | rfl | exact Rd.one ((H4.f2).row_rd)) (ones_cons (by first | rfl | exact Rd.one ((H4).row_rd)) ones_nil))) rfl rfl) ?_
  rintro _ w7 H7
  have hS7n := Holds.kp (H7.f4.f4.f4.f4)
  refine keepX hS7n (by kernel_rfl) ?_
  refine wd_done (by kernel_rfl) ?_
  refine wq_seq ?_
  refine wc_ret ?_
  refine wq_end (.inl rfl) (resC Try.results17 rfl Try.underlying24 rfl (by rw [show (Try.prog.info? 24).map (·.size) = some 3 from by kernel_rfl]; rfl) (H7).get.2) ?_
  exact ⟨_, _, rfl, H7.right.f3.right.f2⟩
theorem same_ed_ret (H : Holds w0 w F) (q1 : FRdI w0 F .i32 d dl) (q2 : FRdI w0 F .i32 z il) (q3 : FRdI w0 F .i32 d2 dl2) (q4 : FRdI w0 F .i32 z2 il2) :
    Ret Try.prog 15 #[edV a d z, edV a2 d2 z2] w fun v w' => v = .bool (decide (a = a2) && (dl == dl2) && (il == il2)) ∧ Holds w0 w' F := by
  refine ret_enter Try.func15 rfl Try.ntmps15 (Nat.le_of_ble_eq_true rfl) ?_
  dsimp only [slots0, Nat.reduceAdd]
  refine wc_seq ?_
  refine wc_region ?_
  refine wl_eff (e_boxL (l := [_, _, _]) H rfl rfl) (ltn rfl) ?_
  rintro _ w1 ⟨b1, rfl, H1⟩
  refine wl_eff (e_boxL (l := [_, _, _]) H1 rfl rfl) (ltn rfl) ?_
  rintro _ w2 ⟨b2, rfl, H2⟩
  refine wl_val (r_assign rfl) (ltn rfl) ?_
  refine wl_nil ?_
  refine wq_seq ?_
  refine wc_seq ?_
  refine wc_region ?_
  refine wl_val ((by first | exact r_field0 0 Try.underlying24 rfl rfl Try.sizeOf3 (by decide) rfl | exact r_field 0 Try.underlying24 rfl rfl Try.sizeOf3 (by decide) rfl)) (ltn rfl) ?_
  refine wl_val (r_load (plain_of Try.underlying3 rfl) rfl (cell_of_blk (H2.f2).get.2 rfl)) (ltn rfl) ?_
  refine wl_val ((by first | exact r_field0 0 Try.underlying24 rfl rfl Try.sizeOf3 (by decide) rfl | exact r_field 0 Try.underlying24 rfl rfl Try.sizeOf3 (by decide) rfl)) (ltn rfl) ?_
  refine wl_val (r_load (plain_of Try.underlying3 rfl) rfl (cell_of_blk (H2).get.2 rfl)) (ltn rfl) ?_
  refine wl_val (r_eql rfl rfl) (ltn rfl) ?_
  refine wl_split rfl (ltn rfl) (fun h1 => ?_) (fun h1 => ?_)
  · (try simp only [beq_iff_eq, bne_iff_ne, ne_eq, decide_eq_true_eq, decide_eq_false_iff_not, beq_eq_false_iff_ne, bne_eq_false_iff_eq, Bool.not_eq_true', Bool.not_eq_false', Bool.not_eq_eq_eq_not, Bool.not_true, Bool.not_false, gt_iff_lt, ge_iff_le, Int.not_lt, Int.not_le] at h1)
    try (exfalso; first | contradiction | omega)
    all_goals
      refine wl_yes rfl rfl ?_
      refine wl_val ((by first | exact r_field0 1 Try.underlying24 rfl rfl Try.sizeOf22 (by decide) rfl | exact r_field 1 Try.underlying24 rfl rfl Try.sizeOf22 (by decide) rfl)) (ltn rfl) ?_
      refine wl_yes rfl rfl ?_
      refine wl_val (r_load (plain_of Try.underlying22 rfl) rfl (cell_of_blk (H2.f2).get.2 rfl)) (ltn rfl) ?_
      refine wl_yes rfl rfl ?_
      refine wl_val ((by first | exact r_field0 1 Try.underlying24 rfl rfl Try.sizeOf22 (by decide) rfl | exact r_field 1 Try.underlying24 rfl rfl Try.sizeOf22 (by decide) rfl)) (ltn rfl) ?_
      refine wl_yes rfl rfl ?_
      refine wl_val (r_load (plain_of Try.underlying22 rfl) rfl (cell_of_blk (H2).get.2 rfl)) (ltn rfl) ?_
      refine wl_yes rfl rfl ?_
      refine wl_eff (e_call (r_call rfl Try.func14 rfl rfl) (same_runes_ret _ _ _ _ _ (q1 _ (H2.right.right)) (q3 _ (H2.right.right)))) (ltn rfl) ?_
      rintro _ w3 ⟨rfl, hD3⟩
      have HD3 := H2.drewn hD3
      refine wl_val (r_pick_t rfl rfl) (ltn rfl) ?_
      refine wl_split rfl (ltn rfl) (fun h2 => ?_) (fun h2 => ?_)
      · (try simp only [beq_iff_eq, bne_iff_ne, ne_eq, decide_eq_true_eq, decide_eq_false_iff_not, beq_eq_false_iff_ne, bne_eq_false_iff_eq, Bool.not_eq_true', Bool.not_eq_false', Bool.not_eq_eq_eq_not, Bool.not_true, Bool.not_false, gt_iff_lt, ge_iff_le, Int.not_lt, Int.not_le] at h2)
        try (exfalso; first | contradiction | omega)
        all_goals
          refine wl_yes rfl rfl ?_
          refine wl_val ((by first | exact r_field0 2 Try.underlying24 rfl rfl Try.sizeOf22 (by decide) rfl | exact r_field 2 Try.underlying24 rfl rfl Try.sizeOf22 (by decide) rfl)) (ltn rfl) ?_
          refine wl_yes rfl rfl ?_
          refine wl_val (r_load (plain_of Try.underlying22 rfl) rfl (cell_of_blk (HD3.f2).get.2 rfl)) (ltn rfl) ?_
          refine wl_yes rfl rfl ?_
          refine wl_val ((by first | exact r_field0 2 Try.underlying24 rfl rfl Try.sizeOf22 (by decide) rfl | exact r_field 2 Try.underlying24 rfl rfl Try.sizeOf22 (by decide) rfl)) (ltn rfl) ?_
          refine wl_yes rfl rfl ?_
          refine wl_val (r_load (plain_of Try.underlying22 rfl) rfl (cell_of_blk (HD3).get.2 rfl)) (ltn rfl) ?_
          refine wl_yes rfl rfl ?_
          refine wl_eff (e_call (r_call rfl Try.func14 rfl rfl) (same_runes_ret _ _ _ _ _ (q2 _ (HD3.right.right)) (q4 _ (HD3.right.right)))) (ltn rfl) ?_
          rintro _ w4 ⟨rfl, hD4⟩
          have HD4 := HD3.drewn hD4
          refine wl_val (r_pick_t rfl rfl) (ltn rfl) ?_
          refine wl_val (r_assign rfl) (ltn rfl) ?_
          refine wl_nil ?_
          refine wq_seq ?_
          refine wc_ret ?_
          refine wq_end1 (.inl rfl) Try.results15 rfl ?_
          exact ⟨by simp_all, HD4.right.right⟩
      · (try simp only [beq_iff_eq, bne_iff_ne, ne_eq, decide_eq_true_eq, decide_eq_false_iff_not, beq_eq_false_iff_ne, bne_eq_false_iff_eq, Bool.not_eq_true', Bool.not_eq_false', Bool.not_eq_eq_eq_not, Bool.not_true, Bool.not_false, gt_iff_lt, ge_iff_le, Int.not_lt, Int.not_le] at h2)
        try (exfalso; first | contradiction | omega)
        all_goals
          refine wl_no rfl rfl rfl (ltn rfl) ?_
          refine wl_no rfl rfl rfl (ltn rfl) ?_
          refine wl_no rfl rfl rfl (ltn rfl) ?_
          refine wl_no rfl rfl rfl (ltn rfl) ?_
          refine wl_no rfl rfl rfl (ltn rfl) ?_
          refine wl_val (r_pick_f rfl rfl) (ltn rfl) ?_
          refine wl_val (r_assign rfl) (ltn rfl) ?_
          refine wl_nil ?_
          refine wq_seq ?_
          refine wc_ret ?_
          refine wq_end1 (.inl rfl) Try.results15 rfl ?_
          exact ⟨by simp_all, HD3.right.right⟩
  · (try simp only [beq_iff_eq, bne_iff_ne, ne_eq, decide_eq_true_eq, decide_eq_false_iff_not, beq_eq_false_iff_ne, bne_eq_false_iff_eq, Bool.not_eq_true', Bool.not_eq_false', Bool.not_eq_eq_eq_not, Bool.not_true, Bool.not_false, gt_iff_lt, ge_iff_le, Int.not_lt, Int.not_le] at h1)
    try (exfalso; first | contradiction | omega)
    all_goals
      refine wl_no rfl rfl rfl (ltn rfl) ?_
      refine wl_no rfl rfl rfl (ltn rfl) ?_
      refine wl_no rfl rfl rfl (ltn rfl) ?_
      refine wl_no rfl rfl rfl (ltn rfl) ?_
      refine wl_no rfl rfl rfl (ltn rfl) ?_
      refine wl_val (r_pick_f rfl rfl) (ltn rfl) ?_
      refine wl_val (r_move rfl) (ltn rfl) ?_
      refine wl_no rfl rfl rfl (ltn rfl) ?_
      refine wl_no rfl rfl rfl (ltn rfl) ?_
      refine wl_no rfl rfl rfl (ltn rfl) ?_
      refine wl_no rfl rfl rfl (ltn rfl) ?_
      refine wl_no rfl rfl rfl (ltn rfl) ?_
      refine wl_val (r_pick_f rfl rfl) (ltn rfl) ?_
      refine wl_val (r_assign rfl) (ltn rfl) ?_
      refine wl_nil ?_
      refine wq_seq ?_
      refine wc_ret ?_
      refine wq_end1 (.inl rfl) Try.results15 rfl ?_
      exact ⟨by simp_all, H2.right.right⟩
end
end Go.Proofs.Ytaabgcfeghcmnaa
