/- The buffer's methods: what it is; none, Len, Point, Mark, Text, New. -/
import Derived.Test.YtlldaaamdchkdaaDoorSlices
import Derived.Test.YtlldaaamdchkdaaDoorMore
set_option linter.unusedSimpArgs false
set_option linter.unusedVariables false
namespace Go.Proofs.YtlldaaamdchkdaaDoor
open Go.RowKit

theorem cutV_one {s i j : Nat} {v : Value} (h : v.oneCell' = true) : (cutV s i j v).oneCell' = true := by cases v <;> simp_all [cutV, Value.oneCell']

/-- A buffer's cells: whether it is made, the runes with the gap, the gap's ends, point and mark. -/
def bufCells (v : Value) (f t pt mk : Int) : Array Value := #[.bool true, v, .int .i64 f, .int .i64 t, .int .i64 pt, .int .i64 mk]
theorem two_one {a b : Value} (h : a.oneCell' = true) (k : b.oneCell' = true) : ∀ u ∈ [a, b], u.oneCell' = true := by
  intro u hu; simp at hu; rcases hu with rfl | rfl
  · exact h
  · exact k
section
variable {v u : Value} {f t pt mk x : Int}
theorem buf_size : (bufCells v f t pt mk).size = 6 := rfl
theorem buf_set_l : (bufCells v f t pt mk).setIfInBounds 1 u = bufCells u f t pt mk := rfl
theorem buf_set_from : (bufCells v f t pt mk).setIfInBounds 2 (.int .i64 x) = bufCells v x t pt mk := rfl
theorem buf_set_to : (bufCells v f t pt mk).setIfInBounds 3 (.int .i64 x) = bufCells v f x pt mk := rfl
theorem buf_set_point : (bufCells v f t pt mk).setIfInBounds 4 (.int .i64 x) = bufCells v f t x mk := rfl
theorem buf_set_mark : (bufCells v f t pt mk).setIfInBounds 5 (.int .i64 x) = bufCells v f t pt x := rfl
end
/-- A buffer at p: its runes, its point, its mark. -/
def BufRep (p : Nat) (L : List Int) (pt mk : Int) : HP := exHP fun (x : Value × List Int × Nat × Nat) =>
  fact (x.2.2.1 ≤ x.2.2.2 ∧ x.2.2.2 ≤ x.2.1.length ∧ L = x.2.1.take x.2.2.1 ++ x.2.1.drop x.2.2.2 ∧ L.length ≤ 1024 ∧ x.2.1.length ≤ 4096 ∧ (0 ≤ pt ∧ pt ≤ L.length) ∧ (-1 ≤ mk ∧ mk ≤ L.length)) •
    blk p (.cells (bufCells x.1 x.2.2.1 x.2.2.2 pt mk) 67 (0, 0)) • RowI 21 .i32 x.1 x.2.1
section
variable {w0 w : World} {F : HP} {p : Nat} {L : List Int} {pt mk : Int}
theorem Holds.buf (H : Holds w0 w (BufRep p L pt mk • F)) : ∃ (a : Option Addr) (c : Nat) (xs : List Int) (f t : Nat), f ≤ t ∧ t ≤ xs.length ∧ L = xs.take f ++ xs.drop t ∧ L.length ≤ 1024 ∧ xs.length ≤ 4096 ∧ (0 ≤ pt ∧ pt ≤ L.length) ∧ (-1 ≤ mk ∧ mk ≤ L.length) ∧ xs.length ≤ c ∧ (c : Int) ≤ 9223372036854775807 ∧ L.length + t = xs.length + f ∧
    Holds w0 w (blk p (.cells (bufCells (.slice a xs.length c) f t pt mk) 67 (0, 0)) • RowI 21 .i32 (.slice a xs.length c) xs • F) := by
  obtain ⟨⟨v, xs, f, t⟩, H⟩ := H.ex_sep
  obtain ⟨⟨h1, h2, h3, h4, h5, h6, h7⟩, H⟩ := H.flat.fact
  have H := H.flat
  obtain ⟨a, c, hv, hc1, hc2, _⟩ := (H.swap.row_rd).form
  dsimp only at *
  subst hv
  refine ⟨a, c, xs, f, t, h1, h2, h3, h4, h5, h6, h7, hc1, hc2, ?_, H⟩
  rw [h3]; simp; omega
theorem Holds.mk_buf {v : Value} {xs : List Int} {f t : Nat} (h1 : f ≤ t) (h2 : t ≤ xs.length) (h3 : L = xs.take f ++ xs.drop t) (h4 : L.length ≤ 1024) (h5 : xs.length ≤ 4096) (h6 : 0 ≤ pt ∧ pt ≤ L.length) (h7 : -1 ≤ mk ∧ mk ≤ L.length)
    (H : Holds w0 w (blk p (.cells (bufCells v f t pt mk) 67 (0, 0)) • RowI 21 .i32 v xs • F)) : Holds w0 w (BufRep p L pt mk • F) :=
  Holds.mk_ex_sep (v, xs, f, t) (Holds.deep (Holds.mk_fact ⟨h1, h2, h3, h4, h5, h6, h7⟩ (Holds.deep H)))

theorem buf_none_ret (t : TypeId) {cs : Array Value} {fr : Nat × Nat} {m : Bool} (hb : w.heap[p]? = some (.cells cs t fr)) (h0 : cs[0]? = some (.bool m)) :
    Ret Tryd.prog 51 #[.pointer (some ⟨p, 0, none⟩)] w fun v w' => v = .bool (!m) ∧ w = w' := by
  refine ret_enter Tryd.func51 rfl Tryd.ntmps51 (Nat.le_of_ble_eq_true rfl) ?_
  dsimp only [slots0, Nat.reduceAdd]
  refine wc_seq ?_
  refine wc_region ?_
  refine wl_val (r_assign rfl) (ltn rfl) ?_
  refine wl_nil ?_
  refine wq_seq ?_
  refine wc_seq ?_
  refine wc_region ?_
  refine wl_val (r_move rfl) (ltn rfl) ?_
  refine wl_val (r_ptr_nil Tryd.underlying27 rfl rfl) (ltn rfl) ?_
  refine wl_split rfl (ltn rfl) (fun h => by exfalso; (try simp only [beq_iff_eq, bne_iff_ne, ne_eq, decide_eq_true_eq, decide_eq_false_iff_not, beq_eq_false_iff_ne, bne_eq_false_iff_eq, Bool.not_eq_true', Bool.not_eq_false', Bool.not_eq_eq_eq_not, Bool.not_true, Bool.not_false, gt_iff_lt, ge_iff_le, Int.not_lt, Int.not_le] at h); simp at h) (fun h1 => ?_)
  (try simp only [beq_iff_eq, bne_iff_ne, ne_eq, decide_eq_true_eq, decide_eq_false_iff_not, beq_eq_false_iff_ne, bne_eq_false_iff_eq, Bool.not_eq_true', Bool.not_eq_false', Bool.not_eq_eq_eq_not, Bool.not_true, Bool.not_false, gt_iff_lt, ge_iff_le, Int.not_lt, Int.not_le] at h1)
  refine wl_yes rfl rfl ?_
  refine wl_val (r_move rfl) (ltn rfl) ?_
  refine wl_yes rfl rfl ?_
  refine wl_val (r_nil rfl) (ltn rfl) ?_
  refine wl_yes rfl rfl ?_
  refine wl_val ((by first | exact r_field0 0 Tryd.underlying67 rfl rfl Tryd.sizeOf4 (by decide) rfl | exact r_field 0 Tryd.underlying67 rfl rfl Tryd.sizeOf4 (by decide) rfl)) (ltn rfl) ?_
  refine wl_yes rfl rfl ?_
  refine wl_val (r_load (plain_of Tryd.underlying4 rfl) rfl (cell_of_blk hb h0)) (ltn rfl) ?_
  refine wl_yes rfl rfl ?_
  refine wl_val (r_not rfl) (ltn rfl) ?_
  refine wl_val (r_pick_f rfl rfl) (ltn rfl) ?_
  refine wl_val (r_assign rfl) (ltn rfl) ?_
  refine wl_nil ?_
  refine wq_seq ?_
  refine wc_ret ?_
  refine wq_end1 (.inl rfl) Tryd.results51 rfl ?_
  exact ⟨rfl, rfl⟩
theorem buf_none_nil : Ret Tryd.prog 51 #[.pointer none] w fun v w' => v = .bool true ∧ w = w' := by
  refine ret_enter Tryd.func51 rfl Tryd.ntmps51 (Nat.le_of_ble_eq_true rfl) ?_
  dsimp only [slots0, Nat.reduceAdd]
  refine wc_seq ?_
  refine wc_region ?_
  refine wl_val (r_assign rfl) (ltn rfl) ?_
  refine wl_nil ?_
  refine wq_seq ?_
  refine wc_seq ?_
  refine wc_region ?_
  refine wl_val (r_move rfl) (ltn rfl) ?_
  refine wl_val (r_ptr_nil Tryd.underlying27 rfl rfl) (ltn rfl) ?_
  refine wl_split rfl (ltn rfl) (fun h1 => ?_) (fun h => by exfalso; (try simp only [beq_iff_eq, bne_iff_ne, ne_eq, decide_eq_true_eq, decide_eq_false_iff_not, beq_eq_false_iff_ne, bne_eq_false_iff_eq, Bool.not_eq_true', Bool.not_eq_false', Bool.not_eq_eq_eq_not, Bool.not_true, Bool.not_false, gt_iff_lt, ge_iff_le, Int.not_lt, Int.not_le] at h); simp at h)
  (try simp only [beq_iff_eq, bne_iff_ne, ne_eq, decide_eq_true_eq, decide_eq_false_iff_not, beq_eq_false_iff_ne, bne_eq_false_iff_eq, Bool.not_eq_true', Bool.not_eq_false', Bool.not_eq_eq_eq_not, Bool.not_true, Bool.not_false, gt_iff_lt, ge_iff_le, Int.not_lt, Int.not_le] at h1)
  refine wl_no rfl rfl rfl (ltn rfl) ?_
  refine wl_no rfl rfl rfl (ltn rfl) ?_
  refine wl_no rfl rfl rfl (ltn rfl) ?_
  refine wl_no rfl rfl rfl (ltn rfl) ?_
  refine wl_no rfl rfl rfl (ltn rfl) ?_
  refine wl_val (r_pick_t rfl rfl) (ltn rfl) ?_
  refine wl_val (r_assign rfl) (ltn rfl) ?_
  refine wl_nil ?_
  refine wq_seq ?_
  refine wc_ret ?_
  refine wq_end1 (.inl rfl) Tryd.results51 rfl ?_
  exact ⟨rfl, rfl⟩
theorem buf_len_ret (H : Holds w0 w (BufRep p L pt mk • F)) : Ret Tryd.prog 45 #[.pointer (some ⟨p, 0, none⟩)] w fun v w' => v = .int .i64 L.length ∧ Drew w w' := by
  obtain ⟨a, c, xs, f, t, h1, h2, h3, h4, h5, h6, h7, hc1, hc2, hl, H1⟩ := H.buf
  have hb := H1.get.2
  refine ret_enter Tryd.func45 rfl Tryd.ntmps45 (Nat.le_of_ble_eq_true rfl) ?_
  dsimp only [slots0, Nat.reduceAdd]
  refine wc_seq ?_
  refine wc_region ?_
  refine wl_val (r_assign rfl) (ltn rfl) ?_
  refine wl_nil ?_
  refine wq_seq ?_
  refine wc_seq ?_
  refine wc_seq ?_
  refine wc_region ?_
  refine wl_val (r_move rfl) (ltn rfl) ?_
  refine wl_eff (e_call (r_call rfl Tryd.func51 rfl rfl) (buf_none_ret _ hb rfl)) (ltn rfl) ?_
  rintro _ _ ⟨rfl, rfl⟩
  refine wl_nil ?_
  refine wq_seq ?_
  refine wc_cond_f rfl ?_
  refine wc_skip ?_
  refine wq_seq ?_
  refine wc_seq ?_
  refine wd_begin (n := 16) [0, 1, 2, 3, 4, 5, 6, 7, 8, 9, 10, 11, 12, 13, 14, 15] (fun W => W.heap = w.heap) (by kernel_rfl) (by kernel_rfl) rfl ?_
  have hS0 : (fun W => W.heap = w.heap) (w.drew) := rfl
  have H3d := H1.drew
  refine wd_takeT 0 rfl (by kernel_rfl) (by kernel_rfl) hS0 (fun _ => r_move rfl) (ltn rfl) ?_
  refine wd_takeT 1 rfl (by kernel_rfl) (by kernel_rfl) hS0 (fun _ => r_nil rfl) (ltn rfl) ?_
  refine wd_takeT 2 rfl (by kernel_rfl) (by kernel_rfl) hS0 (fun _ => (by first | exact r_field0 1 Tryd.underlying67 rfl rfl Tryd.sizeOf22 (by decide) rfl | exact r_field 1 Tryd.underlying67 rfl rfl Tryd.sizeOf22 (by decide) rfl)) (ltn rfl) ?_
  refine wd_take 3 rfl (by kernel_rfl) (by kernel_rfl) hS0 (by decide) (fun W hW => r_load (plain_of Tryd.underlying22 rfl) rfl (cell_of_blk (by rw [hW]; exact hb) rfl)) (ltn rfl) ?_
  refine wd_takeT 4 rfl (by kernel_rfl) (by kernel_rfl) hS0 (fun _ => r_len Tryd.underlying22 rfl) (ltn rfl) ?_
  refine wd_takeT 5 rfl (by kernel_rfl) (by kernel_rfl) hS0 (fun _ => r_move rfl) (ltn rfl) ?_
  refine wd_takeT 6 rfl (by kernel_rfl) (by kernel_rfl) hS0 (fun _ => r_nil rfl) (ltn rfl) ?_
  refine wd_takeT 7 rfl (by kernel_rfl) (by kernel_rfl) hS0 (fun _ => (by first | exact r_field0 3 Tryd.underlying67 rfl rfl Tryd.sizeOf3 (by decide) rfl | exact r_field 3 Tryd.underlying67 rfl rfl Tryd.sizeOf3 (by decide) rfl)) (ltn rfl) ?_
  refine wd_take 8 rfl (by kernel_rfl) (by kernel_rfl) hS0 (by decide) (fun W hW => r_load (plain_of Tryd.underlying3 rfl) rfl (cell_of_blk (by rw [hW]; exact hb) rfl)) (ltn rfl) ?_
  refine wd_takeT 9 rfl (by kernel_rfl) (by kernel_rfl) hS0 (fun _ => r_move rfl) (ltn rfl) ?_
  refine wd_takeT 10 rfl (by kernel_rfl) (by kernel_rfl) hS0 (fun _ => r_nil rfl) (ltn rfl) ?_
  refine wd_takeT 11 rfl (by kernel_rfl) (by kernel_rfl) hS0 (fun _ => (by first | exact r_field0 2 Tryd.underlying67 rfl rfl Tryd.sizeOf3 (by decide) rfl | exact r_field 2 Tryd.underlying67 rfl rfl Tryd.sizeOf3 (by decide) rfl)) (ltn rfl) ?_
  refine wd_take 12 rfl (by kernel_rfl) (by kernel_rfl) hS0 (by decide) (fun W hW => r_load (plain_of Tryd.underlying3 rfl) rfl (cell_of_blk (by rw [hW]; exact hb) rfl)) (ltn rfl) ?_
  refine wd_takeT 13 rfl (by kernel_rfl) (by kernel_rfl) hS0 (fun _ => r_sub rfl rfl (by omega)) (ltn rfl) ?_
  refine wd_takeT 14 rfl (by kernel_rfl) (by kernel_rfl) hS0 (fun _ => r_sub rfl rfl (by omega)) (ltn rfl) ?_
  refine wd_takeT 15 rfl (by kernel_rfl) (by kernel_rfl) hS0 (fun _ => r_assign rfl) (ltn rfl) ?_
  refine wd_done (by kernel_rfl) ?_
  refine wq_seq ?_
  refine wc_ret ?_
  refine wq_end1 (.inl rfl) Tryd.results45 rfl ?_
  exact ⟨by congr 1; omega, Drew.refl _ |>.drew⟩
theorem buf_point_ret (H : Holds w0 w (BufRep p L pt mk • F)) : Ret Tryd.prog 23 #[.pointer (some ⟨p, 0, none⟩)] w fun v w' => v = .int .i64 pt ∧ w = w' := by
  obtain ⟨a, c, xs, f, t, h1, h2, h3, h4, h5, h6, h7, hc1, hc2, hl, H1⟩ := H.buf
  have hb := H1.get.2
  refine ret_enter Tryd.func23 rfl Tryd.ntmps23 (Nat.le_of_ble_eq_true rfl) ?_
  dsimp only [slots0, Nat.reduceAdd]
  refine wc_seq ?_
  refine wc_region ?_
  refine wl_val (r_assign rfl) (ltn rfl) ?_
  refine wl_nil ?_
  refine wq_seq ?_
  refine wc_seq ?_
  refine wc_seq ?_
  refine wc_region ?_
  refine wl_val (r_move rfl) (ltn rfl) ?_
  refine wl_eff (e_call (r_call rfl Tryd.func51 rfl rfl) (buf_none_ret _ hb rfl)) (ltn rfl) ?_
  rintro _ _ ⟨rfl, rfl⟩
  refine wl_nil ?_
  refine wq_seq ?_
  refine wc_cond_f rfl ?_
  refine wc_skip ?_
  refine wq_seq ?_
  refine wc_seq ?_
  refine wc_region ?_
  refine wl_val (r_move rfl) (ltn rfl) ?_
  refine wl_val (r_nil rfl) (ltn rfl) ?_
  refine wl_val ((by first | exact r_field0 4 Tryd.underlying67 rfl rfl Tryd.sizeOf3 (by decide) rfl | exact r_field 4 Tryd.underlying67 rfl rfl Tryd.sizeOf3 (by decide) rfl)) (ltn rfl) ?_
  refine wl_val (r_load (plain_of Tryd.underlying3 rfl) rfl (cell_of_blk hb rfl)) (ltn rfl) ?_
  refine wl_val (r_assign rfl) (ltn rfl) ?_
  refine wl_nil ?_
  refine wq_seq ?_
  refine wc_ret ?_
  refine wq_end1 (.inl rfl) Tryd.results23 rfl ?_
  exact ⟨rfl, rfl⟩
theorem buf_mark_ret (H : Holds w0 w (BufRep p L pt mk • F)) : Ret Tryd.prog 46 #[.pointer (some ⟨p, 0, none⟩)] w fun v w' => v = .int .i64 mk ∧ w = w' := by
  obtain ⟨a, c, xs, f, t, h1, h2, h3, h4, h5, h6, h7, hc1, hc2, hl, H1⟩ := H.buf
  have hb := H1.get.2
  refine ret_enter Tryd.func46 rfl Tryd.ntmps46 (Nat.le_of_ble_eq_true rfl) ?_
  dsimp only [slots0, Nat.reduceAdd]
  refine wc_seq ?_
  refine wc_region ?_
  refine wl_val (r_assign rfl) (ltn rfl) ?_
  refine wl_nil ?_
  refine wq_seq ?_
  refine wc_seq ?_
  refine wc_seq ?_
  refine wc_region ?_
  refine wl_val (r_move rfl) (ltn rfl) ?_
  refine wl_eff (e_call (r_call rfl Tryd.func51 rfl rfl) (buf_none_ret _ hb rfl)) (ltn rfl) ?_
  rintro _ _ ⟨rfl, rfl⟩
  refine wl_nil ?_
  refine wq_seq ?_
  refine wc_cond_f rfl ?_
  refine wc_skip ?_
  refine wq_seq ?_
  refine wc_seq ?_
  refine wc_region ?_
  refine wl_val (r_move rfl) (ltn rfl) ?_
  refine wl_val (r_nil rfl) (ltn rfl) ?_
  refine wl_val ((by first | exact r_field0 5 Tryd.underlying67 rfl rfl Tryd.sizeOf3 (by decide) rfl | exact r_field 5 Tryd.underlying67 rfl rfl Tryd.sizeOf3 (by decide) rfl)) (ltn rfl) ?_
  refine wl_val (r_load (plain_of Tryd.underlying3 rfl) rfl (cell_of_blk hb rfl)) (ltn rfl) ?_
  refine wl_val (r_assign rfl) (ltn rfl) ?_
  refine wl_nil ?_
  refine wq_seq ?_
  refine wc_ret ?_
  refine wq_end1 (.inl rfl) Tryd.results46 rfl ?_
  exact ⟨rfl, rfl⟩
theorem buf_text_ret (H : Holds w0 w (BufRep p L pt mk • F)) : Ret Tryd.prog 15 #[.pointer (some ⟨p, 0, none⟩)] w fun v w' => Holds w0 w' (RowI 21 .i32 v L • BufRep p L pt mk • F) := by
  obtain ⟨a, c, xs, f, t, h1, h2, h3, h4, h5, h6, h7, hc1, hc2, hl, H1⟩ := H.buf
  have hb := H1.get.2
  refine ret_enter Tryd.func15 rfl Tryd.ntmps15 (Nat.le_of_ble_eq_true rfl) ?_
  dsimp only [slots0, Nat.reduceAdd]
  refine wc_seq ?_
  refine wc_region ?_
  refine wl_val (r_assign rfl) (ltn rfl) ?_
  refine wl_nil ?_
  refine wq_seq ?_
  refine wc_seq ?_
  refine wc_seq ?_
  refine wc_region ?_
  refine wl_val (r_move rfl) (ltn rfl) ?_
  refine wl_eff (e_call (r_call rfl Tryd.func51 rfl rfl) (buf_none_ret _ hb rfl)) (ltn rfl) ?_
  rintro _ _ ⟨rfl, rfl⟩
  refine wl_nil ?_
  refine wq_seq ?_
  refine wc_cond_f rfl ?_
  refine wc_skip ?_
  refine wq_seq ?_
  refine wc_seq ?_
  refine wd_begin (n := 21) [0, 1, 2, 3, 4, 5, 6, 7, 8, 9, 10, 11, 12, 13, 14, 15, 16, 17, 18, 19, 20] (fun W => W.heap[p]? = some (.cells (bufCells (.slice a xs.length c) f t pt mk) 67 (0, 0))) (by kernel_rfl) (by kernel_rfl) rfl ?_
  have hS0 : (fun W => W.heap[p]? = some (.cells (bufCells (.slice a xs.length c) f t pt mk) 67 (0, 0))) (w.drew) := hb
  have H3d := H1.drew
  refine wd_takeT 0 rfl (by kernel_rfl) (by kernel_rfl) hS0 (fun _ => r_move rfl) (ltn rfl) ?_
  refine wd_takeT 1 rfl (by kernel_rfl) (by kernel_rfl) hS0 (fun _ => r_nil rfl) (ltn rfl) ?_
  refine wd_takeT 2 rfl (by kernel_rfl) (by kernel_rfl) hS0 (fun _ => (by first | exact r_field0 1 Tryd.underlying67 rfl rfl Tryd.sizeOf22 (by decide) rfl | exact r_field 1 Tryd.underlying67 rfl rfl Tryd.sizeOf22 (by decide) rfl)) (ltn rfl) ?_
  refine wd_take 3 rfl (by kernel_rfl) (by kernel_rfl) hS0 (by decide) (fun W hW => r_load (plain_of Tryd.underlying22 rfl) rfl (cell_of_blk hW rfl)) (ltn rfl) ?_
  refine wd_takeT 4 rfl (by kernel_rfl) (by kernel_rfl) hS0 (fun _ => r_move rfl) (ltn rfl) ?_
  refine wd_takeT 5 rfl (by kernel_rfl) (by kernel_rfl) hS0 (fun _ => r_nil rfl) (ltn rfl) ?_
  refine wd_takeT 6 rfl (by kernel_rfl) (by kernel_rfl) hS0 (fun _ => (by first | exact r_field0 2 Tryd.underlying67 rfl rfl Tryd.sizeOf3 (by decide) rfl | exact r_field 2 Tryd.underlying67 rfl rfl Tryd.sizeOf3 (by decide) rfl)) (ltn rfl) ?_
  refine wd_take 7 rfl (by kernel_rfl) (by kernel_rfl) hS0 (by decide) (fun W hW => r_load (plain_of Tryd.underlying3 rfl) rfl (cell_of_blk hW rfl)) (ltn rfl) ?_
  refine wd_takeT 8 rfl (by kernel_rfl) (by kernel_rfl) hS0 (fun _ => r_slice Tryd.underlying22 Tryd.sizeOf21 rfl rfl rfl (by omega)) (ltn rfl) ?_
  refine wd_takeT 9 rfl (by kernel_rfl) (by kernel_rfl) hS0 (fun _ => r_move rfl) (ltn rfl) ?_
  refine wd_takeT 10 rfl (by kernel_rfl) (by kernel_rfl) hS0 (fun _ => r_nil rfl) (ltn rfl) ?_
  refine wd_takeT 11 rfl (by kernel_rfl) (by kernel_rfl) hS0 (fun _ => (by first | exact r_field0 1 Tryd.underlying67 rfl rfl Tryd.sizeOf22 (by decide) rfl | exact r_field 1 Tryd.underlying67 rfl rfl Tryd.sizeOf22 (by decide) rfl)) (ltn rfl) ?_
  refine wd_take 12 rfl (by kernel_rfl) (by kernel_rfl) hS0 (by decide) (fun W hW => r_load (plain_of Tryd.underlying22 rfl) rfl (cell_of_blk hW rfl)) (ltn rfl) ?_
  refine wd_takeT 13 rfl (by kernel_rfl) (by kernel_rfl) hS0 (fun _ => r_move rfl) (ltn rfl) ?_
  refine wd_takeT 14 rfl (by kernel_rfl) (by kernel_rfl) hS0 (fun _ => r_nil rfl) (ltn rfl) ?_
  refine wd_takeT 15 rfl (by kernel_rfl) (by kernel_rfl) hS0 (fun _ => (by first | exact r_field0 3 Tryd.underlying67 rfl rfl Tryd.sizeOf3 (by decide) rfl | exact r_field 3 Tryd.underlying67 rfl rfl Tryd.sizeOf3 (by decide) rfl)) (ltn rfl) ?_
  refine wd_take 16 rfl (by kernel_rfl) (by kernel_rfl) hS0 (by decide) (fun W hW => r_load (plain_of Tryd.underlying3 rfl) rfl (cell_of_blk hW rfl)) (ltn rfl) ?_
  refine wd_takeT 17 rfl (by kernel_rfl) (by kernel_rfl) hS0 (fun _ => r_slice Tryd.underlying22 Tryd.sizeOf21 rfl rfl rfl (by omega)) (ltn rfl) ?_
  refine wd_eff 18 rfl (by kernel_rfl) (e_lit (vs := [cutV 1 0 f (.slice a xs.length c), cutV 1 t xs.length (.slice a xs.length c)]) H3d Tryd.underlying79 Tryd.sizeOf22 Tryd.zeroValue22 rfl rfl rfl (by decide) (two_one (cutV_one rfl) (cutV_one rfl))) (ltn rfl) ?_
  rintro _ w2 ⟨b2, rfl, H2⟩
  have hS2 : (fun W => W.heap[p]? = some (.cells (bufCells (.slice a xs.length c) f t pt mk) 67 (0, 0))) w2 := H2.swap.get.2
  refine keepS hS2 ?_
  refine wd_eff 19 rfl (by kernel_rfl) (e_call (r_call rfl Tryd.func53 rfl rfl) (concat2_ret (l1 := xs.take f) (l2 := xs.drop t) H2 (fun W HW => RdI.upto HW.rot.row_rd (by omega)) (fun W HW => RdI.from HW.rot.row_rd (by omega)) (by simp; omega))) (ltn rfl) ?_
  rintro u w3 H3
  have hS3 : (fun W => W.heap[p]? = some (.cells (bufCells (.slice a xs.length c) f t pt mk) 67 (0, 0))) w3 := H3.rot.get.2
  refine keepS hS3 ?_
  refine wd_takeT 20 rfl (by kernel_rfl) (by kernel_rfl) hS3 (fun _ => r_assign rfl) (ltn rfl) ?_
  refine wd_done (by kernel_rfl) ?_
  refine wq_seq ?_
  refine wc_ret ?_
  refine wq_end1 (.inl rfl) Tryd.results15 rfl ?_
  rw [← h3] at H3
  exact (Holds.mk_buf h1 h2 h3 h4 h5 h6 h7 H3.swap.right.d3).swap
theorem buf_new_long {v : Value} {l : List Int} (H : Holds w0 w F) (hr : FRdI w0 F .i32 v l) (hl : 1024 < l.length) : Ret Tryd.prog 11 #[v] w fun v' w' => v' = .tuple #[.pointer none, .int .i64 3] ∧ w = w' := by
  obtain ⟨a, c, rfl, _, _, _⟩ := (hr w H).open
  refine ret_enter Tryd.func11 rfl Tryd.ntmps11 (Nat.le_of_ble_eq_true rfl) ?_
  dsimp only [slots0, Nat.reduceAdd]
  refine wc_seq ?_
  refine wc_region ?_
  refine wl_val (r_assign rfl) (ltn rfl) ?_
  refine wl_val (r_assign rfl) (ltn rfl) ?_
  refine wl_nil ?_
  refine wq_seq ?_
  refine wc_seq ?_
  refine wc_seq ?_
  refine wc_region ?_
  refine wl_val (r_move rfl) (ltn rfl) ?_
  refine wl_val (r_len Tryd.underlying22 rfl) (ltn rfl) ?_
  refine wl_val (r_gtr rfl rfl) (ltn rfl) ?_
  refine wl_nil ?_
  refine wq_seq ?_
  refine wc_cond rfl (fun h1 => ?_) (fun h => by exfalso; (try simp only [beq_iff_eq, bne_iff_ne, ne_eq, decide_eq_true_eq, decide_eq_false_iff_not, beq_eq_false_iff_ne, bne_eq_false_iff_eq, Bool.not_eq_true', Bool.not_eq_false', Bool.not_eq_eq_eq_not, Bool.not_true, Bool.not_false, gt_iff_lt, ge_iff_le, Int.not_lt, Int.not_le] at h); first | contradiction | omega | (simp at h <;> omega))
  (try simp only [beq_iff_eq, bne_iff_ne, ne_eq, decide_eq_true_eq, decide_eq_false_iff_not, beq_eq_false_iff_ne, bne_eq_false_iff_eq, Bool.not_eq_true', Bool.not_eq_false', Bool.not_eq_eq_eq_not, Bool.not_true, Bool.not_false, gt_iff_lt, ge_iff_le, Int.not_lt, Int.not_le] at h1)
  refine wc_seq ?_
  refine wc_region ?_
  refine wl_val (r_assign rfl) (ltn rfl) ?_
  refine wl_val (r_assign rfl) (ltn rfl) ?_
  refine wl_nil ?_
  refine wq_seq ?_
  refine wc_ret ?_
  refine wq_then_ret ?_
  refine wq_end2 (.inl rfl) Tryd.results11 rfl rfl ?_
  exact ⟨rfl, rfl⟩
theorem buf_new_ret {v : Value} {l : List Int} (H : Holds w0 w F) (hr : FRdI w0 F .i32 v l) (hl : l.length ≤ 1024) : Ret Tryd.prog 11 #[v] w fun v' w' => ∃ p, v' = .tuple #[.pointer (some ⟨p, 0, none⟩), .int .i64 0] ∧ Holds w0 w' (BufRep p l l.length (-1) • F) := by
  obtain ⟨a, c, rfl, _, _, _⟩ := (hr w H).open
  refine ret_enter Tryd.func11 rfl Tryd.ntmps11 (Nat.le_of_ble_eq_true rfl) ?_
  dsimp only [slots0, Nat.reduceAdd]
  refine wc_seq ?_
  refine wc_region ?_
  refine wl_val (r_assign rfl) (ltn rfl) ?_
  refine wl_val (r_assign rfl) (ltn rfl) ?_
  refine wl_nil ?_
  refine wq_seq ?_
  refine wc_seq ?_
  refine wc_seq ?_
  refine wc_region ?_
  refine wl_val (r_move rfl) (ltn rfl) ?_
  refine wl_val (r_len Tryd.underlying22 rfl) (ltn rfl) ?_
  refine wl_val (r_gtr rfl rfl) (ltn rfl) ?_
  refine wl_nil ?_
  refine wq_seq ?_
  refine wc_cond rfl (fun h => by exfalso; (try simp only [beq_iff_eq, bne_iff_ne, ne_eq, decide_eq_true_eq, decide_eq_false_iff_not, beq_eq_false_iff_ne, bne_eq_false_iff_eq, Bool.not_eq_true', Bool.not_eq_false', Bool.not_eq_eq_eq_not, Bool.not_true, Bool.not_false, gt_iff_lt, ge_iff_le, Int.not_lt, Int.not_le] at h); first | contradiction | omega | (simp at h <;> omega)) (fun h1 => ?_)
  (try simp only [beq_iff_eq, bne_iff_ne, ne_eq, decide_eq_true_eq, decide_eq_false_iff_not, beq_eq_false_iff_ne, bne_eq_false_iff_eq, Bool.not_eq_true', Bool.not_eq_false', Bool.not_eq_eq_eq_not, Bool.not_true, Bool.not_false, gt_iff_lt, ge_iff_le, Int.not_lt, Int.not_le] at h1)
  refine wc_skip ?_
  refine wq_seq ?_
  refine wc_seq ?_
  refine wc_region ?_
  refine wl_val (r_move rfl) (ltn rfl) ?_
  refine wl_eff (e_call (r_call rfl Tryd.func49 rfl rfl) (clone_ret H hr (by omega))) (ltn rfl) ?_
  rintro u w1 H1
  obtain ⟨au, cu, hu, _⟩ := (H1.row_rd).form
  subst hu
  refine wl_val (r_move rfl) (ltn rfl) ?_
  refine wl_val (r_len Tryd.underlying22 rfl) (ltn rfl) ?_
  refine wl_val (r_build (pl := #[(0, 1), (1, 1), (2, 1), (3, 1), (4, 1), (5, 1)]) (bufCells (.slice au l.length cu) 0 0 l.length (-1)) Tryd.underlying67 Tryd.zeroValue67 (fun w => by kernel_rfl) rfl (by kernel_rfl)) (ltn rfl) ?_
  refine wl_eff (e_box H1 rfl) (ltn rfl) ?_
  rintro _ w2 ⟨b2, rfl, H2⟩
  refine wl_val (r_assign rfl) (ltn rfl) ?_
  refine wl_nil ?_
  refine wq_seq ?_
  refine wc_seq ?_
  have HB : Holds w0 w2 (blk b2 (.cells (bufCells (.slice au l.length cu) 0 0 l.length (-1)) 67 (0, 0)) • RowI 21 .i32 (.slice au l.length cu) l • F) := H2
  refine wc_region ?_
  refine wl_val (r_move rfl) (ltn rfl) ?_
  refine wl_val (r_move rfl) (ltn rfl) ?_
  refine wl_val (r_move rfl) (ltn rfl) ?_
  refine wl_val (r_len Tryd.underlying22 rfl) (ltn rfl) ?_
  refine wl_val (r_move rfl) (ltn rfl) ?_
  refine wl_val (r_len Tryd.underlying22 rfl) (ltn rfl) ?_
  refine wl_val (r_nil rfl) (ltn rfl) ?_
  refine wl_val ((by first | exact r_field0 2 Tryd.underlying67 rfl rfl Tryd.sizeOf3 (by decide) rfl | exact r_field 2 Tryd.underlying67 rfl rfl Tryd.sizeOf3 (by decide) rfl)) (ltn rfl) ?_
  refine wl_eff0 (e_store HB Tryd.sizeOf3 rfl rfl rfl (by rw [buf_size]; decide)) ?_
  rintro _ w3 HB1
  rw [buf_set_from] at HB1
  refine wl_val (r_nil rfl) (ltn rfl) ?_
  refine wl_val ((by first | exact r_field0 3 Tryd.underlying67 rfl rfl Tryd.sizeOf3 (by decide) rfl | exact r_field 3 Tryd.underlying67 rfl rfl Tryd.sizeOf3 (by decide) rfl)) (ltn rfl) ?_
  refine wl_eff0 (e_store HB1 Tryd.sizeOf3 rfl rfl rfl (by rw [buf_size]; decide)) ?_
  rintro _ w4 HB2
  rw [buf_set_to] at HB2
  refine wl_nil ?_
  refine wq_seq ?_
  refine wc_seq ?_
  refine wc_region ?_
  refine wl_val (r_move rfl) (ltn rfl) ?_
  refine wl_val (r_assign rfl) (ltn rfl) ?_
  refine wl_val (r_assign rfl) (ltn rfl) ?_
  refine wl_nil ?_
  refine wq_seq ?_
  refine wc_ret ?_
  refine wq_end2 (.inl rfl) Tryd.results11 rfl rfl ?_
  exact ⟨_, rfl, Holds.mk_buf (f := l.length) (t := l.length) (Nat.le_refl _) (Nat.le_refl _) (by simp) hl (by omega) (by omega) (by omega) HB2⟩
end
end Go.Proofs.YtlldaaamdchkdaaDoor
