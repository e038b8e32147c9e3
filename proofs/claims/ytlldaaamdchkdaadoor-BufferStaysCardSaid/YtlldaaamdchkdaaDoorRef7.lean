/- The document's buffer: New, Move, Replace, Line; a buffer's Move and Line. -/
import Derived.Test.YtlldaaamdchkdaaDoorApply
set_option linter.unusedSimpArgs false
set_option linter.unusedVariables false
namespace Go.Proofs.YtlldaaamdchkdaaDoor
open Go.RowKit
def refCells (v : Value) (pt mk : Int) : Array Value := #[v, .int .i64 pt, .int .i64 mk]
theorem ref_size {v : Value} {pt mk : Int} : (refCells v pt mk).size = 3 := rfl
theorem ref_set_l {v u : Value} {pt mk : Int} : (refCells v pt mk).setIfInBounds 0 u = refCells u pt mk := rfl
theorem ref_set_point {v : Value} {pt mk x : Int} : (refCells v pt mk).setIfInBounds 1 (.int .i64 x) = refCells v x mk := rfl
theorem ref_set_mark {v : Value} {pt mk x : Int} : (refCells v pt mk).setIfInBounds 2 (.int .i64 x) = refCells v pt x := rfl
theorem ref_ones {v : Value} {pt mk : Int} (h : v.oneCell' = true) : ∀ u ∈ (refCells v pt mk).toList, u.oneCell' = true := by
  intro u hu
  simp [refCells] at hu
  rcases hu with rfl | rfl | rfl <;> first | rfl | assumption
/-- The document's buffer at p. -/
def RefRep (p : Nat) (L : List Int) (pt mk : Int) : HP := exHP fun (v : Value) => fact (L.length ≤ 1024 ∧ (0 ≤ pt ∧ pt ≤ L.length) ∧ (-1 ≤ mk ∧ mk ≤ L.length)) • blk p (.cells (refCells v pt mk) 44 (0, 0)) • RowI 21 .i32 v L
section
variable {w0 w : World} {F : HP} {p : Nat} {L : List Int} {pt mk : Int} {v : Value} {l : List Int} {i j : Int}
theorem Holds.ref (H : Holds w0 w (RefRep p L pt mk • F)) : ∃ (a : Option Addr) (c : Nat), L.length ≤ 1024 ∧ (0 ≤ pt ∧ pt ≤ L.length) ∧ (-1 ≤ mk ∧ mk ≤ L.length) ∧ L.length ≤ c ∧ (c : Int) ≤ 9223372036854775807 ∧
    Holds w0 w (blk p (.cells (refCells (.slice a L.length c) pt mk) 44 (0, 0)) • RowI 21 .i32 (.slice a L.length c) L • F) := by
  obtain ⟨v, H⟩ := H.ex_sep
  obtain ⟨⟨h1, h2, h3⟩, H⟩ := H.flat.fact
  have H := H.flat
  obtain ⟨a, c, hv, hc1, hc2, _⟩ := (H.swap.row_rd).form
  subst hv
  exact ⟨a, c, h1, h2, h3, hc1, hc2, H⟩
theorem Holds.mk_ref (h1 : L.length ≤ 1024) (h2 : 0 ≤ pt ∧ pt ≤ L.length) (h3 : -1 ≤ mk ∧ mk ≤ L.length) (H : Holds w0 w (blk p (.cells (refCells v pt mk) 44 (0, 0)) • RowI 21 .i32 v L • F)) : Holds w0 w (RefRep p L pt mk • F) :=
  Holds.mk_ex_sep v (Holds.deep (Holds.mk_fact ⟨h1, h2, h3⟩ (Holds.deep H)))
theorem ref_new_long (H : Holds w0 w F) (hr : FRdI w0 F .i32 v l) (hl : 1024 < l.length) : Ret Tryd.prog 16 #[v] w fun v' w' => v' = .tuple #[.pointer none, .int .i64 3] ∧ w = w' := by
  obtain ⟨a, c, rfl, _, _, _⟩ := (hr w H).open
  refine ret_enter Tryd.func16 rfl Tryd.ntmps16 (Nat.le_of_ble_eq_true rfl) ?_
  dsimp only [slots0, Nat.reduceAdd]
  refine wc_seq ?_
  refine wc_region ?_
  refine wl_val (r_assign rfl) (ltn rfl) ?_
  refine wl_val (r_assign rfl) (ltn rfl) ?_
  refine wl_nil ?_
  refine wq_seq ?_
  refine wc_seq ?_
  refine wc_seq ?_
  refine wc_region ?_
  refine wl_val (r_move rfl) (ltn rfl) ?_
  refine wl_val (r_len Tryd.underlying22 rfl) (ltn rfl) ?_
  refine wl_val (r_gtr rfl rfl) (ltn rfl) ?_
  refine wl_nil ?_
  refine wq_seq ?_
  refine wc_cond rfl (fun h1 => ?_) (fun h => by exfalso; (try simp only [beq_iff_eq, bne_iff_ne, ne_eq, decide_eq_true_eq, decide_eq_false_iff_not, beq_eq_false_iff_ne, bne_eq_false_iff_eq, Bool.not_eq_true', Bool.not_eq_false', Bool.not_eq_eq_eq_not, Bool.not_true, Bool.not_false, gt_iff_lt, ge_iff_le, Int.not_lt, Int.not_le] at h); first | contradiction | omega | (simp at h <;> omega))
  (try simp only [beq_iff_eq, bne_iff_ne, ne_eq, decide_eq_true_eq, decide_eq_false_iff_not, beq_eq_false_iff_ne, bne_eq_false_iff_eq, Bool.not_eq_true', Bool.not_eq_false', Bool.not_eq_eq_eq_not, Bool.not_true, Bool.not_false, gt_iff_lt, ge_iff_le, Int.not_lt, Int.not_le] at h1)
  refine wc_seq ?_
  refine wc_region ?_
  refine wl_val (r_assign rfl) (ltn rfl) ?_
  refine wl_val (r_assign rfl) (ltn rfl) ?_
  refine wl_nil ?_
  refine wq_seq ?_
  refine wc_ret ?_
  refine wq_then_ret ?_
  refine wq_end2 (.inl rfl) Tryd.results16 rfl rfl ?_
  exact ⟨rfl, rfl⟩
theorem ref_new_ret (H : Holds w0 w F) (hr : FRdI w0 F .i32 v l) (hl : l.length ≤ 1024) : Ret Tryd.prog 16 #[v] w fun v' w' => ∃ p, v' = .tuple #[.pointer (some ⟨p, 0, none⟩), .int .i64 0] ∧ Holds w0 w' (RefRep p l l.length (-1) • F) := by
  obtain ⟨a, c, rfl, hc1, hc2, _⟩ := (hr w H).open
  refine ret_enter Tryd.func16 rfl Tryd.ntmps16 (Nat.le_of_ble_eq_true rfl) ?_
  dsimp only [slots0, Nat.reduceAdd]
  refine wc_seq ?_
  refine wc_region ?_
  refine wl_val (r_assign rfl) (ltn rfl) ?_
  refine wl_val (r_assign rfl) (ltn rfl) ?_
  refine wl_nil ?_
  refine wq_seq ?_
  refine wc_seq ?_
  refine wc_seq ?_
  refine wc_region ?_
  refine wl_val (r_move rfl) (ltn rfl) ?_
  refine wl_val (r_len Tryd.underlying22 rfl) (ltn rfl) ?_
  refine wl_val (r_gtr rfl rfl) (ltn rfl) ?_
  refine wl_nil ?_
  refine wq_seq ?_
  refine wc_cond rfl (fun h => by exfalso; (try simp only [beq_iff_eq, bne_iff_ne, ne_eq, decide_eq_true_eq, decide_eq_false_iff_not, beq_eq_false_iff_ne, bne_eq_false_iff_eq, Bool.not_eq_true', Bool.not_eq_false', Bool.not_eq_eq_eq_not, Bool.not_true, Bool.not_false, gt_iff_lt, ge_iff_le, Int.not_lt, Int.not_le] at h); first | contradiction | omega | (simp at h <;> omega)) (fun h1 => ?_)
  (try simp only [beq_iff_eq, bne_iff_ne, ne_eq, decide_eq_true_eq, decide_eq_false_iff_not, beq_eq_false_iff_ne, bne_eq_false_iff_eq, Bool.not_eq_true', Bool.not_eq_false', Bool.not_eq_eq_eq_not, Bool.not_true, Bool.not_false, gt_iff_lt, ge_iff_le, Int.not_lt, Int.not_le] at h1)
  refine wc_skip ?_
  refine wq_seq ?_
  refine wc_seq ?_
  refine wc_region ?_
  refine wl_val (r_assign rfl) (ltn rfl) ?_
  refine wl_nil ?_
  refine wq_seq ?_
  refine wc_seq ?_
  refine wc_region ?_
  refine wl_val (r_move rfl) (ltn rfl) ?_
  refine wl_val (r_move rfl) (ltn rfl) ?_
  refine wl_eff (e_append_ints (l := []) (H.row_nil none) (hr _ H) Tryd.underlying22 info_i32 rfl rfl (by simp only [List.length_nil]; omega) (by simp only [List.length_nil]; omega)) (ltn rfl) ?_
  rintro u w1 H1
  rw [List.nil_append] at H1
  obtain ⟨au, cu, hu, _⟩ := (H1.row_rd).form
  subst hu
  refine wl_val (r_assign rfl) (ltn rfl) ?_
  refine wl_nil ?_
  refine wq_seq ?_
  refine wc_seq ?_
  refine wc_region ?_
  refine wl_val (r_move rfl) (ltn rfl) ?_
  refine wl_val (r_move rfl) (ltn rfl) ?_
  refine wl_val (r_len Tryd.underlying22 rfl) (ltn rfl) ?_
  refine wl_val (r_build (pl := #[(0, 1), (1, 1), (2, 1)]) (refCells (.slice au l.length cu) l.length (-1)) Tryd.underlying44 Tryd.zeroValue44 (fun w => by kernel_rfl) rfl (by kernel_rfl)) (ltn rfl) ?_
  refine wl_eff (e_box H1 rfl) (ltn rfl) ?_
  rintro _ w2 ⟨b2, rfl, H2⟩
  refine wl_val (r_assign rfl) (ltn rfl) ?_
  refine wl_val (r_assign rfl) (ltn rfl) ?_
  refine wl_nil ?_
  refine wq_seq ?_
  refine wc_ret ?_
  refine wq_end2 (.inl rfl) Tryd.results16 rfl rfl ?_
  exact ⟨_, rfl, Holds.mk_ref hl (by omega) (by omega) H2⟩
theorem ref_place_ret {x : Int} {t : TypeId} {fr : Nat × Nat} {a : Option Addr} {n c : Nat} (hb : w.heap[p]? = some (.cells (refCells (.slice a n c) pt mk) t fr)) :
    Ret Tryd.prog 54 #[.pointer (some ⟨p, 0, none⟩), .int .i64 x] w fun v w' => v = .bool (decide (0 ≤ x ∧ x ≤ n)) ∧ w = w' := by
  refine ret_enter Tryd.func54 rfl Tryd.ntmps54 (Nat.le_of_ble_eq_true rfl) ?_
  dsimp only [slots0, Nat.reduceAdd]
  refine wc_seq ?_
  refine wc_region ?_
  refine wl_val (r_assign rfl) (ltn rfl) ?_
  refine wl_nil ?_
  refine wq_seq ?_
  refine wc_seq ?_
  refine wc_region ?_
  refine wl_val (r_move rfl) (ltn rfl) ?_
  refine wl_val (r_geq rfl rfl) (ltn rfl) ?_
  refine wl_split rfl (ltn rfl) (fun h1 => ?_) (fun h1 => ?_)
  · (try simp only [beq_iff_eq, bne_iff_ne, ne_eq, decide_eq_true_eq, decide_eq_false_iff_not, beq_eq_false_iff_ne, bne_eq_false_iff_eq, Bool.not_eq_true', Bool.not_eq_false', Bool.not_eq_eq_eq_not, Bool.not_true, Bool.not_false, gt_iff_lt, ge_iff_le, Int.not_lt, Int.not_le] at h1)
    try (exfalso; first | contradiction | omega)
    all_goals
      refine wl_yes rfl rfl ?_
      refine wl_val (r_move rfl) (ltn rfl) ?_
      refine wl_yes rfl rfl ?_
      refine wl_val (r_move rfl) (ltn rfl) ?_
      refine wl_yes rfl rfl ?_
      refine wl_val (r_nil rfl) (ltn rfl) ?_
      refine wl_yes rfl rfl ?_
      refine wl_val ((by first | exact r_field0 0 Tryd.underlying44 rfl rfl Tryd.sizeOf22 (by decide) rfl | exact r_field 0 Tryd.underlying44 rfl rfl Tryd.sizeOf22 (by decide) rfl)) (ltn rfl) ?_
      refine wl_yes rfl rfl ?_
      refine wl_val (r_load (plain_of Tryd.underlying22 rfl) rfl (cell_of_blk hb rfl)) (ltn rfl) ?_
      refine wl_yes rfl rfl ?_
      refine wl_val (r_len Tryd.underlying22 rfl) (ltn rfl) ?_
      refine wl_yes rfl rfl ?_
      refine wl_val (r_leq rfl rfl) (ltn rfl) ?_
      refine wl_val (r_pick_t rfl rfl) (ltn rfl) ?_
      refine wl_val (r_assign rfl) (ltn rfl) ?_
      refine wl_nil ?_
      refine wq_seq ?_
      refine wc_ret ?_
      refine wq_end1 (.inl rfl) Tryd.results54 rfl ?_
      refine ⟨?_, rfl⟩; congr 1; first | (symm; rw [decide_eq_true_eq]; omega) | (symm; rw [decide_eq_false_iff_not]; omega) | (rw [decide_eq_decide]; omega)
  · (try simp only [beq_iff_eq, bne_iff_ne, ne_eq, decide_eq_true_eq, decide_eq_false_iff_not, beq_eq_false_iff_ne, bne_eq_false_iff_eq, Bool.not_eq_true', Bool.not_eq_false', Bool.not_eq_eq_eq_not, Bool.not_true, Bool.not_false, gt_iff_lt, ge_iff_le, Int.not_lt, Int.not_le] at h1)
    try (exfalso; first | contradiction | omega)
    all_goals
      refine wl_no rfl rfl rfl (ltn rfl) ?_
      refine wl_no rfl rfl rfl (ltn rfl) ?_
      refine wl_no rfl rfl rfl (ltn rfl) ?_
      refine wl_no rfl rfl rfl (ltn rfl) ?_
      refine wl_no rfl rfl rfl (ltn rfl) ?_
      refine wl_no rfl rfl rfl (ltn rfl) ?_
      refine wl_no rfl rfl rfl (ltn rfl) ?_
      refine wl_val (r_pick_f rfl rfl) (ltn rfl) ?_
      refine wl_val (r_assign rfl) (ltn rfl) ?_
      refine wl_nil ?_
      refine wq_seq ?_
      refine wc_ret ?_
      refine wq_end1 (.inl rfl) Tryd.results54 rfl ?_
      refine ⟨?_, rfl⟩; congr 1; first | (symm; rw [decide_eq_true_eq]; omega) | (symm; rw [decide_eq_false_iff_not]; omega) | (rw [decide_eq_decide]; omega)
theorem ref_moved_ret {x a b n : Int} (hx : -1 ≤ x ∧ x ≤ 1024) (ha : 0 ≤ a ∧ a ≤ 1024) (hb : 0 ≤ b ∧ b ≤ 1024) (hn : 0 ≤ n ∧ n ≤ 140737488355328) : Ret Tryd.prog 55 #[.int .i64 x, .int .i64 a, .int .i64 b, .int .i64 n] w fun v w' => v = .int .i64 (if b < x then x + n - (b - a) else x) ∧ w = w' := by
  refine ret_enter Tryd.func55 rfl Tryd.ntmps55 (Nat.le_of_ble_eq_true rfl) ?_
  dsimp only [slots0, Nat.reduceAdd]
  refine wc_seq ?_
  refine wc_region ?_
  refine wl_val (r_assign rfl) (ltn rfl) ?_
  refine wl_nil ?_
  refine wq_seq ?_
  refine wc_seq ?_
  refine wc_seq ?_
  refine wc_region ?_
  refine wl_val (r_move rfl) (ltn rfl) ?_
  refine wl_val (r_move rfl) (ltn rfl) ?_
  refine wl_val (r_gtr rfl rfl) (ltn rfl) ?_
  refine wl_nil ?_
  refine wq_seq ?_
  refine wc_cond rfl (fun h1 => ?_) (fun h1 => ?_)
  · (try simp only [beq_iff_eq, bne_iff_ne, ne_eq, decide_eq_true_eq, decide_eq_false_iff_not, beq_eq_false_iff_ne, bne_eq_false_iff_eq, Bool.not_eq_true', Bool.not_eq_false', Bool.not_eq_eq_eq_not, Bool.not_true, Bool.not_false, gt_iff_lt, ge_iff_le, Int.not_lt, Int.not_le] at h1)
    try (exfalso; first | contradiction | omega)
    all_goals
      
      refine wc_seq ?_
      refine wc_region ?_
      refine wl_val (r_move rfl) (ltn rfl) ?_
      refine wl_val (r_move rfl) (ltn rfl) ?_
      refine wl_val (r_add rfl rfl (by omega)) (ltn rfl) ?_
      refine wl_val (r_move rfl) (ltn rfl) ?_
      refine wl_val (r_move rfl) (ltn rfl) ?_
      refine wl_val (r_sub rfl rfl (by omega)) (ltn rfl) ?_
      refine wl_val (r_sub rfl rfl (by omega)) (ltn rfl) ?_
      refine wl_val (r_assign rfl) (ltn rfl) ?_
      refine wl_nil ?_
      refine wq_seq ?_
      refine wc_ret ?_
      refine wq_then_ret ?_
      refine wq_end1 (.inl rfl) Tryd.results55 rfl ?_
      exact ⟨by rw [if_pos (by omega)], rfl⟩
  · (try simp only [beq_iff_eq, bne_iff_ne, ne_eq, decide_eq_true_eq, decide_eq_false_iff_not, beq_eq_false_iff_ne, bne_eq_false_iff_eq, Bool.not_eq_true', Bool.not_eq_false', Bool.not_eq_eq_eq_not, Bool.not_true, Bool.not_false, gt_iff_lt, ge_iff_le, Int.not_lt, Int.not_le] at h1)
    try (exfalso; first | contradiction | omega)
    all_goals
      
      refine wc_skip ?_
      refine wq_seq ?_
      refine wc_seq ?_
      refine wc_region ?_
      refine wl_val (r_move rfl) (ltn rfl) ?_
      refine wl_val (r_assign rfl) (ltn rfl) ?_
      refine wl_nil ?_
      refine wq_seq ?_
      refine wc_ret ?_
      refine wq_end1 (.inl rfl) Tryd.results55 rfl ?_
      exact ⟨by rw [if_neg (by omega)], rfl⟩
end
end Go.Proofs.YtlldaaamdchkdaaDoor
