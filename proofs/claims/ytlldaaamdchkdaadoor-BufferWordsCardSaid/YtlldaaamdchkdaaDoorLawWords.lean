/- BufferWords, walked. -/
import Derived.Test.YtlldaaamdchkdaaDoorBLive
set_option linter.unusedSimpArgs false
set_option linter.unusedVariables false
namespace Go.Proofs.YtlldaaamdchkdaaDoor
open Go.RowKit
theorem withinM_in {n : Nat} {x : Int} (h : 0 ≤ x) (k : x ≤ n) : (withinM n x : Int) = x := by unfold withinM; omega
theorem withinM_low (n : Nat) {x : Int} (h : 0 ≤ x) : (withinM n x : Int) ≤ x := by unfold withinM; omega
theorem wordStart_le (l : List Int) (x : Int) : wordStartM l x ≤ withinM l.length x := by
  unfold wordStartM
  have := back_bd (fun r => !letterM r) l (withinM l.length x)
  have := back_bd letterM l (backM (fun r => !letterM r) l (withinM l.length x))
  omega
theorem wordEnd_bd (l : List Int) (x : Int) : withinM l.length x ≤ wordEndM l x ∧ wordEndM l x ≤ l.length := by
  unfold wordEndM
  have h1 := over_bd (fun r => !letterM r) l (withinM_le l.length x)
  have h2 := over_bd letterM l h1.2
  omega
theorem next_bd (l : List Int) (x : Int) : withinM l.length x ≤ nextM l x ∧ nextM l x ≤ l.length ∧ (withinM l.length x < l.length → withinM l.length x < nextM l x) := by
  unfold nextM
  have h0 := withinM_le l.length x
  split
  · have h1 := over_bd (fun r => !beginsM r) l (i := withinM l.length x + 1) (by omega)
    omega
  · omega
theorem prev_bd (l : List Int) (x : Int) : prevM l x ≤ withinM l.length x ∧ (0 < withinM l.length x → prevM l x < withinM l.length x) := by
  unfold prevM
  have := back_bd (fun r => !beginsM r) l (withinM l.length x)
  omega
attribute [local irreducible] wordStartM wordEndM nextM prevM withinM overM backM letterM
theorem buffer_words {w : World} {v : Value} {l : List Int} {x : Int} (hT : Tabs w) (g : RdI w .i32 v l) :
    Ret Tryd.prog 6 #[v, .int .i64 x] w fun v w' => v = .bool true ∧ Below w.heap.size w w' := by
  have H := Holds.start w
  obtain ⟨a1, c1, hv1, _, _, _⟩ := g.open
  subst hv1
  have f1 := wordStart_le l x
  have f2 := wordEnd_bd l x
  have f3 := next_bd l x
  have f4 := prev_bd l x
  have f5 := wordStart_le l (wordStartM l x)
  have f6 := wordEnd_bd l (wordEndM l x)
  have f7 := withinM_low l.length (x := (wordStartM l x : Int)) (by omega)
  have f8 := withinM_in (n := l.length) (x := (wordEndM l x : Int)) (by omega) (by omega)
  refine ret_enter Tryd.func6 rfl Tryd.ntmps6 (Nat.le_of_ble_eq_true rfl) ?_
  dsimp only [slots0, Nat.reduceAdd]
  refine wc_seq ?_
  refine wc_region ?_
  refine wl_val (r_assign rfl) (by decide) ?_
  refine wl_nil ?_
  refine wq_seq ?_
  refine wc_seq ?_
  refine wc_seq ?_
  refine wc_region ?_
  refine wl_val (r_move rfl) (by decide) ?_
  refine wl_val (r_lss rfl rfl) (by decide) ?_
  refine wl_split rfl (by decide) (fun h1 => ?_) (fun h1 => ?_)
  · (try simp only [beq_iff_eq, bne_iff_ne, ne_eq, decide_eq_true_eq, decide_eq_false_iff_not, beq_eq_false_iff_ne, bne_eq_false_iff_eq, Bool.not_eq_true', Bool.not_eq_false', Bool.not_eq_eq_eq_not, Bool.not_true, Bool.not_false, gt_iff_lt, ge_iff_le, Int.not_lt, Int.not_le] at h1)
    try (exfalso; first | contradiction | omega)
    all_goals
      refine wl_no rfl rfl rfl (by decide) ?_
      refine wl_no rfl rfl rfl (by decide) ?_
      refine wl_no rfl rfl rfl (by decide) ?_
      refine wl_no rfl rfl rfl (by decide) ?_
      refine wl_val (r_pick_t rfl rfl) (by decide) ?_
      refine wl_nil ?_
      refine wq_seq ?_
      refine wc_cond_t rfl ?_
      refine wc_seq ?_
      refine wc_region ?_
      refine wl_eff (e_call (r_call rfl Tryd.func12 rfl rfl) (live_ret H hT)) (by decide) ?_
      rintro _ w1 ⟨rfl, H1⟩
      refine wl_val (r_assign rfl) (by decide) ?_
      refine wl_nil ?_
      refine wq_seq ?_
      refine wc_ret ?_
      refine wq_then_ret ?_
      refine wq_end1 (.inl rfl) Tryd.results6 rfl ?_
      exact ⟨rfl, H1.base⟩
  · (try simp only [beq_iff_eq, bne_iff_ne, ne_eq, decide_eq_true_eq, decide_eq_false_iff_not, beq_eq_false_iff_ne, bne_eq_false_iff_eq, Bool.not_eq_true', Bool.not_eq_false', Bool.not_eq_eq_eq_not, Bool.not_true, Bool.not_false, gt_iff_lt, ge_iff_le, Int.not_lt, Int.not_le] at h1)
    try (exfalso; first | contradiction | omega)
    all_goals
      refine wl_yes rfl rfl ?_
      refine wl_val (r_move rfl) (by decide) ?_
      refine wl_yes rfl rfl ?_
      refine wl_val (r_move rfl) (by decide) ?_
      refine wl_yes rfl rfl ?_
      refine wl_val (r_len Tryd.underlying22 rfl) (by decide) ?_
      refine wl_yes rfl rfl ?_
      refine wl_val (r_gtr rfl rfl) (by decide) ?_
      refine wl_val (r_pick_f rfl rfl) (by decide) ?_
      refine wl_nil ?_
      refine wq_seq ?_
      refine wc_cond rfl (fun h2 => ?_) (fun h2 => ?_)
      · (try simp only [beq_iff_eq, bne_iff_ne, ne_eq, decide_eq_true_eq, decide_eq_false_iff_not, beq_eq_false_iff_ne, bne_eq_false_iff_eq, Bool.not_eq_true', Bool.not_eq_false', Bool.not_eq_eq_eq_not, Bool.not_true, Bool.not_false, gt_iff_lt, ge_iff_le, Int.not_lt, Int.not_le] at h2)
        try (exfalso; first | contradiction | omega)
        all_goals
          
          refine wc_seq ?_
          refine wc_region ?_
          refine wl_eff (e_call (r_call rfl Tryd.func12 rfl rfl) (live_ret H hT)) (by decide) ?_
          rintro _ w2 ⟨rfl, H2⟩
          refine wl_val (r_assign rfl) (by decide) ?_
          refine wl_nil ?_
          refine wq_seq ?_
          refine wc_ret ?_
          refine wq_then_ret ?_
          refine wq_end1 (.inl rfl) Tryd.results6 rfl ?_
          exact ⟨rfl, H2.base⟩
      · (try simp only [beq_iff_eq, bne_iff_ne, ne_eq, decide_eq_true_eq, decide_eq_false_iff_not, beq_eq_false_iff_ne, bne_eq_false_iff_eq, Bool.not_eq_true', Bool.not_eq_false', Bool.not_eq_eq_eq_not, Bool.not_true, Bool.not_false, gt_iff_lt, ge_iff_le, Int.not_lt, Int.not_le] at h2)
        try (exfalso; first | contradiction | omega)
        all_goals
          
          refine wc_skip ?_
          refine wq_seq ?_
          refine wc_seq ?_
          have f0 := withinM_in (n := l.length) (x := x) (by omega) (by omega)
          refine wc_region ?_
          refine wl_val (r_move rfl) (by decide) ?_
          refine wl_val (r_move rfl) (by decide) ?_
          refine wl_eff (e_call (r_call rfl Tryd.func27 rfl rfl) (word_start_ret H hT (FRdI.of_start g _))) (by decide) ?_
          rintro _ w3 ⟨rfl, H3⟩
          refine wl_val (r_move rfl) (by decide) ?_
          refine wl_val (r_move rfl) (by decide) ?_
          refine wl_eff (e_call (r_call rfl Tryd.func28 rfl rfl) (word_end_ret H3 hT (FRdI.of_start g _))) (by decide) ?_
          rintro _ w4 ⟨rfl, H4⟩
          refine wl_val (r_assign rfl) (by decide) ?_
          refine wl_val (r_assign rfl) (by decide) ?_
          refine wl_nil ?_
          refine wq_seq ?_
          refine wc_seq ?_
          refine wc_seq ?_
          refine wc_region ?_
          refine wl_val (r_move rfl) (by decide) ?_
          refine wl_val (r_lss rfl rfl) (by decide) ?_
          refine wl_split rfl (by decide) (fun h => by exfalso; (try simp only [beq_iff_eq, bne_iff_ne, ne_eq, decide_eq_true_eq, decide_eq_false_iff_not, beq_eq_false_iff_ne, bne_eq_false_iff_eq, Bool.not_eq_true', Bool.not_eq_false', Bool.not_eq_eq_eq_not, Bool.not_true, Bool.not_false, gt_iff_lt, ge_iff_le, Int.not_lt, Int.not_le] at h); first | contradiction | omega | (simp at h <;> omega)) (fun h3 => ?_)
          (try simp only [beq_iff_eq, bne_iff_ne, ne_eq, decide_eq_true_eq, decide_eq_false_iff_not, beq_eq_false_iff_ne, bne_eq_false_iff_eq, Bool.not_eq_true', Bool.not_eq_false', Bool.not_eq_eq_eq_not, Bool.not_true, Bool.not_false, gt_iff_lt, ge_iff_le, Int.not_lt, Int.not_le] at h3)
          refine wl_yes rfl rfl ?_
          refine wl_val (r_move rfl) (by decide) ?_
          refine wl_yes rfl rfl ?_
          refine wl_val (r_move rfl) (by decide) ?_
          refine wl_yes rfl rfl ?_
          refine wl_val (r_known_f (r_gtr rfl rfl) (by first | (rw [decide_eq_true_eq]; omega) | (rw [decide_eq_false_iff_not]; omega) | (rw [beq_iff_eq]; omega) | (rw [beq_eq_false_iff_ne]; omega) | (rw [bne_iff_ne]; omega) | (rw [bne_eq_false_iff_eq]; omega) | (simp; done) | (simp; omega))) (by decide) ?_
          refine wl_val (r_pick_f rfl rfl) (by decide) ?_
          refine wl_val (r_move rfl) (by decide) ?_
          refine wl_yes rfl rfl ?_
          refine wl_val (r_move rfl) (by decide) ?_
          refine wl_yes rfl rfl ?_
          refine wl_val (r_move rfl) (by decide) ?_
          refine wl_yes rfl rfl ?_
          refine wl_val (r_known_f (r_lss rfl rfl) (by first | (rw [decide_eq_true_eq]; omega) | (rw [decide_eq_false_iff_not]; omega) | (rw [beq_iff_eq]; omega) | (rw [beq_eq_false_iff_ne]; omega) | (rw [bne_iff_ne]; omega) | (rw [bne_eq_false_iff_eq]; omega) | (simp; done) | (simp; omega))) (by decide) ?_
          refine wl_val (r_pick_f rfl rfl) (by decide) ?_
          refine wl_val (r_move rfl) (by decide) ?_
          refine wl_yes rfl rfl ?_
          refine wl_val (r_move rfl) (by decide) ?_
          refine wl_yes rfl rfl ?_
          refine wl_val (r_move rfl) (by decide) ?_
          refine wl_yes rfl rfl ?_
          refine wl_val (r_len Tryd.underlying22 rfl) (by decide) ?_
          refine wl_yes rfl rfl ?_
          refine wl_val (r_known_f (r_gtr rfl rfl) (by first | (rw [decide_eq_true_eq]; omega) | (rw [decide_eq_false_iff_not]; omega) | (rw [beq_iff_eq]; omega) | (rw [beq_eq_false_iff_ne]; omega) | (rw [bne_iff_ne]; omega) | (rw [bne_eq_false_iff_eq]; omega) | (simp; done) | (simp; omega))) (by decide) ?_
          refine wl_val (r_pick_f rfl rfl) (by decide) ?_
          refine wl_val (r_move rfl) (by decide) ?_
          refine wl_yes rfl rfl ?_
          refine wl_val (r_move rfl) (by decide) ?_
          refine wl_yes rfl rfl ?_
          refine wl_val (r_move rfl) (by decide) ?_
          refine wl_yes rfl rfl ?_
          refine wl_eff (e_call (r_call rfl Tryd.func27 rfl rfl) (word_start_ret H4 hT (FRdI.of_start g _))) (by decide) ?_
          rintro _ w5 ⟨rfl, H5⟩
          refine wl_yes rfl rfl ?_
          refine wl_val (r_move rfl) (by decide) ?_
          refine wl_yes rfl rfl ?_
          refine wl_val (r_known_f (r_gtr rfl rfl) (by first | (rw [decide_eq_true_eq]; omega) | (rw [decide_eq_false_iff_not]; omega) | (rw [beq_iff_eq]; omega) | (rw [beq_eq_false_iff_ne]; omega) | (rw [bne_iff_ne]; omega) | (rw [bne_eq_false_iff_eq]; omega) | (simp; done) | (simp; omega))) (by decide) ?_
          refine wl_val (r_pick_f rfl rfl) (by decide) ?_
          refine wl_val (r_move rfl) (by decide) ?_
          refine wl_yes rfl rfl ?_
          refine wl_val (r_move rfl) (by decide) ?_
          refine wl_yes rfl rfl ?_
          refine wl_val (r_move rfl) (by decide) ?_
          refine wl_yes rfl rfl ?_
          refine wl_eff (e_call (r_call rfl Tryd.func28 rfl rfl) (word_end_ret H5 hT (FRdI.of_start g _))) (by decide) ?_
          rintro _ w6 ⟨rfl, H6⟩
          refine wl_yes rfl rfl ?_
          refine wl_val (r_move rfl) (by decide) ?_
          refine wl_yes rfl rfl ?_
          refine wl_val (r_known_f (r_lss rfl rfl) (by first | (rw [decide_eq_true_eq]; omega) | (rw [decide_eq_false_iff_not]; omega) | (rw [beq_iff_eq]; omega) | (rw [beq_eq_false_iff_ne]; omega) | (rw [bne_iff_ne]; omega) | (rw [bne_eq_false_iff_eq]; omega) | (simp; done) | (simp; omega))) (by decide) ?_
          refine wl_val (r_pick_f rfl rfl) (by decide) ?_
          refine wl_nil ?_
          refine wq_seq ?_
          refine wc_cond_f rfl ?_
          refine wc_skip ?_
          refine wq_seq ?_
          refine wc_seq ?_
          refine wc_region ?_
          refine wl_val (r_move rfl) (by decide) ?_
          refine wl_val (r_move rfl) (by decide) ?_
          refine wl_eff (e_call (r_call rfl Tryd.func29 rfl rfl) (next_ret H6 hT (FRdI.of_start g _))) (by decide) ?_
          rintro _ w7 ⟨rfl, H7⟩
          refine wl_val (r_move rfl) (by decide) ?_
          refine wl_val (r_move rfl) (by decide) ?_
          refine wl_eff (e_call (r_call rfl Tryd.func30 rfl rfl) (prev_ret H7 hT (FRdI.of_start g _))) (by decide) ?_
          rintro _ w8 ⟨rfl, H8⟩
          refine wl_val (r_assign rfl) (by decide) ?_
          refine wl_val (r_assign rfl) (by decide) ?_
          refine wl_nil ?_
          refine wq_seq ?_
          refine wc_seq ?_
          refine wc_region ?_
          refine wl_eff (e_call (r_call rfl Tryd.func12 rfl rfl) (live_ret H8 hT)) (by decide) ?_
          rintro _ w9 ⟨rfl, H9⟩
          refine wl_val (r_move rfl) (by decide) ?_
          refine wl_yes rfl rfl ?_
          refine wl_val (r_move rfl) (by decide) ?_
          refine wl_yes rfl rfl ?_
          refine wl_val (r_move rfl) (by decide) ?_
          refine wl_yes rfl rfl ?_
          refine wl_val (r_known_t (r_geq rfl rfl) (by first | (rw [decide_eq_true_eq]; omega) | (rw [decide_eq_false_iff_not]; omega) | (rw [beq_iff_eq]; omega) | (rw [beq_eq_false_iff_ne]; omega) | (rw [bne_iff_ne]; omega) | (rw [bne_eq_false_iff_eq]; omega) | (simp; done) | (simp; omega))) (by decide) ?_
          refine wl_val (r_pick_t rfl rfl) (by decide) ?_
          refine wl_val (r_move rfl) (by decide) ?_
          refine wl_yes rfl rfl ?_
          refine wl_val (r_move rfl) (by decide) ?_
          refine wl_yes rfl rfl ?_
          refine wl_val (r_move rfl) (by decide) ?_
          refine wl_yes rfl rfl ?_
          refine wl_val (r_len Tryd.underlying22 rfl) (by decide) ?_
          refine wl_yes rfl rfl ?_
          refine wl_val (r_known_t (r_leq rfl rfl) (by first | (rw [decide_eq_true_eq]; omega) | (rw [decide_eq_false_iff_not]; omega) | (rw [beq_iff_eq]; omega) | (rw [beq_eq_false_iff_ne]; omega) | (rw [bne_iff_ne]; omega) | (rw [bne_eq_false_iff_eq]; omega) | (simp; done) | (simp; omega))) (by decide) ?_
          refine wl_val (r_pick_t rfl rfl) (by decide) ?_
          refine wl_val (r_move rfl) (by decide) ?_
          refine wl_yes rfl rfl ?_
          refine wl_val (r_move rfl) (by decide) ?_
          refine wl_yes rfl rfl ?_
          refine wl_val (r_move rfl) (by decide) ?_
          refine wl_yes rfl rfl ?_
          refine wl_val (r_len Tryd.underlying22 rfl) (by decide) ?_
          refine wl_yes rfl rfl ?_
          refine wl_val (r_eql rfl rfl) (by decide) ?_
          refine wl_yes rfl rfl ?_
          refine wl_val (r_move rfl) (by decide) ?_
          refine wl_yes rfl rfl ?_
          refine wl_val (r_move rfl) (by decide) ?_
          refine wl_yes rfl rfl ?_
          refine wl_val (r_eql rfl rfl) (by decide) ?_
          refine wl_yes rfl rfl ?_
          refine wl_val (r_known_t (r_eql_bool Tryd.underlying4 rfl rfl) (by rw [beq_iff_eq, Bool.eq_iff_iff, beq_iff_eq, beq_iff_eq]; omega)) (by decide) ?_
          refine wl_val (r_pick_t rfl rfl) (by decide) ?_
          refine wl_val (r_move rfl) (by decide) ?_
          refine wl_yes rfl rfl ?_
          refine wl_val (r_move rfl) (by decide) ?_
          refine wl_yes rfl rfl ?_
          refine wl_val (r_known_t (r_geq rfl rfl) (by first | (rw [decide_eq_true_eq]; omega) | (rw [decide_eq_false_iff_not]; omega) | (rw [beq_iff_eq]; omega) | (rw [beq_eq_false_iff_ne]; omega) | (rw [bne_iff_ne]; omega) | (rw [bne_eq_false_iff_eq]; omega) | (simp; done) | (simp; omega))) (by decide) ?_
          refine wl_val (r_pick_t rfl rfl) (by decide) ?_
          refine wl_val (r_move rfl) (by decide) ?_
          refine wl_yes rfl rfl ?_
          refine wl_val (r_move rfl) (by decide) ?_
          refine wl_yes rfl rfl ?_
          refine wl_val (r_move rfl) (by decide) ?_
          refine wl_yes rfl rfl ?_
          refine wl_val (r_known_t (r_leq rfl rfl) (by first | (rw [decide_eq_true_eq]; omega) | (rw [decide_eq_false_iff_not]; omega) | (rw [beq_iff_eq]; omega) | (rw [beq_eq_false_iff_ne]; omega) | (rw [bne_iff_ne]; omega) | (rw [bne_eq_false_iff_eq]; omega) | (simp; done) | (simp; omega))) (by decide) ?_
          refine wl_val (r_pick_t rfl rfl) (by decide) ?_
          refine wl_val (r_move rfl) (by decide) ?_
          refine wl_yes rfl rfl ?_
          refine wl_val (r_move rfl) (by decide) ?_
          refine wl_yes rfl rfl ?_
          refine wl_val (r_eql rfl rfl) (by decide) ?_
          refine wl_yes rfl rfl ?_
          refine wl_val (r_move rfl) (by decide) ?_
          refine wl_yes rfl rfl ?_
          refine wl_val (r_move rfl) (by decide) ?_
          refine wl_yes rfl rfl ?_
          refine wl_val (r_eql rfl rfl) (by decide) ?_
          refine wl_yes rfl rfl ?_
          refine wl_val (r_known_t (r_eql_bool Tryd.underlying4 rfl rfl) (by rw [beq_iff_eq, Bool.eq_iff_iff, beq_iff_eq, beq_iff_eq]; omega)) (by decide) ?_
          refine wl_val (r_pick_t rfl rfl) (by decide) ?_
          refine wl_val (r_assign rfl) (by decide) ?_
          refine wl_nil ?_
          refine wq_seq ?_
          refine wc_ret ?_
          refine wq_end1 (.inl rfl) Tryd.results6 rfl ?_
          exact ⟨rfl, H9.base⟩
end Go.Proofs.YtlldaaamdchkdaaDoor
