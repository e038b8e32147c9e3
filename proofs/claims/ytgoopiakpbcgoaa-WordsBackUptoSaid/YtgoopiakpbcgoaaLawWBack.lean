/- WordsBack, walked. -/
import Derived.Test.YtgoopiakpbcgoaaShBegun
import Derived.Test.YtgoopiakpbcgoaaShQ
set_option linter.unusedSimpArgs false
set_option linter.unusedVariables false
namespace Go.Proofs.Ytgoopiakpbcgoaa
open Go.RowKit Go.Lib
theorem enc_rn {f : Int → List Int} {t : List Int} (h : Rn32 t) (hf : ∀ r, (-2147483648 ≤ r ∧ r < 2147483648) → Rn32 (f r)) : Rn32 (t.flatMap f) := fun x hx => by
  obtain ⟨r, hr, hx⟩ := List.mem_flatMap.1 hx
  exact hf r (h r hr) x hx
theorem quoteL_rn {st : Int} {t : List Int} (h : Rn32 t) : Rn32 (quoteL st t) := fun x hx => by
  have h1 : Rn32 (t.flatMap enc1) := enc_rn h fun r hr y hy => by unfold enc1 at hy; split at hy <;> simp at hy <;> omega
  have h2 : Rn32 (t.flatMap enc2) := enc_rn h fun r hr y hy => by unfold enc2 at hy; split at hy <;> simp at hy <;> omega
  have h3 : Rn32 (t.flatMap enc3) := enc_rn h fun r hr y hy => by unfold enc3 at hy; split at hy <;> simp at hy <;> omega
  unfold quoteL at hx
  split at hx
  · rcases List.mem_append.1 hx with hx | hx
    · rcases List.mem_cons.1 hx with rfl | hx
      · omega
      · exact h1 x hx
    · simp at hx; omega
  · split at hx
    · rcases List.mem_append.1 hx with hx | hx
      · rcases List.mem_cons.1 hx with rfl | hx
        · omega
        · exact h2 x hx
      · simp at hx; omega
    · split at hx
      · simp at hx; omega
      · exact h3 x hx
theorem quoteE_cases (st : Int) (l : List Int) : (quoteE st l = 1 ∧ (st < 1 ∨ 3 < st)) ∨ (quoteE st l = 3 ∧ 1 ≤ st ∧ st ≤ 3 ∧ 254 < l.length) ∨ (quoteE st l = 0 ∧ 1 ≤ st ∧ st ≤ 3 ∧ (quoteL st l).length ≤ 1024) := by
  have h := quoteL_len st l
  unfold quoteE
  by_cases h1 : st < 1 ∨ 3 < st
  · rw [if_pos h1]; exact .inl ⟨rfl, h1⟩
  · rw [if_neg h1]
    by_cases h2 : 1024 < (quoteL st l).length
    · rw [if_pos h2]; exact .inr (.inl ⟨rfl, by omega, by omega, by omega⟩)
    · rw [if_neg h2]; exact .inr (.inr ⟨rfl, by omega, by omega, by omega⟩)
theorem words_back {w : World} {v : Value} {l : List Int} {st : Int} (g : RdI w .i32 v l) (hl : Rn32 l) (hL : l.length ≤ 1073741824) : Ret Try.prog 5 #[v, .int .i64 st] w fun v w' => v = .bool true ∧ Below w.heap.size w w' := by
  obtain ⟨F, H⟩ : ∃ F, Holds w w F := ⟨_, Holds.start w⟩
  have hv : FRdI w F .i32 v l := FRdI.of_start g F
  have hE := quoteE_cases st l
  have hrq := quoteL_rn (st := st) hl
  obtain ⟨q1, q2, q3, q4⟩ := quote_law st l
  have hop : openS (quoteL st l) = 0 := by rw [openS_run, q3]; rfl
  refine ret_enter Try.func5 rfl Try.ntmps5 (Nat.le_of_ble_eq_true rfl) ?_
  dsimp only [slots0, Nat.reduceAdd]
  refine wc_seq ?_
  refine wc_region ?_
  refine wl_val (r_assign rfl) (ltn rfl) ?_
  refine wl_nil ?_
  refine wq_seq ?_
  refine wc_seq ?_
  refine wc_seq ?_
  refine wc_region ?_
  refine wl_eff (e_call (r_call rfl Try.func8 rfl rfl) (sh_begun_ret H)) (ltn rfl) ?_
  rintro _ w1 ⟨rfl, H1⟩
  refine wl_val (r_not rfl) (ltn rfl) ?_
  refine wl_nil ?_
  refine wq_seq ?_
  refine wc_cond rfl (fun h => by exfalso; (try simp only [beq_iff_eq, bne_iff_ne, ne_eq, decide_eq_true_eq, decide_eq_false_iff_not, beq_eq_false_iff_ne, bne_eq_false_iff_eq, Bool.not_eq_true', Bool.not_eq_false', Bool.not_eq_eq_eq_not, Bool.not_true, Bool.not_false, gt_iff_lt, ge_iff_le, Int.not_lt, Int.not_le] at h); simp at h) (fun h1 => ?_)
  (try simp only [beq_iff_eq, bne_iff_ne, ne_eq, decide_eq_true_eq, decide_eq_false_iff_not, beq_eq_false_iff_ne, bne_eq_false_iff_eq, Bool.not_eq_true', Bool.not_eq_false', Bool.not_eq_eq_eq_not, Bool.not_true, Bool.not_false, gt_iff_lt, ge_iff_le, Int.not_lt, Int.not_le] at h1)
  refine wc_skip ?_
  refine wq_seq ?_
  refine wc_seq ?_
  refine wc_region ?_
  refine wl_val (r_move rfl) (ltn rfl) ?_
  refine wl_val (r_move rfl) (ltn rfl) ?_
  refine wl_eff (e_call (r_call rfl Try.func16 rfl rfl) (sh_quote_ret H1 (fun W HW => hv _ (HW)) (by assumption) (by omega))) (ltn rfl) ?_
  rintro _ w2 ⟨u2, rfl, H2⟩
  refine wl_val (r_move rfl) (ltn rfl) ?_
  refine wl_val (r_extract rfl rfl) (ltn rfl) ?_
  refine wl_val (r_extract rfl rfl) (ltn rfl) ?_
  refine wl_val (r_assign rfl) (ltn rfl) ?_
  refine wl_val (r_assign rfl) (ltn rfl) ?_
  refine wl_nil ?_
  refine wq_seq ?_
  refine wc_seq ?_
  refine wc_seq ?_
  refine wc_region ?_
  refine wl_val (r_move rfl) (ltn rfl) ?_
  refine wl_val (r_neq rfl rfl) (ltn rfl) ?_
  refine wl_nil ?_
  refine wq_seq ?_
  refine wc_cond rfl (fun h2 => ?_) (fun h2 => ?_)
  · (try simp only [beq_iff_eq, bne_iff_ne, ne_eq, decide_eq_true_eq, decide_eq_false_iff_not, beq_eq_false_iff_ne, bne_eq_false_iff_eq, Bool.not_eq_true', Bool.not_eq_false', Bool.not_eq_eq_eq_not, Bool.not_true, Bool.not_false, gt_iff_lt, ge_iff_le, Int.not_lt, Int.not_le] at h2)
    
    refine wc_seq ?_
    refine wc_region ?_
    refine wl_val (r_move rfl) (ltn rfl) ?_
    refine wl_val (r_eql rfl rfl) (ltn rfl) ?_
    refine wl_split rfl (ltn rfl) (fun h3 => ?_) (fun h3 => ?_)
    · (try simp only [beq_iff_eq, bne_iff_ne, ne_eq, decide_eq_true_eq, decide_eq_false_iff_not, beq_eq_false_iff_ne, bne_eq_false_iff_eq, Bool.not_eq_true', Bool.not_eq_false', Bool.not_eq_eq_eq_not, Bool.not_true, Bool.not_false, gt_iff_lt, ge_iff_le, Int.not_lt, Int.not_le] at h3)
      refine wl_yes rfl rfl ?_
      refine wl_val (r_move rfl) (ltn rfl) ?_
      refine wl_yes rfl rfl ?_
      refine wl_val (r_lss rfl rfl) (ltn rfl) ?_
      refine wl_yes rfl rfl ?_
      refine wl_split rfl (ltn rfl) (fun h4 => ?_) (fun h4 => ?_)
      · (try simp only [beq_iff_eq, bne_iff_ne, ne_eq, decide_eq_true_eq, decide_eq_false_iff_not, beq_eq_false_iff_ne, bne_eq_false_iff_eq, Bool.not_eq_true', Bool.not_eq_false', Bool.not_eq_eq_eq_not, Bool.not_true, Bool.not_false, gt_iff_lt, ge_iff_le, Int.not_lt, Int.not_le] at h4)
        refine wl_no rfl rfl rfl (ltn rfl) ?_
        refine wl_no rfl rfl rfl (ltn rfl) ?_
        refine wl_yes rfl rfl ?_
        refine wl_val (r_pick_t rfl rfl) (ltn rfl) ?_
        refine wl_val (r_pick_t rfl rfl) (ltn rfl) ?_
        refine wl_val (r_move rfl) (ltn rfl) ?_
        refine wl_no rfl rfl rfl (ltn rfl) ?_
        refine wl_no rfl rfl rfl (ltn rfl) ?_
        refine wl_no rfl rfl rfl (ltn rfl) ?_
        refine wl_nou rfl rfl (ltn rfl) ?_
        refine wl_nou rfl rfl (ltn rfl) ?_
        refine wl_nou rfl rfl (ltn rfl) ?_
        refine wl_no rfl rfl rfl (ltn rfl) ?_
        refine wl_val (r_pick_t rfl rfl) (ltn rfl) ?_
        refine wl_val (r_assign rfl) (ltn rfl) ?_
        refine wl_nil ?_
        refine wq_seq ?_
        refine wc_ret ?_
        refine wq_then_ret ?_
        refine wq_end1 (.inl rfl) Try.results5 rfl ?_
        first | exact ⟨rfl, H2.base⟩ | exact ⟨by rw [decide_eq_true (by omega)], H2.base⟩ | (exfalso; omega)
      · (try simp only [beq_iff_eq, bne_iff_ne, ne_eq, decide_eq_true_eq, decide_eq_false_iff_not, beq_eq_false_iff_ne, bne_eq_false_iff_eq, Bool.not_eq_true', Bool.not_eq_false', Bool.not_eq_eq_eq_not, Bool.not_true, Bool.not_false, gt_iff_lt, ge_iff_le, Int.not_lt, Int.not_le] at h4)
        refine wl_yes rfl rfl ?_
        refine wl_val (r_move rfl) (ltn rfl) ?_
        refine wl_yes rfl rfl ?_
        refine wl_val (r_gtr rfl rfl) (ltn rfl) ?_
        refine wl_yes rfl rfl ?_
        refine wl_val (r_pick_f rfl rfl) (ltn rfl) ?_
        refine wl_val (r_pick_t rfl rfl) (ltn rfl) ?_
        refine wl_split rfl (ltn rfl) (fun h5 => ?_) (fun h5 => ?_)
        · (try simp only [beq_iff_eq, bne_iff_ne, ne_eq, decide_eq_true_eq, decide_eq_false_iff_not, beq_eq_false_iff_ne, bne_eq_false_iff_eq, Bool.not_eq_true', Bool.not_eq_false', Bool.not_eq_eq_eq_not, Bool.not_true, Bool.not_false, gt_iff_lt, ge_iff_le, Int.not_lt, Int.not_le] at h5)
          refine wl_no rfl rfl rfl (ltn rfl) ?_
          refine wl_no rfl rfl rfl (ltn rfl) ?_
          refine wl_no rfl rfl rfl (ltn rfl) ?_
          refine wl_nou rfl rfl (ltn rfl) ?_
          refine wl_nou rfl rfl (ltn rfl) ?_
          refine wl_nou rfl rfl (ltn rfl) ?_
          refine wl_no rfl rfl rfl (ltn rfl) ?_
          refine wl_val (r_pick_t rfl rfl) (ltn rfl) ?_
          refine wl_val (r_assign rfl) (ltn rfl) ?_
          refine wl_nil ?_
          refine wq_seq ?_
          refine wc_ret ?_
          refine wq_then_ret ?_
          refine wq_end1 (.inl rfl) Try.results5 rfl ?_
          first | exact ⟨rfl, H2.base⟩ | exact ⟨by rw [decide_eq_true (by omega)], H2.base⟩ | (exfalso; omega)
        · (try simp only [beq_iff_eq, bne_iff_ne, ne_eq, decide_eq_true_eq, decide_eq_false_iff_not, beq_eq_false_iff_ne, bne_eq_false_iff_eq, Bool.not_eq_true', Bool.not_eq_false', Bool.not_eq_eq_eq_not, Bool.not_true, Bool.not_false, gt_iff_lt, ge_iff_le, Int.not_lt, Int.not_le] at h5)
          refine wl_yes rfl rfl ?_
          refine wl_val (r_move rfl) (ltn rfl) ?_
          refine wl_yes rfl rfl ?_
          refine wl_val (r_eql rfl rfl) (ltn rfl) ?_
          refine wl_yes rfl rfl ?_
          refine wl_split rfl (ltn rfl) (fun h6 => ?_) (fun h6 => ?_)
          · (try simp only [beq_iff_eq, bne_iff_ne, ne_eq, decide_eq_true_eq, decide_eq_false_iff_not, beq_eq_false_iff_ne, bne_eq_false_iff_eq, Bool.not_eq_true', Bool.not_eq_false', Bool.not_eq_eq_eq_not, Bool.not_true, Bool.not_false, gt_iff_lt, ge_iff_le, Int.not_lt, Int.not_le] at h6)
            refine wl_yes rfl rfl ?_
            refine wl_val (r_move rfl) (ltn rfl) ?_
            refine wl_yes rfl rfl ?_
            refine wl_val (r_lenR (hv _ (H2.right)) Try.underlying22 rfl) (ltn rfl) ?_
            refine wl_yes rfl rfl ?_
            refine wl_val (r_gtr rfl rfl) (ltn rfl) ?_
            refine wl_yes rfl rfl ?_
            refine wl_val (r_pick_t rfl rfl) (ltn rfl) ?_
            refine wl_val (r_pick_f rfl rfl) (ltn rfl) ?_
            refine wl_val (r_assign rfl) (ltn rfl) ?_
            refine wl_nil ?_
            refine wq_seq ?_
            refine wc_ret ?_
            refine wq_then_ret ?_
            refine wq_end1 (.inl rfl) Try.results5 rfl ?_
            first | exact ⟨rfl, H2.base⟩ | exact ⟨by rw [decide_eq_true (by omega)], H2.base⟩ | (exfalso; omega)
          · (try simp only [beq_iff_eq, bne_iff_ne, ne_eq, decide_eq_true_eq, decide_eq_false_iff_not, beq_eq_false_iff_ne, bne_eq_false_iff_eq, Bool.not_eq_true', Bool.not_eq_false', Bool.not_eq_eq_eq_not, Bool.not_true, Bool.not_false, gt_iff_lt, ge_iff_le, Int.not_lt, Int.not_le] at h6)
            refine wl_no rfl rfl rfl (ltn rfl) ?_
            refine wl_no rfl rfl rfl (ltn rfl) ?_
            refine wl_no rfl rfl rfl (ltn rfl) ?_
            refine wl_yes rfl rfl ?_
            refine wl_val (r_pick_f rfl rfl) (ltn rfl) ?_
            refine wl_val (r_pick_f rfl rfl) (ltn rfl) ?_
            refine wl_val (r_assign rfl) (ltn rfl) ?_
            refine wl_nil ?_
            refine wq_seq ?_
            refine wc_ret ?_
            refine wq_then_ret ?_
            refine wq_end1 (.inl rfl) Try.results5 rfl ?_
            first | exact ⟨rfl, H2.base⟩ | exact ⟨by rw [decide_eq_true (by omega)], H2.base⟩ | (exfalso; omega)
    · (try simp only [beq_iff_eq, bne_iff_ne, ne_eq, decide_eq_true_eq, decide_eq_false_iff_not, beq_eq_false_iff_ne, bne_eq_false_iff_eq, Bool.not_eq_true', Bool.not_eq_false', Bool.not_eq_eq_eq_not, Bool.not_true, Bool.not_false, gt_iff_lt, ge_iff_le, Int.not_lt, Int.not_le] at h3)
      refine wl_no rfl rfl rfl (ltn rfl) ?_
      refine wl_no rfl rfl rfl (ltn rfl) ?_
      refine wl_no rfl rfl rfl (ltn rfl) ?_
      refine wl_nou rfl rfl (ltn rfl) ?_
      refine wl_nou rfl rfl (ltn rfl) ?_
      refine wl_no rfl rfl rfl (ltn rfl) ?_
      refine wl_val (r_pick_f rfl rfl) (ltn rfl) ?_
      refine wl_val (r_move rfl) (ltn rfl) ?_
      refine wl_yes rfl rfl ?_
      refine wl_val (r_move rfl) (ltn rfl) ?_
      refine wl_yes rfl rfl ?_
      refine wl_val (r_eql rfl rfl) (ltn rfl) ?_
      refine wl_yes rfl rfl ?_
      refine wl_split rfl (ltn rfl) (fun h7 => ?_) (fun h7 => ?_)
      · (try simp only [beq_iff_eq, bne_iff_ne, ne_eq, decide_eq_true_eq, decide_eq_false_iff_not, beq_eq_false_iff_ne, bne_eq_false_iff_eq, Bool.not_eq_true', Bool.not_eq_false', Bool.not_eq_eq_eq_not, Bool.not_true, Bool.not_false, gt_iff_lt, ge_iff_le, Int.not_lt, Int.not_le] at h7)
        refine wl_yes rfl rfl ?_
        refine wl_val (r_move rfl) (ltn rfl) ?_
        refine wl_yes rfl rfl ?_
        refine wl_val (r_lenR (hv _ (H2.right)) Try.underlying22 rfl) (ltn rfl) ?_
        refine wl_yes rfl rfl ?_
        refine wl_val (r_gtr rfl rfl) (ltn rfl) ?_
        refine wl_yes rfl rfl ?_
        refine wl_val (r_pick_t rfl rfl) (ltn rfl) ?_
        refine wl_val (r_pick_f rfl rfl) (ltn rfl) ?_
        refine wl_val (r_assign rfl) (ltn rfl) ?_
        refine wl_nil ?_
        refine wq_seq ?_
        refine wc_ret ?_
        refine wq_then_ret ?_
        refine wq_end1 (.inl rfl) Try.results5 rfl ?_
        first | exact ⟨rfl, H2.base⟩ | exact ⟨by rw [decide_eq_true (by omega)], H2.base⟩ | (exfalso; omega)
      · (try simp only [beq_iff_eq, bne_iff_ne, ne_eq, decide_eq_true_eq, decide_eq_false_iff_not, beq_eq_false_iff_ne, bne_eq_false_iff_eq, Bool.not_eq_true', Bool.not_eq_false', Bool.not_eq_eq_eq_not, Bool.not_true, Bool.not_false, gt_iff_lt, ge_iff_le, Int.not_lt, Int.not_le] at h7)
        refine wl_no rfl rfl rfl (ltn rfl) ?_
        refine wl_no rfl rfl rfl (ltn rfl) ?_
        refine wl_no rfl rfl rfl (ltn rfl) ?_
        refine wl_yes rfl rfl ?_
        refine wl_val (r_pick_f rfl rfl) (ltn rfl) ?_
        refine wl_val (r_pick_f rfl rfl) (ltn rfl) ?_
        refine wl_val (r_assign rfl) (ltn rfl) ?_
        refine wl_nil ?_
        refine wq_seq ?_
        refine wc_ret ?_
        refine wq_then_ret ?_
        refine wq_end1 (.inl rfl) Try.results5 rfl ?_
        first | exact ⟨rfl, H2.base⟩ | exact ⟨by rw [decide_eq_true (by omega)], H2.base⟩ | (exfalso; omega)
  · (try simp only [beq_iff_eq, bne_iff_ne, ne_eq, decide_eq_true_eq, decide_eq_false_iff_not, beq_eq_false_iff_ne, bne_eq_false_iff_eq, Bool.not_eq_true', Bool.not_eq_false', Bool.not_eq_eq_eq_not, Bool.not_true, Bool.not_false, gt_iff_lt, ge_iff_le, Int.not_lt, Int.not_le] at h2)
    
    refine wc_skip ?_
    refine wq_seq ?_
    refine wc_seq ?_
    have h0 : quoteE st l = 0 := by omega
    have hlq : (quoteL st l).length ≤ 1024 := by omega
    rw [show quoteR st l = quoteL st l from by unfold quoteR; rw [if_pos h0]] at H2
    refine wc_region ?_
    refine wl_val (r_move rfl) (ltn rfl) ?_
    refine wl_eff (e_call (r_call rfl Try.func9 rfl rfl) (sh_words_ret H2 (fun W HW => (HW).row_rd) hrq (by omega))) (ltn rfl) ?_
    rintro u3 w3 H3
    rw [words_good q1 q2] at H3
    refine wl_val (r_assign rfl) (ltn rfl) ?_
    refine wl_nil ?_
    refine wq_seq ?_
    refine wc_seq ?_
    refine wc_region ?_
    refine wl_val (r_move rfl) (ltn rfl) ?_
    refine wl_val (r_lenS ((H3).row_rd) Try.underlying24 rfl) (ltn rfl) ?_
    refine wl_val (r_eql rfl rfl) (ltn rfl) ?_
    refine wl_split rfl (ltn rfl) (fun h8 => ?_) (fun h => by exfalso; (try simp only [beq_iff_eq, bne_iff_ne, ne_eq, decide_eq_true_eq, decide_eq_false_iff_not, beq_eq_false_iff_ne, bne_eq_false_iff_eq, Bool.not_eq_true', Bool.not_eq_false', Bool.not_eq_eq_eq_not, Bool.not_true, Bool.not_false, gt_iff_lt, ge_iff_le, Int.not_lt, Int.not_le] at h); simp at h)
    (try simp only [beq_iff_eq, bne_iff_ne, ne_eq, decide_eq_true_eq, decide_eq_false_iff_not, beq_eq_false_iff_ne, bne_eq_false_iff_eq, Bool.not_eq_true', Bool.not_eq_false', Bool.not_eq_eq_eq_not, Bool.not_true, Bool.not_false, gt_iff_lt, ge_iff_le, Int.not_lt, Int.not_le] at h8)
    refine wl_yes rfl rfl ?_
    refine wl_val (r_move rfl) (ltn rfl) ?_
    refine wl_yes rfl rfl ?_
    obtain ⟨bu3, ou3, cu3, eu3⟩ := Rd.posV ((H3).row_rd) (by omega)
    cases eu3
    refine wl_val (r_index Try.underlying24 Try.sizeOf27 rfl rfl (by omega)) (ltn rfl) ?_
    refine wl_yes rfl rfl ?_
    refine wl_val (r_load_elem (k := 0) (ys := [.int .i64 0, .int .i64 0, .int .i64 ((quoteL st l).length : Nat)]) (H3.row_rd) Nat.zero_lt_one Try.underlying27 rfl Try.sizeOf27 rfl rfl rfl) (ltn rfl) ?_
    refine wl_yes rfl rfl ?_
    refine wl_val (r_move rfl) (ltn rfl) ?_
    refine wl_yes rfl rfl ?_
    refine wl_val (r_lenR ((H3.f2).row_rd) Try.underlying22 rfl) (ltn rfl) ?_
    refine wl_yes rfl rfl ?_
    refine wl_val (r_build (pl := #[(0, 1), (1, 1), (2, 1)]) (_) Try.underlying27 Try.zeroValue27 (fun w => by kernel_rfl) rfl (rfl)) (ltn rfl) ?_
    refine wl_yes rfl rfl ?_
    refine wl_val (r_wd_eql (c := (0, 0, (quoteL st l).length)) (d := (0, 0, (quoteL st l).length)) rfl rfl) (ltn rfl) ?_
    refine wl_val (r_pick_t rfl rfl) (ltn rfl) ?_
    refine wl_split rfl (ltn rfl) (fun h9 => ?_) (fun h => by exfalso; (try simp only [beq_iff_eq, bne_iff_ne, ne_eq, decide_eq_true_eq, decide_eq_false_iff_not, beq_eq_false_iff_ne, bne_eq_false_iff_eq, Bool.not_eq_true', Bool.not_eq_false', Bool.not_eq_eq_eq_not, Bool.not_true, Bool.not_false, gt_iff_lt, ge_iff_le, Int.not_lt, Int.not_le] at h); simp at h)
    (try simp only [beq_iff_eq, bne_iff_ne, ne_eq, decide_eq_true_eq, decide_eq_false_iff_not, beq_eq_false_iff_ne, bne_eq_false_iff_eq, Bool.not_eq_true', Bool.not_eq_false', Bool.not_eq_eq_eq_not, Bool.not_true, Bool.not_false, gt_iff_lt, ge_iff_le, Int.not_lt, Int.not_le] at h9)
    refine wl_yes rfl rfl ?_
    refine wl_val (r_move rfl) (ltn rfl) ?_
    refine wl_yes rfl rfl ?_
    refine wl_eff (e_call (r_call rfl Try.func17 rfl rfl) (sh_strip_ret H3 (fun W HW => (HW.f2).row_rd) (by omega))) (ltn rfl) ?_
    rintro u4 w4 H4
    rw [q4] at H4
    refine wl_yes rfl rfl ?_
    refine wl_val (r_move rfl) (ltn rfl) ?_
    refine wl_yes rfl rfl ?_
    refine wl_eff (e_call (r_call rfl Try.func14 rfl rfl) (same_runes_any H4 (fun W HW => (HW).row_rd) (fun W HW => hv _ (HW.right.right.right)))) (ltn rfl) ?_
    rintro _ w5 ⟨rfl, H5⟩
    refine wl_val (r_pick_t rfl rfl) (ltn rfl) ?_
    refine wl_split rfl (ltn rfl) (fun h10 => ?_) (fun h => by exfalso; (try simp only [beq_iff_eq, bne_iff_ne, ne_eq, decide_eq_true_eq, decide_eq_false_iff_not, beq_eq_false_iff_ne, bne_eq_false_iff_eq, Bool.not_eq_true', Bool.not_eq_false', Bool.not_eq_eq_eq_not, Bool.not_true, Bool.not_false, gt_iff_lt, ge_iff_le, Int.not_lt, Int.not_le] at h); simp at h)
    (try simp only [beq_iff_eq, bne_iff_ne, ne_eq, decide_eq_true_eq, decide_eq_false_iff_not, beq_eq_false_iff_ne, bne_eq_false_iff_eq, Bool.not_eq_true', Bool.not_eq_false', Bool.not_eq_eq_eq_not, Bool.not_true, Bool.not_false, gt_iff_lt, ge_iff_le, Int.not_lt, Int.not_le] at h10)
    refine wl_yes rfl rfl ?_
    refine wl_val (r_move rfl) (ltn rfl) ?_
    refine wl_yes rfl rfl ?_
    refine wl_eff (e_call (r_call rfl Try.func18 rfl rfl) (sh_open_ret H5 (fun W HW => (HW.f3).row_rd) (by omega))) (ltn rfl) ?_
    rintro _ w6 ⟨rfl, H6⟩
    rw [hop]
    refine wl_yes rfl rfl ?_
    refine wl_val (r_known_t (r_eql rfl rfl) (by rfl)) (ltn rfl) ?_
    refine wl_val (r_pick_t rfl rfl) (ltn rfl) ?_
    refine wl_val (r_assign rfl) (ltn rfl) ?_
    refine wl_nil ?_
    refine wq_seq ?_
    refine wc_ret ?_
    refine wq_end1 (.inl rfl) Try.results5 rfl ?_
    exact ⟨rfl, H6.base⟩
end Go.Proofs.Ytgoopiakpbcgoaa
