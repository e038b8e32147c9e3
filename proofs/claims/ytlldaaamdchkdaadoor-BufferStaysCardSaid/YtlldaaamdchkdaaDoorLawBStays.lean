/- BufferStays, walked. -/
import Derived.Test.YtlldaaamdchkdaaDoorLawBDoes
set_option linter.unusedSimpArgs false
set_option linter.unusedVariables false
namespace Go.Proofs.YtlldaaamdchkdaaDoor
open Go.RowKit
theorem repl_same {L : List Int} {pt mk i j : Int} {l : List Int} (h : replE L i j l ≠ 0) : replL L i j l = L ∧ replP L pt i j l = pt ∧ replM L mk i j l = mk := by
  simp only [replL, replP, replM, if_neg h, true_and]
theorem app_same {L : List Int} {pt mk a : Int} {dl il : List Int} (h : appE L a dl il ≠ 0) : appL L a dl il = L ∧ appP L pt a dl il = pt ∧ appM L mk a dl il = mk := by
  simp only [appL, appP, appM, if_neg h, true_and]
theorem sm_same {L : List Int} {pt mk x : Int} (h : smE L x ≠ 0) : L = L ∧ pt = pt ∧ smM L mk x = mk := by
  unfold smE at h; unfold smM; split at h <;> simp_all
theorem sw_same {L : List Int} {pt mk : Int} (h : swE mk ≠ 0) : L = L ∧ swP pt mk = pt ∧ swM pt mk = mk := by
  unfold swE at h; unfold swP swM; split at h <;> simp_all
theorem mv_same {L : List Int} {n : Nat} {pt mk x : Int} (h : mvE n x ≠ 0) : L = L ∧ mvP n pt x = pt ∧ mk = mk := by
  unfold mvE at h; unfold mvP
  have h' : ¬ (0 ≤ x ∧ x ≤ n) := fun c => h (by rw [if_pos c])
  exact ⟨rfl, by rw [if_neg h'], rfl⟩
theorem buffer_stays {w : World} {v lv : Value} {l : List Int} {ops : List BOp} (hT : Tabs w) (g1 : RdI w .i32 lv l) (g2 : Rd w 7 v ops.length (ops.flatMap BOp.enc)) (g3 : ∀ k, k < ops.length → (ops.getD k default).Reads w) :
    Ret Tryd.prog 8 #[lv, v] w fun v w' => v = .bool true ∧ Below w.heap.size w w' := by
  obtain ⟨F, H⟩ : ∃ F, Holds w w F := ⟨_, Holds.start w⟩
  have hl : FRdI w F .i32 lv l := FRdI.of_start g1 F
  have hv : FRd w F 7 v ops.length (ops.flatMap BOp.enc) := FRd.of_start g2 F
  have hbl : (ops.length : Int) ≤ 9223372036854775807 := by obtain ⟨_, a, c, _, h1, h2, _⟩ := g2; omega
  rcases Nat.lt_or_ge 1024 l.length with hlong | hshort
  · skip
    refine ret_enter Tryd.func8 rfl Tryd.ntmps8 (Nat.le_of_ble_eq_true rfl) ?_
    dsimp only [slots0, Nat.reduceAdd]
    refine wc_seq ?_
    refine wc_region ?_
    refine wl_val (r_assign rfl) (ltn rfl) ?_
    refine wl_nil ?_
    refine wq_seq ?_
    refine wc_seq ?_
    refine wc_region ?_
    refine wl_val (r_move rfl) (ltn rfl) ?_
    refine wl_eff (e_call (r_call rfl Tryd.func11 rfl rfl) (buf_new_long H (fun W HW => hl _ (HW)) hlong)) (ltn rfl) ?_
    rintro _ _ ⟨rfl, rfl⟩
    refine wl_val (r_move rfl) (ltn rfl) ?_
    refine wl_val (r_extract rfl rfl) (ltn rfl) ?_
    refine wl_val (r_extract rfl rfl) (ltn rfl) ?_
    refine wl_val (r_assign rfl) (ltn rfl) ?_
    refine wl_val (r_assign rfl) (ltn rfl) ?_
    refine wl_nil ?_
    refine wq_seq ?_
    refine wc_seq ?_
    refine wc_seq ?_
    refine wc_region ?_
    refine wl_val (r_move rfl) (ltn rfl) ?_
    refine wl_val (r_neq rfl rfl) (ltn rfl) ?_
    refine wl_split rfl (ltn rfl) (fun h1 => ?_) (fun h1 => ?_)
    · (try simp only [beq_iff_eq, bne_iff_ne, ne_eq, decide_eq_true_eq, decide_eq_false_iff_not, beq_eq_false_iff_ne, bne_eq_false_iff_eq, Bool.not_eq_true', Bool.not_eq_false', Bool.not_eq_eq_eq_not, Bool.not_true, Bool.not_false, gt_iff_lt, ge_iff_le, Int.not_lt, Int.not_le] at h1)
      try (exfalso; first | contradiction | omega)
      all_goals
        refine wl_no rfl rfl rfl (ltn rfl) ?_
        refine wl_no rfl rfl rfl (ltn rfl) ?_
        refine wl_val (r_pick_t rfl rfl) (ltn rfl) ?_
        refine wl_nil ?_
        refine wq_seq ?_
        refine wc_cond_t rfl ?_
        refine wc_seq ?_
        refine wc_region ?_
        refine wl_eff (e_call (r_call rfl Tryd.func12 rfl rfl) (live_ret H hT)) (ltn rfl) ?_
        rintro _ w2 ⟨rfl, H2⟩
        refine wl_val (r_move rfl) (ltn rfl) ?_
        refine wl_yes rfl rfl ?_
        refine wl_val (r_move rfl) (ltn rfl) ?_
        refine wl_yes rfl rfl ?_
        refine wl_val (r_eql rfl rfl) (ltn rfl) ?_
        refine wl_val (r_pick_t rfl rfl) (ltn rfl) ?_
        refine wl_split rfl (ltn rfl) (fun h2 => ?_) (fun h2 => ?_)
        · (try simp only [beq_iff_eq, bne_iff_ne, ne_eq, decide_eq_true_eq, decide_eq_false_iff_not, beq_eq_false_iff_ne, bne_eq_false_iff_eq, Bool.not_eq_true', Bool.not_eq_false', Bool.not_eq_eq_eq_not, Bool.not_true, Bool.not_false, gt_iff_lt, ge_iff_le, Int.not_lt, Int.not_le] at h2)
          try (exfalso; first | contradiction | omega)
          all_goals
            refine wl_yes rfl rfl ?_
            refine wl_val (r_move rfl) (ltn rfl) ?_
            refine wl_yes rfl rfl ?_
            refine wl_val (r_lenR (hl _ (H2)) Tryd.underlying22 rfl) (ltn rfl) ?_
            refine wl_yes rfl rfl ?_
            refine wl_val (r_gtr rfl rfl) (ltn rfl) ?_
            refine wl_val (r_pick_t rfl rfl) (ltn rfl) ?_
            refine wl_val (r_assign rfl) (ltn rfl) ?_
            refine wl_nil ?_
            refine wq_seq ?_
            refine wc_ret ?_
            refine wq_then_ret ?_
            refine wq_end1 (.inl rfl) Tryd.results8 rfl ?_
            exact ⟨by simp; omega, H2.base⟩
        · (try simp only [beq_iff_eq, bne_iff_ne, ne_eq, decide_eq_true_eq, decide_eq_false_iff_not, beq_eq_false_iff_ne, bne_eq_false_iff_eq, Bool.not_eq_true', Bool.not_eq_false', Bool.not_eq_eq_eq_not, Bool.not_true, Bool.not_false, gt_iff_lt, ge_iff_le, Int.not_lt, Int.not_le] at h2)
          try (exfalso; first | contradiction | omega)
          all_goals
            refine wl_no rfl rfl rfl (ltn rfl) ?_
            refine wl_no rfl rfl rfl (ltn rfl) ?_
            refine wl_no rfl rfl rfl (ltn rfl) ?_
            refine wl_val (r_pick_f rfl rfl) (ltn rfl) ?_
            refine wl_val (r_assign rfl) (ltn rfl) ?_
            refine wl_nil ?_
            refine wq_seq ?_
            refine wc_ret ?_
            refine wq_then_ret ?_
            refine wq_end1 (.inl rfl) Tryd.results8 rfl ?_
            exact ⟨by simp; omega, H2.base⟩
    · (try simp only [beq_iff_eq, bne_iff_ne, ne_eq, decide_eq_true_eq, decide_eq_false_iff_not, beq_eq_false_iff_ne, bne_eq_false_iff_eq, Bool.not_eq_true', Bool.not_eq_false', Bool.not_eq_eq_eq_not, Bool.not_true, Bool.not_false, gt_iff_lt, ge_iff_le, Int.not_lt, Int.not_le] at h1)
      try (exfalso; first | contradiction | omega)
      all_goals
        refine wl_yes rfl rfl ?_
        refine wl_eff (e_call (r_call rfl Tryd.func12 rfl rfl) (live_ret H hT)) (ltn rfl) ?_
        rintro _ w3 ⟨rfl, H3⟩
        refine wl_yes rfl rfl ?_
        refine wl_val (r_not rfl) (ltn rfl) ?_
        refine wl_val (r_pick_f rfl rfl) (ltn rfl) ?_
        refine wl_nil ?_
        refine wq_seq ?_
        refine wc_cond rfl (fun h3 => ?_) (fun h3 => ?_)
        · (try simp only [beq_iff_eq, bne_iff_ne, ne_eq, decide_eq_true_eq, decide_eq_false_iff_not, beq_eq_false_iff_ne, bne_eq_false_iff_eq, Bool.not_eq_true', Bool.not_eq_false', Bool.not_eq_eq_eq_not, Bool.not_true, Bool.not_false, gt_iff_lt, ge_iff_le, Int.not_lt, Int.not_le] at h3)
          try (exfalso; first | contradiction | omega)
          all_goals
            
            refine wc_seq ?_
            refine wc_region ?_
            refine wl_eff (e_call (r_call rfl Tryd.func12 rfl rfl) (live_ret H3 hT)) (ltn rfl) ?_
            rintro _ w4 ⟨rfl, H4⟩
            refine wl_val (r_move rfl) (ltn rfl) ?_
            refine wl_yes rfl rfl ?_
            refine wl_val (r_move rfl) (ltn rfl) ?_
            refine wl_yes rfl rfl ?_
            refine wl_val (r_eql rfl rfl) (ltn rfl) ?_
            refine wl_val (r_pick_t rfl rfl) (ltn rfl) ?_
            refine wl_split rfl (ltn rfl) (fun h4 => ?_) (fun h4 => ?_)
            · (try simp only [beq_iff_eq, bne_iff_ne, ne_eq, decide_eq_true_eq, decide_eq_false_iff_not, beq_eq_false_iff_ne, bne_eq_false_iff_eq, Bool.not_eq_true', Bool.not_eq_false', Bool.not_eq_eq_eq_not, Bool.not_true, Bool.not_false, gt_iff_lt, ge_iff_le, Int.not_lt, Int.not_le] at h4)
              try (exfalso; first | contradiction | omega)
              all_goals
                refine wl_yes rfl rfl ?_
                refine wl_val (r_move rfl) (ltn rfl) ?_
                refine wl_yes rfl rfl ?_
                refine wl_val (r_lenR (hl _ (H4)) Tryd.underlying22 rfl) (ltn rfl) ?_
                refine wl_yes rfl rfl ?_
                refine wl_val (r_gtr rfl rfl) (ltn rfl) ?_
                refine wl_val (r_pick_t rfl rfl) (ltn rfl) ?_
                refine wl_val (r_assign rfl) (ltn rfl) ?_
                refine wl_nil ?_
                refine wq_seq ?_
                refine wc_ret ?_
                refine wq_then_ret ?_
                refine wq_end1 (.inl rfl) Tryd.results8 rfl ?_
                exact ⟨by simp; omega, H4.base⟩
            · (try simp only [beq_iff_eq, bne_iff_ne, ne_eq, decide_eq_true_eq, decide_eq_false_iff_not, beq_eq_false_iff_ne, bne_eq_false_iff_eq, Bool.not_eq_true', Bool.not_eq_false', Bool.not_eq_eq_eq_not, Bool.not_true, Bool.not_false, gt_iff_lt, ge_iff_le, Int.not_lt, Int.not_le] at h4)
              try (exfalso; first | contradiction | omega)
              all_goals
                refine wl_no rfl rfl rfl (ltn rfl) ?_
                refine wl_no rfl rfl rfl (ltn rfl) ?_
                refine wl_no rfl rfl rfl (ltn rfl) ?_
                refine wl_val (r_pick_f rfl rfl) (ltn rfl) ?_
                refine wl_val (r_assign rfl) (ltn rfl) ?_
                refine wl_nil ?_
                refine wq_seq ?_
                refine wc_ret ?_
                refine wq_then_ret ?_
                refine wq_end1 (.inl rfl) Tryd.results8 rfl ?_
                exact ⟨by simp; omega, H4.base⟩
        · (try simp only [beq_iff_eq, bne_iff_ne, ne_eq, decide_eq_true_eq, decide_eq_false_iff_not, beq_eq_false_iff_ne, bne_eq_false_iff_eq, Bool.not_eq_true', Bool.not_eq_false', Bool.not_eq_eq_eq_not, Bool.not_true, Bool.not_false, gt_iff_lt, ge_iff_le, Int.not_lt, Int.not_le] at h3)
          exfalso; first | contradiction | omega
  · skip
    refine ret_enter Tryd.func8 rfl Tryd.ntmps8 (Nat.le_of_ble_eq_true rfl) ?_
    dsimp only [slots0, Nat.reduceAdd]
    refine wc_seq ?_
    refine wc_region ?_
    refine wl_val (r_assign rfl) (ltn rfl) ?_
    refine wl_nil ?_
    refine wq_seq ?_
    refine wc_seq ?_
    refine wc_region ?_
    refine wl_val (r_move rfl) (ltn rfl) ?_
    refine wl_eff (e_call (r_call rfl Tryd.func11 rfl rfl) (buf_new_ret H (fun W HW => hl _ (HW)) hshort)) (ltn rfl) ?_
    rintro _ w1 ⟨p1, rfl, H1⟩
    refine wl_val (r_move rfl) (ltn rfl) ?_
    refine wl_val (r_extract rfl rfl) (ltn rfl) ?_
    refine wl_val (r_extract rfl rfl) (ltn rfl) ?_
    refine wl_val (r_assign rfl) (ltn rfl) ?_
    refine wl_val (r_assign rfl) (ltn rfl) ?_
    refine wl_nil ?_
    refine wq_seq ?_
    refine wc_seq ?_
    refine wc_seq ?_
    refine wc_region ?_
    refine wl_val (r_move rfl) (ltn rfl) ?_
    refine wl_val (r_neq rfl rfl) (ltn rfl) ?_
    refine wl_split rfl (ltn rfl) (fun h1 => ?_) (fun h1 => ?_)
    · (try simp only [beq_iff_eq, bne_iff_ne, ne_eq, decide_eq_true_eq, decide_eq_false_iff_not, beq_eq_false_iff_ne, bne_eq_false_iff_eq, Bool.not_eq_true', Bool.not_eq_false', Bool.not_eq_eq_eq_not, Bool.not_true, Bool.not_false, gt_iff_lt, ge_iff_le, Int.not_lt, Int.not_le] at h1)
      try (exfalso; first | contradiction | omega)
      all_goals
        refine wl_no rfl rfl rfl (ltn rfl) ?_
        refine wl_no rfl rfl rfl (ltn rfl) ?_
        refine wl_val (r_pick_t rfl rfl) (ltn rfl) ?_
        refine wl_nil ?_
        refine wq_seq ?_
        refine wc_cond_t rfl ?_
        refine wc_seq ?_
        refine wc_region ?_
        refine wl_eff (e_call (r_call rfl Tryd.func12 rfl rfl) (live_ret H1 hT)) (ltn rfl) ?_
        rintro _ w2 ⟨rfl, H2⟩
        refine wl_val (r_move rfl) (ltn rfl) ?_
        refine wl_yes rfl rfl ?_
        refine wl_val (r_move rfl) (ltn rfl) ?_
        refine wl_yes rfl rfl ?_
        refine wl_val (r_eql rfl rfl) (ltn rfl) ?_
        refine wl_val (r_pick_t rfl rfl) (ltn rfl) ?_
        refine wl_split rfl (ltn rfl) (fun h2 => ?_) (fun h2 => ?_)
        · (try simp only [beq_iff_eq, bne_iff_ne, ne_eq, decide_eq_true_eq, decide_eq_false_iff_not, beq_eq_false_iff_ne, bne_eq_false_iff_eq, Bool.not_eq_true', Bool.not_eq_false', Bool.not_eq_eq_eq_not, Bool.not_true, Bool.not_false, gt_iff_lt, ge_iff_le, Int.not_lt, Int.not_le] at h2)
          try (exfalso; first | contradiction | omega)
          all_goals
            refine wl_yes rfl rfl ?_
            refine wl_val (r_move rfl) (ltn rfl) ?_
            refine wl_yes rfl rfl ?_
            refine wl_val (r_lenR (hl _ (H2.right)) Tryd.underlying22 rfl) (ltn rfl) ?_
            refine wl_yes rfl rfl ?_
            refine wl_val (r_gtr rfl rfl) (ltn rfl) ?_
            refine wl_val (r_pick_t rfl rfl) (ltn rfl) ?_
            refine wl_val (r_assign rfl) (ltn rfl) ?_
            refine wl_nil ?_
            refine wq_seq ?_
            refine wc_ret ?_
            refine wq_then_ret ?_
            refine wq_end1 (.inl rfl) Tryd.results8 rfl ?_
            exact ⟨rfl, H2.base⟩
        · (try simp only [beq_iff_eq, bne_iff_ne, ne_eq, decide_eq_true_eq, decide_eq_false_iff_not, beq_eq_false_iff_ne, bne_eq_false_iff_eq, Bool.not_eq_true', Bool.not_eq_false', Bool.not_eq_eq_eq_not, Bool.not_true, Bool.not_false, gt_iff_lt, ge_iff_le, Int.not_lt, Int.not_le] at h2)
          try (exfalso; first | contradiction | omega)
          all_goals
            refine wl_no rfl rfl rfl (ltn rfl) ?_
            refine wl_no rfl rfl rfl (ltn rfl) ?_
            refine wl_no rfl rfl rfl (ltn rfl) ?_
            refine wl_val (r_pick_f rfl rfl) (ltn rfl) ?_
            refine wl_val (r_assign rfl) (ltn rfl) ?_
            refine wl_nil ?_
            refine wq_seq ?_
            refine wc_ret ?_
            refine wq_then_ret ?_
            refine wq_end1 (.inl rfl) Tryd.results8 rfl ?_
            exact ⟨rfl, H2.base⟩
    · (try simp only [beq_iff_eq, bne_iff_ne, ne_eq, decide_eq_true_eq, decide_eq_false_iff_not, beq_eq_false_iff_ne, bne_eq_false_iff_eq, Bool.not_eq_true', Bool.not_eq_false', Bool.not_eq_eq_eq_not, Bool.not_true, Bool.not_false, gt_iff_lt, ge_iff_le, Int.not_lt, Int.not_le] at h1)
      try (exfalso; first | contradiction | omega)
      all_goals
        refine wl_yes rfl rfl ?_
        refine wl_eff (e_call (r_call rfl Tryd.func12 rfl rfl) (live_ret H1 hT)) (ltn rfl) ?_
        rintro _ w3 ⟨rfl, H3⟩
        refine wl_yes rfl rfl ?_
        refine wl_val (r_not rfl) (ltn rfl) ?_
        refine wl_val (r_pick_f rfl rfl) (ltn rfl) ?_
        refine wl_nil ?_
        refine wq_seq ?_
        refine wc_cond rfl (fun h3 => ?_) (fun h3 => ?_)
        · (try simp only [beq_iff_eq, bne_iff_ne, ne_eq, decide_eq_true_eq, decide_eq_false_iff_not, beq_eq_false_iff_ne, bne_eq_false_iff_eq, Bool.not_eq_true', Bool.not_eq_false', Bool.not_eq_eq_eq_not, Bool.not_true, Bool.not_false, gt_iff_lt, ge_iff_le, Int.not_lt, Int.not_le] at h3)
          try (exfalso; first | contradiction | omega)
          all_goals
            
            refine wc_seq ?_
            refine wc_region ?_
            refine wl_eff (e_call (r_call rfl Tryd.func12 rfl rfl) (live_ret H3 hT)) (ltn rfl) ?_
            rintro _ w4 ⟨rfl, H4⟩
            refine wl_val (r_move rfl) (ltn rfl) ?_
            refine wl_yes rfl rfl ?_
            refine wl_val (r_move rfl) (ltn rfl) ?_
            refine wl_yes rfl rfl ?_
            refine wl_val (r_eql rfl rfl) (ltn rfl) ?_
            refine wl_val (r_pick_t rfl rfl) (ltn rfl) ?_
            refine wl_split rfl (ltn rfl) (fun h4 => ?_) (fun h4 => ?_)
            · (try simp only [beq_iff_eq, bne_iff_ne, ne_eq, decide_eq_true_eq, decide_eq_false_iff_not, beq_eq_false_iff_ne, bne_eq_false_iff_eq, Bool.not_eq_true', Bool.not_eq_false', Bool.not_eq_eq_eq_not, Bool.not_true, Bool.not_false, gt_iff_lt, ge_iff_le, Int.not_lt, Int.not_le] at h4)
              try (exfalso; first | contradiction | omega)
              all_goals
                refine wl_yes rfl rfl ?_
                refine wl_val (r_move rfl) (ltn rfl) ?_
                refine wl_yes rfl rfl ?_
                refine wl_val (r_lenR (hl _ (H4.right)) Tryd.underlying22 rfl) (ltn rfl) ?_
                refine wl_yes rfl rfl ?_
                refine wl_val (r_gtr rfl rfl) (ltn rfl) ?_
                refine wl_val (r_pick_t rfl rfl) (ltn rfl) ?_
                refine wl_val (r_assign rfl) (ltn rfl) ?_
                refine wl_nil ?_
                refine wq_seq ?_
                refine wc_ret ?_
                refine wq_then_ret ?_
                refine wq_end1 (.inl rfl) Tryd.results8 rfl ?_
                exact ⟨rfl, H4.base⟩
            · (try simp only [beq_iff_eq, bne_iff_ne, ne_eq, decide_eq_true_eq, decide_eq_false_iff_not, beq_eq_false_iff_ne, bne_eq_false_iff_eq, Bool.not_eq_true', Bool.not_eq_false', Bool.not_eq_eq_eq_not, Bool.not_true, Bool.not_false, gt_iff_lt, ge_iff_le, Int.not_lt, Int.not_le] at h4)
              try (exfalso; first | contradiction | omega)
              all_goals
                refine wl_no rfl rfl rfl (ltn rfl) ?_
                refine wl_no rfl rfl rfl (ltn rfl) ?_
                refine wl_no rfl rfl rfl (ltn rfl) ?_
                refine wl_val (r_pick_f rfl rfl) (ltn rfl) ?_
                refine wl_val (r_assign rfl) (ltn rfl) ?_
                refine wl_nil ?_
                refine wq_seq ?_
                refine wc_ret ?_
                refine wq_then_ret ?_
                refine wq_end1 (.inl rfl) Tryd.results8 rfl ?_
                exact ⟨rfl, H4.base⟩
        · (try simp only [beq_iff_eq, bne_iff_ne, ne_eq, decide_eq_true_eq, decide_eq_false_iff_not, beq_eq_false_iff_ne, bne_eq_false_iff_eq, Bool.not_eq_true', Bool.not_eq_false', Bool.not_eq_eq_eq_not, Bool.not_true, Bool.not_false, gt_iff_lt, ge_iff_le, Int.not_lt, Int.not_le] at h3)
          try (exfalso; first | contradiction | omega)
          all_goals
            
            refine wc_skip ?_
            refine wq_seq ?_
            refine wc_seq ?_
            refine wc_seq ?_
            refine wc_region ?_
            refine wl_val (r_move rfl) (ltn rfl) ?_
            refine wl_val (r_lenS (hv _ (H3.right)) Tryd.underlying59 rfl) (ltn rfl) ?_
            refine wl_val (r_move rfl) (ltn rfl) ?_
            refine wl_nil ?_
            refine wq_seq ?_
            refine wc_block ?_
            refine wc_loop [(5, _), (32, _), (33, _)] (fun (k : Nat) => [(34, .int .i64 (k : Int))]) (fun (k : Nat) W => k ≤ ops.length ∧ ∃ L pt mk, Holds w W (BufRep p1 L pt mk • F)) (fun (k : Nat) => ops.length - k) (0) (Sub.cons rfl (Sub.cons rfl (Sub.cons rfl (Sub.nil _)))) (Sub.cons rfl (Sub.nil _)) ⟨by omega, _, _, _, H3⟩ ?_
            rintro k w5 ⟨hk, L, pt, mk, HL⟩
            dsimp only [List.cons_append, List.nil_append]
            refine wc_seq ?_
            refine wc_region ?_
            refine wl_val (r_lss rfl rfl) (ltn rfl) ?_
            refine wl_nil ?_
            refine wq_seq ?_
            refine wc_seq ?_
            refine wc_cond rfl (fun h5 => ?_) (fun h5 => ?_)
            · (try simp only [beq_iff_eq, bne_iff_ne, ne_eq, decide_eq_true_eq, decide_eq_false_iff_not, beq_eq_false_iff_ne, bne_eq_false_iff_eq, Bool.not_eq_true', Bool.not_eq_false', Bool.not_eq_eq_eq_not, Bool.not_true, Bool.not_false, gt_iff_lt, ge_iff_le, Int.not_lt, Int.not_le] at h5)
              try (exfalso; first | contradiction | omega)
              all_goals
                
                refine wc_skip ?_
                refine wq_seq ?_
                refine wc_seq ?_
                refine wc_block ?_
                refine wc_seq ?_
                refine wc_region ?_
                obtain ⟨bv, ov, cv, ev⟩ := Rd.posV (hv _ (HL.right)) (by omega)
                cases ev
                refine wl_val (r_index Tryd.underlying59 Tryd.sizeOf26 rfl rfl (by omega)) (ltn rfl) ?_
                refine wl_val (r_load_elem (ys := [_, _, _, _, _, _, _]) (hv _ (HL.right)) (by omega) Tryd.underlying26 rfl Tryd.sizeOf26 rfl (flat_elem BOp.enc_len (by omega) default) rfl) (ltn rfl) ?_
                obtain ⟨⟨q1, q2⟩, ⟨q3, q4⟩, ⟨q5, q6⟩⟩ := g3 k (by omega)
                have f1 := FRdI.of_start q1 F
                have f2 := FRdI.of_start q3 F
                have f3 := FRdI.of_start q5 F
                refine wl_eff (e_allocL (l := [_, _, _, _, _, _, _]) HL Tryd.zeroValue26 rfl) (ltn rfl) ?_
                rintro _ w6 ⟨b6, rfl, H6⟩
                refine wl_eff0 (e_storePL 0 (l' := [_, _, _, _, _, _, _]) (us := [_, _, _, _, _, _, _]) H6 Tryd.sizeOf26 rfl rfl rfl (ones_cons (by first | rfl | assumption) (ones_cons (by first | rfl | assumption) (ones_cons (by first | rfl | assumption) (ones_cons (by first | rfl | exact Rd.one (f1 _ (H6.right.right))) (ones_cons (by first | rfl | assumption) (ones_cons (by first | rfl | exact Rd.one (f2 _ (H6.right.right))) (ones_cons (by first | rfl | exact Rd.one (f3 _ (H6.right.right))) ones_nil))))))) rfl rfl) ?_
                rintro _ w7 H7
                refine wl_nil ?_
                refine wq_seq ?_
                refine wc_seq ?_
                refine wc_region ?_
                refine wl_val (r_move rfl) (ltn rfl) ?_
                refine wl_eff (e_call (r_call rfl Tryd.func21 rfl rfl) (buf_line_ret H7.f2)) (ltn rfl) ?_
                rintro _ w8 ⟨u8, rfl, H8⟩
                refine wl_eff (e_allocL (l := [_, _, _]) H8 Tryd.zeroValue46 rfl) (ltn rfl) ?_
                rintro _ w9 ⟨b9, rfl, H9⟩
                refine wl_eff0 (e_storePL 0 (l' := [_, _, _]) (us := [_, _, _]) H9 Tryd.sizeOf46 rfl rfl rfl (ones_cons (by first | rfl | exact Rd.one ((H9.f2).row_rd)) (ones_cons (by first | rfl | assumption) (ones_cons (by first | rfl | assumption) ones_nil))) rfl rfl) ?_
                rintro _ w10 H10
                refine wl_nil ?_
                refine wq_seq ?_
                refine wc_seq ?_
                refine wc_region ?_
                refine wl_val (r_assign rfl) (ltn rfl) ?_
                refine wl_nil ?_
                refine wq_seq ?_
                refine wc_join [(5, _), (9, _), (32, _), (33, _), (34, _)] (fun (e : Int) => [(10, .int .i64 e)]) (fun (e : Int) W => ∃ Lq ptq mkq uq, (e ≠ 0 → Lq = L ∧ ptq = pt ∧ mkq = mk) ∧ Holds w W (BufRep p1 Lq ptq mkq • RowI 21 .i32 uq L • blk b9 (.cells #[uq, .int .i64 pt, .int .i64 mk] 46 (0, 0)) • F)) (Sub.cons rfl (Sub.cons rfl (Sub.cons rfl (Sub.cons rfl (Sub.cons rfl (Sub.nil _)))))) ?_ ?_
                · rintro e w11 ⟨Lq, ptq, mkq, uq, hq, HJ⟩
                  dsimp only [List.cons_append, List.nil_append]
                  refine wc_seq ?_
                  refine wc_seq ?_
                  have H24d11 := HJ.drew
                  have hS24d11 := Holds.kp (H24d11.f3.f3.f3)
                  refine wd_beginK [5] hS24d11 (by kernel_rfl) (by kernel_rfl) rfl ?_
                  refine wd_takeT 0 rfl (by kernel_rfl) (by kernel_rfl) hS24d11 (fun _ => r_move rfl) (ltn rfl) ?_
                  refine wd_takeT 1 rfl (by kernel_rfl) (by kernel_rfl) hS24d11 (fun _ => r_neq rfl rfl) (ltn rfl) ?_
                  refine wd_split 2 rfl rfl (by kernel_rfl) (by kernel_rfl) hS24d11 (ltn rfl) (fun h6 => ?_) (fun h6 => ?_)
                  · (try simp only [beq_iff_eq, bne_iff_ne, ne_eq, decide_eq_true_eq, decide_eq_false_iff_not, beq_eq_false_iff_ne, bne_eq_false_iff_eq, Bool.not_eq_true', Bool.not_eq_false', Bool.not_eq_eq_eq_not, Bool.not_true, Bool.not_false, gt_iff_lt, ge_iff_le, Int.not_lt, Int.not_le] at h6)
                    try (exfalso; first | contradiction | omega)
                    all_goals
                      refine wd_takeT_yes 3 rfl rfl rfl (by kernel_rfl) (by kernel_rfl) hS24d11 (fun _ => r_move rfl) (ltn rfl) ?_
                      refine wd_take_yes 5 rfl rfl rfl (by kernel_rfl) (by kernel_rfl) hS24d11 (by decide) (fun W hW => r_load_whole Tryd.underlying46 rfl Tryd.sizeOf46 rfl rfl ((Kp.h hW).f3).get.2) (ltn rfl) ?_
                      refine wd_eff_yes 4 rfl rfl rfl (by kernel_rfl) (e_call (r_call rfl Tryd.func21 rfl rfl) (buf_line_ret H24d11)) (ltn rfl) ?_
                      rintro _ w12 ⟨u12, rfl, H12⟩
                      obtain ⟨rfl, rfl, rfl⟩ := hq (by omega)
                      have hS12n := Holds.kp (H12.f4.f4.f4.f4)
                      refine keepK hS12n (fun W hW => (Kp.h hW).right.f3.f3.f3) ?_
                      refine wd_eff_yes 6 rfl rfl rfl (by kernel_rfl) (e_call (r_call rfl Tryd.func44 rfl rfl) (same_line_ret H12 (fun W HW => (HW).row_rd) (fun W HW => (HW.f3).row_rd))) (ltn rfl) ?_
                      rintro _ w13 ⟨rfl, H13⟩
                      have hS13n := Holds.kp (H13.f4.f4.f4.f4)
                      refine keepX hS13n (by kernel_rfl) ?_
                      refine wd_takeT_yes 7 rfl rfl rfl (by kernel_rfl) (by kernel_rfl) hS13n (fun _ => r_not rfl) (ltn rfl) ?_
                      refine wd_takeT 8 rfl (by kernel_rfl) (by kernel_rfl) hS13n (fun _ => r_pick_t rfl rfl) (ltn rfl) ?_
                      refine wd_done (by kernel_rfl) ?_
                      refine wq_seq ?_
                      refine wc_cond rfl (fun h7 => ?_) (fun h7 => ?_)
                      · (try simp only [beq_iff_eq, bne_iff_ne, ne_eq, decide_eq_true_eq, decide_eq_false_iff_not, beq_eq_false_iff_ne, bne_eq_false_iff_eq, Bool.not_eq_true', Bool.not_eq_false', Bool.not_eq_eq_eq_not, Bool.not_true, Bool.not_false, gt_iff_lt, ge_iff_le, Int.not_lt, Int.not_le] at h7)
                        try (exfalso; first | contradiction | omega)
                        all_goals
                          
                          refine wc_seq ?_
                          refine wc_region ?_
                          refine wl_val (r_assign rfl) (ltn rfl) ?_
                          refine wl_nil ?_
                          refine wq_seq ?_
                          refine wc_ret ?_
                          refine wq_then_ret ?_
                          refine wq_block_ret ?_
                          refine wq_then_ret ?_
                          refine wq_then_ret ?_
                          refine wq_block_ret ?_
                          refine wq_then_ret ?_
                          refine wq_end1 (.inl rfl) Tryd.results8 rfl ?_
                          exact ⟨rfl, H13.base⟩
                      · (try simp only [beq_iff_eq, bne_iff_ne, ne_eq, decide_eq_true_eq, decide_eq_false_iff_not, beq_eq_false_iff_ne, bne_eq_false_iff_eq, Bool.not_eq_true', Bool.not_eq_false', Bool.not_eq_eq_eq_not, Bool.not_true, Bool.not_false, gt_iff_lt, ge_iff_le, Int.not_lt, Int.not_le] at h7)
                        try (exfalso; first | contradiction | omega)
                        all_goals
                          
                          refine wc_skip ?_
                          refine wq_seq ?_
                          refine wc_seq ?_
                          obtain ⟨_, _, _, _, _, _, _, _, hq4, _, hq6, hq7, _⟩ := (H13.right.f2.right.f2.right).buf
                          refine wc_region ?_
                          refine wl_val (r_move rfl) (ltn rfl) ?_
                          refine wl_eff (e_call (r_call rfl Tryd.func45 rfl rfl) (buf_len_ret H13.f2)) (ltn rfl) ?_
                          rintro _ w14 ⟨rfl, hD14⟩
                          have HD14 := H13.drewn hD14
                          refine wl_val (r_gtr rfl rfl) (ltn rfl) ?_
                          refine wl_split rfl (ltn rfl) (fun h8 => ?_) (fun h8 => ?_)
                          · (try simp only [beq_iff_eq, bne_iff_ne, ne_eq, decide_eq_true_eq, decide_eq_false_iff_not, beq_eq_false_iff_ne, bne_eq_false_iff_eq, Bool.not_eq_true', Bool.not_eq_false', Bool.not_eq_eq_eq_not, Bool.not_true, Bool.not_false, gt_iff_lt, ge_iff_le, Int.not_lt, Int.not_le] at h8)
                            try (exfalso; first | contradiction | omega)
                            all_goals
                              refine wl_no rfl rfl rfl (ltn rfl) ?_
                              refine wl_no rfl rfl rfl (ltn rfl) ?_
                              refine wl_no rfl rfl rfl (ltn rfl) ?_
                              refine wl_val (r_pick_t rfl rfl) (ltn rfl) ?_
                              refine wl_val (r_move rfl) (ltn rfl) ?_
                              refine wl_no rfl rfl rfl (ltn rfl) ?_
                              refine wl_no rfl rfl rfl (ltn rfl) ?_
                              refine wl_no rfl rfl rfl (ltn rfl) ?_
                              refine wl_no rfl rfl rfl (ltn rfl) ?_
                              refine wl_no rfl rfl rfl (ltn rfl) ?_
                              refine wl_val (r_pick_t rfl rfl) (ltn rfl) ?_
                              refine wl_val (r_move rfl) (ltn rfl) ?_
                              refine wl_no rfl rfl rfl (ltn rfl) ?_
                              refine wl_no rfl rfl rfl (ltn rfl) ?_
                              refine wl_no rfl rfl rfl (ltn rfl) ?_
                              refine wl_val (r_pick_t rfl rfl) (ltn rfl) ?_
                              refine wl_val (r_move rfl) (ltn rfl) ?_
                              refine wl_no rfl rfl rfl (ltn rfl) ?_
                              refine wl_no rfl rfl rfl (ltn rfl) ?_
                              refine wl_no rfl rfl rfl (ltn rfl) ?_
                              refine wl_no rfl rfl rfl (ltn rfl) ?_
                              refine wl_no rfl rfl rfl (ltn rfl) ?_
                              refine wl_val (r_pick_t rfl rfl) (ltn rfl) ?_
                              refine wl_nil ?_
                              refine wq_seq ?_
                              refine wc_cond_t rfl ?_
                              refine wc_seq ?_
                              refine wc_region ?_
                              refine wl_val (r_assign rfl) (ltn rfl) ?_
                              refine wl_nil ?_
                              refine wq_seq ?_
                              refine wc_ret ?_
                              refine wq_block_ret ?_
                              refine wq_then_ret ?_
                              refine wq_then_ret ?_
                              refine wq_block_ret ?_
                              refine wq_then_ret ?_
                              refine wq_end1 (.inl rfl) Tryd.results8 rfl ?_
                              exact ⟨rfl, HD14.base⟩
                          · (try simp only [beq_iff_eq, bne_iff_ne, ne_eq, decide_eq_true_eq, decide_eq_false_iff_not, beq_eq_false_iff_ne, bne_eq_false_iff_eq, Bool.not_eq_true', Bool.not_eq_false', Bool.not_eq_eq_eq_not, Bool.not_true, Bool.not_false, gt_iff_lt, ge_iff_le, Int.not_lt, Int.not_le] at h8)
                            try (exfalso; first | contradiction | omega)
                            all_goals
                              refine wl_yes rfl rfl ?_
                              refine wl_val (r_move rfl) (ltn rfl) ?_
                              refine wl_yes rfl rfl ?_
                              refine wl_eff (e_call (r_call rfl Tryd.func23 rfl rfl) (buf_point_ret HD14.f2)) (ltn rfl) ?_
                              rintro _ _ ⟨rfl, rfl⟩
                              refine wl_yes rfl rfl ?_
                              refine wl_val (r_lss rfl rfl) (ltn rfl) ?_
                              refine wl_val (r_pick_f rfl rfl) (ltn rfl) ?_
                              refine wl_split rfl (ltn rfl) (fun h9 => ?_) (fun h9 => ?_)
                              · (try simp only [beq_iff_eq, bne_iff_ne, ne_eq, decide_eq_true_eq, decide_eq_false_iff_not, beq_eq_false_iff_ne, bne_eq_false_iff_eq, Bool.not_eq_true', Bool.not_eq_false', Bool.not_eq_eq_eq_not, Bool.not_true, Bool.not_false, gt_iff_lt, ge_iff_le, Int.not_lt, Int.not_le] at h9)
                                try (exfalso; first | contradiction | omega)
                                all_goals
                                  refine wl_no rfl rfl rfl (ltn rfl) ?_
                                  refine wl_no rfl rfl rfl (ltn rfl) ?_
                                  refine wl_no rfl rfl rfl (ltn rfl) ?_
                                  refine wl_no rfl rfl rfl (ltn rfl) ?_
                                  refine wl_no rfl rfl rfl (ltn rfl) ?_
                                  refine wl_val (r_pick_t rfl rfl) (ltn rfl) ?_
                                  refine wl_val (r_move rfl) (ltn rfl) ?_
                                  refine wl_no rfl rfl rfl (ltn rfl) ?_
                                  refine wl_no rfl rfl rfl (ltn rfl) ?_
                                  refine wl_no rfl rfl rfl (ltn rfl) ?_
                                  refine wl_val (r_pick_t rfl rfl) (ltn rfl) ?_
                                  refine wl_val (r_move rfl) (ltn rfl) ?_
                                  refine wl_no rfl rfl rfl (ltn rfl) ?_
                                  refine wl_no rfl rfl rfl (ltn rfl) ?_
                                  refine wl_no rfl rfl rfl (ltn rfl) ?_
                                  refine wl_no rfl rfl rfl (ltn rfl) ?_
                                  refine wl_no rfl rfl rfl (ltn rfl) ?_
                                  refine wl_val (r_pick_t rfl rfl) (ltn rfl) ?_
                                  refine wl_nil ?_
                                  refine wq_seq ?_
                                  refine wc_cond_t rfl ?_
                                  refine wc_seq ?_
                                  refine wc_region ?_
                                  refine wl_val (r_assign rfl) (ltn rfl) ?_
                                  refine wl_nil ?_
                                  refine wq_seq ?_
                                  refine wc_ret ?_
                                  refine wq_block_ret ?_
                                  refine wq_then_ret ?_
                                  refine wq_then_ret ?_
                                  refine wq_block_ret ?_
                                  refine wq_then_ret ?_
                                  refine wq_end1 (.inl rfl) Tryd.results8 rfl ?_
                                  exact ⟨rfl, HD14.base⟩
                              · (try simp only [beq_iff_eq, bne_iff_ne, ne_eq, decide_eq_true_eq, decide_eq_false_iff_not, beq_eq_false_iff_ne, bne_eq_false_iff_eq, Bool.not_eq_true', Bool.not_eq_false', Bool.not_eq_eq_eq_not, Bool.not_true, Bool.not_false, gt_iff_lt, ge_iff_le, Int.not_lt, Int.not_le] at h9)
                                try (exfalso; first | contradiction | omega)
                                all_goals
                                  refine wl_yes rfl rfl ?_
                                  refine wl_val (r_move rfl) (ltn rfl) ?_
                                  refine wl_yes rfl rfl ?_
                                  refine wl_eff (e_call (r_call rfl Tryd.func23 rfl rfl) (buf_point_ret HD14.f2)) (ltn rfl) ?_
                                  rintro _ _ ⟨rfl, rfl⟩
                                  refine wl_yes rfl rfl ?_
                                  refine wl_val (r_move rfl) (ltn rfl) ?_
                                  refine wl_yes rfl rfl ?_
                                  refine wl_eff (e_call (r_call rfl Tryd.func45 rfl rfl) (buf_len_ret HD14.f2)) (ltn rfl) ?_
                                  rintro _ w17 ⟨rfl, hD17⟩
                                  have HD17 := HD14.drewn hD17
                                  refine wl_yes rfl rfl ?_
                                  refine wl_val (r_gtr rfl rfl) (ltn rfl) ?_
                                  refine wl_val (r_pick_f rfl rfl) (ltn rfl) ?_
                                  refine wl_split rfl (ltn rfl) (fun h10 => ?_) (fun h10 => ?_)
                                  · (try simp only [beq_iff_eq, bne_iff_ne, ne_eq, decide_eq_true_eq, decide_eq_false_iff_not, beq_eq_false_iff_ne, bne_eq_false_iff_eq, Bool.not_eq_true', Bool.not_eq_false', Bool.not_eq_eq_eq_not, Bool.not_true, Bool.not_false, gt_iff_lt, ge_iff_le, Int.not_lt, Int.not_le] at h10)
                                    try (exfalso; first | contradiction | omega)
                                    all_goals
                                      refine wl_no rfl rfl rfl (ltn rfl) ?_
                                      refine wl_no rfl rfl rfl (ltn rfl) ?_
                                      refine wl_no rfl rfl rfl (ltn rfl) ?_
                                      refine wl_val (r_pick_t rfl rfl) (ltn rfl) ?_
                                      refine wl_val (r_move rfl) (ltn rfl) ?_
                                      refine wl_no rfl rfl rfl (ltn rfl) ?_
                                      refine wl_no rfl rfl rfl (ltn rfl) ?_
                                      refine wl_no rfl rfl rfl (ltn rfl) ?_
                                      refine wl_no rfl rfl rfl (ltn rfl) ?_
                                      refine wl_no rfl rfl rfl (ltn rfl) ?_
                                      refine wl_val (r_pick_t rfl rfl) (ltn rfl) ?_
                                      refine wl_nil ?_
                                      refine wq_seq ?_
                                      refine wc_cond_t rfl ?_
                                      refine wc_seq ?_
                                      refine wc_region ?_
                                      refine wl_val (r_assign rfl) (ltn rfl) ?_
                                      refine wl_nil ?_
                                      refine wq_seq ?_
                                      refine wc_ret ?_
                                      refine wq_block_ret ?_
                                      refine wq_then_ret ?_
                                      refine wq_then_ret ?_
                                      refine wq_block_ret ?_
                                      refine wq_then_ret ?_
                                      refine wq_end1 (.inl rfl) Tryd.results8 rfl ?_
                                      exact ⟨rfl, HD17.base⟩
                                  · (try simp only [beq_iff_eq, bne_iff_ne, ne_eq, decide_eq_true_eq, decide_eq_false_iff_not, beq_eq_false_iff_ne, bne_eq_false_iff_eq, Bool.not_eq_true', Bool.not_eq_false', Bool.not_eq_eq_eq_not, Bool.not_true, Bool.not_false, gt_iff_lt, ge_iff_le, Int.not_lt, Int.not_le] at h10)
                                    try (exfalso; first | contradiction | omega)
                                    all_goals
                                      refine wl_yes rfl rfl ?_
                                      refine wl_val (r_move rfl) (ltn rfl) ?_
                                      refine wl_yes rfl rfl ?_
                                      refine wl_eff (e_call (r_call rfl Tryd.func46 rfl rfl) (buf_mark_ret HD17.f2)) (ltn rfl) ?_
                                      rintro _ _ ⟨rfl, rfl⟩
                                      refine wl_yes rfl rfl ?_
                                      refine wl_val (r_lss rfl rfl) (ltn rfl) ?_
                                      refine wl_val (r_pick_f rfl rfl) (ltn rfl) ?_
                                      refine wl_split rfl (ltn rfl) (fun h11 => ?_) (fun h11 => ?_)
                                      · (try simp only [beq_iff_eq, bne_iff_ne, ne_eq, decide_eq_true_eq, decide_eq_false_iff_not, beq_eq_false_iff_ne, bne_eq_false_iff_eq, Bool.not_eq_true', Bool.not_eq_false', Bool.not_eq_eq_eq_not, Bool.not_true, Bool.not_false, gt_iff_lt, ge_iff_le, Int.not_lt, Int.not_le] at h11)
                                        try (exfalso; first | contradiction | omega)
                                        all_goals
                                          refine wl_no rfl rfl rfl (ltn rfl) ?_
                                          refine wl_no rfl rfl rfl (ltn rfl) ?_
                                          refine wl_no rfl rfl rfl (ltn rfl) ?_
                                          refine wl_no rfl rfl rfl (ltn rfl) ?_
                                          refine wl_no rfl rfl rfl (ltn rfl) ?_
                                          refine wl_val (r_pick_t rfl rfl) (ltn rfl) ?_
                                          refine wl_nil ?_
                                          refine wq_seq ?_
                                          refine wc_cond_t rfl ?_
                                          refine wc_seq ?_
                                          refine wc_region ?_
                                          refine wl_val (r_assign rfl) (ltn rfl) ?_
                                          refine wl_nil ?_
                                          refine wq_seq ?_
                                          refine wc_ret ?_
                                          refine wq_block_ret ?_
                                          refine wq_then_ret ?_
                                          refine wq_then_ret ?_
                                          refine wq_block_ret ?_
                                          refine wq_then_ret ?_
                                          refine wq_end1 (.inl rfl) Tryd.results8 rfl ?_
                                          exact ⟨rfl, HD17.base⟩
                                      · (try simp only [beq_iff_eq, bne_iff_ne, ne_eq, decide_eq_true_eq, decide_eq_false_iff_not, beq_eq_false_iff_ne, bne_eq_false_iff_eq, Bool.not_eq_true', Bool.not_eq_false', Bool.not_eq_eq_eq_not, Bool.not_true, Bool.not_false, gt_iff_lt, ge_iff_le, Int.not_lt, Int.not_le] at h11)
                                        try (exfalso; first | contradiction | omega)
                                        all_goals
                                          refine wl_yes rfl rfl ?_
                                          refine wl_val (r_move rfl) (ltn rfl) ?_
                                          refine wl_yes rfl rfl ?_
                                          refine wl_eff (e_call (r_call rfl Tryd.func46 rfl rfl) (buf_mark_ret HD17.f2)) (ltn rfl) ?_
                                          rintro _ _ ⟨rfl, rfl⟩
                                          refine wl_yes rfl rfl ?_
                                          refine wl_val (r_move rfl) (ltn rfl) ?_
                                          refine wl_yes rfl rfl ?_
                                          refine wl_eff (e_call (r_call rfl Tryd.func45 rfl rfl) (buf_len_ret HD17.f2)) (ltn rfl) ?_
                                          rintro _ w20 ⟨rfl, hD20⟩
                                          have HD20 := HD17.drewn hD20
                                          refine wl_yes rfl rfl ?_
                                          refine wl_val (r_gtr rfl rfl) (ltn rfl) ?_
                                          refine wl_val (r_pick_f rfl rfl) (ltn rfl) ?_
                                          refine wl_nil ?_
                                          refine wq_seq ?_
                                          refine wc_cond rfl (fun h12 => ?_) (fun h12 => ?_)
                                          · (try simp only [beq_iff_eq, bne_iff_ne, ne_eq, decide_eq_true_eq, decide_eq_false_iff_not, beq_eq_false_iff_ne, bne_eq_false_iff_eq, Bool.not_eq_true', Bool.not_eq_false', Bool.not_eq_eq_eq_not, Bool.not_true, Bool.not_false, gt_iff_lt, ge_iff_le, Int.not_lt, Int.not_le] at h12)
                                            try (exfalso; first | contradiction | omega)
                                            all_goals
                                              
                                              refine wc_seq ?_
                                              refine wc_region ?_
                                              refine wl_val (r_assign rfl) (ltn rfl) ?_
                                              refine wl_nil ?_
                                              refine wq_seq ?_
                                              refine wc_ret ?_
                                              refine wq_block_ret ?_
                                              refine wq_then_ret ?_
                                              refine wq_then_ret ?_
                                              refine wq_block_ret ?_
                                              refine wq_then_ret ?_
                                              refine wq_end1 (.inl rfl) Tryd.results8 rfl ?_
                                              exact ⟨rfl, HD20.base⟩
                                          · (try simp only [beq_iff_eq, bne_iff_ne, ne_eq, decide_eq_true_eq, decide_eq_false_iff_not, beq_eq_false_iff_ne, bne_eq_false_iff_eq, Bool.not_eq_true', Bool.not_eq_false', Bool.not_eq_eq_eq_not, Bool.not_true, Bool.not_false, gt_iff_lt, ge_iff_le, Int.not_lt, Int.not_le] at h12)
                                            try (exfalso; first | contradiction | omega)
                                            all_goals
                                              
                                              refine wc_skip ?_
                                              refine wq_block_normal ?_
                                              refine wq_seq ?_
                                              refine wc_region ?_
                                              refine wl_val (r_add rfl rfl (by omega)) (ltn rfl) ?_
                                              refine wl_val (r_move rfl) (ltn rfl) ?_
                                              refine wl_nil ?_
                                              refine wq_round (k + 1) ?_ ?_ ?_ ?_
                                              · exact (Sub.cons rfl (Sub.nil _))
                                              · exact (Sub.cons rfl (Sub.cons rfl (Sub.cons rfl (Sub.nil _))))
                                              · (try dsimp only)
                                                exact ⟨by omega, _, _, _, HD20.right.f2.right.f2.right⟩
                                              · (try dsimp only); omega
                  · (try simp only [beq_iff_eq, bne_iff_ne, ne_eq, decide_eq_true_eq, decide_eq_false_iff_not, beq_eq_false_iff_ne, bne_eq_false_iff_eq, Bool.not_eq_true', Bool.not_eq_false', Bool.not_eq_eq_eq_not, Bool.not_true, Bool.not_false, gt_iff_lt, ge_iff_le, Int.not_lt, Int.not_le] at h6)
                    try (exfalso; first | contradiction | omega)
                    all_goals
                      refine wd_no 3 rfl rfl rfl rfl (by kernel_rfl) (by kernel_rfl) hS24d11 (ltn rfl) ?_
                      refine wd_no 4 rfl rfl rfl rfl (by kernel_rfl) (by kernel_rfl) hS24d11 (ltn rfl) ?_
                      refine wd_no 5 rfl rfl rfl rfl (by kernel_rfl) (by kernel_rfl) hS24d11 (ltn rfl) ?_
                      refine wd_no 6 rfl rfl rfl rfl (by kernel_rfl) (by kernel_rfl) hS24d11 (ltn rfl) ?_
                      refine wd_no 7 rfl rfl rfl rfl (by kernel_rfl) (by kernel_rfl) hS24d11 (ltn rfl) ?_
                      refine wd_takeT 8 rfl (by kernel_rfl) (by kernel_rfl) hS24d11 (fun _ => r_pick_f rfl rfl) (ltn rfl) ?_
                      refine wd_done (by kernel_rfl) ?_
                      refine wq_seq ?_
                      refine wc_cond_f rfl ?_
                      refine wc_skip ?_
                      refine wq_seq ?_
                      refine wc_seq ?_
                      obtain ⟨_, _, _, _, _, _, _, _, hq4, _, hq6, hq7, _⟩ := (H24d11.f2.right.f2.right).buf
                      refine wc_region ?_
                      refine wl_val (r_move rfl) (ltn rfl) ?_
                      refine wl_eff (e_call (r_call rfl Tryd.func45 rfl rfl) (buf_len_ret H24d11)) (ltn rfl) ?_
                      rintro _ w21 ⟨rfl, hD21⟩
                      have HD21 := H24d11.drewn hD21
                      refine wl_val (r_gtr rfl rfl) (ltn rfl) ?_
                      refine wl_split rfl (ltn rfl) (fun h13 => ?_) (fun h13 => ?_)
                      · (try simp only [beq_iff_eq, bne_iff_ne, ne_eq, decide_eq_true_eq, decide_eq_false_iff_not, beq_eq_false_iff_ne, bne_eq_false_iff_eq, Bool.not_eq_true', Bool.not_eq_false', Bool.not_eq_eq_eq_not, Bool.not_true, Bool.not_false, gt_iff_lt, ge_iff_le, Int.not_lt, Int.not_le] at h13)
                        try (exfalso; first | contradiction | omega)
                        all_goals
                          refine wl_no rfl rfl rfl (ltn rfl) ?_
                          refine wl_no rfl rfl rfl (ltn rfl) ?_
                          refine wl_no rfl rfl rfl (ltn rfl) ?_
                          refine wl_val (r_pick_t rfl rfl) (ltn rfl) ?_
                          refine wl_val (r_move rfl) (ltn rfl) ?_
                          refine wl_no rfl rfl rfl (ltn rfl) ?_
                          refine wl_no rfl rfl rfl (ltn rfl) ?_
                          refine wl_no rfl rfl rfl (ltn rfl) ?_
                          refine wl_no rfl rfl rfl (ltn rfl) ?_
                          refine wl_no rfl rfl rfl (ltn rfl) ?_
                          refine wl_val (r_pick_t rfl rfl) (ltn rfl) ?_
                          refine wl_val (r_move rfl) (ltn rfl) ?_
                          refine wl_no rfl rfl rfl (ltn rfl) ?_
                          refine wl_no rfl rfl rfl (ltn rfl) ?_
                          refine wl_no rfl rfl rfl (ltn rfl) ?_
                          refine wl_val (r_pick_t rfl rfl) (ltn rfl) ?_
                          refine wl_val (r_move rfl) (ltn rfl) ?_
                          refine wl_no rfl rfl rfl (ltn rfl) ?_
                          refine wl_no rfl rfl rfl (ltn rfl) ?_
                          refine wl_no rfl rfl rfl (ltn rfl) ?_
                          refine wl_no rfl rfl rfl (ltn rfl) ?_
                          refine wl_no rfl rfl rfl (ltn rfl) ?_
                          refine wl_val (r_pick_t rfl rfl) (ltn rfl) ?_
                          refine wl_nil ?_
                          refine wq_seq ?_
                          refine wc_cond_t rfl ?_
                          refine wc_seq ?_
                          refine wc_region ?_
                          refine wl_val (r_assign rfl) (ltn rfl) ?_
                          refine wl_nil ?_
                          refine wq_seq ?_
                          refine wc_ret ?_
                          refine wq_block_ret ?_
                          refine wq_then_ret ?_
                          refine wq_then_ret ?_
                          refine wq_block_ret ?_
                          refine wq_then_ret ?_
                          refine wq_end1 (.inl rfl) Tryd.results8 rfl ?_
                          exact ⟨rfl, HD21.base⟩
                      · (try simp only [beq_iff_eq, bne_iff_ne, ne_eq, decide_eq_true_eq, decide_eq_false_iff_not, beq_eq_false_iff_ne, bne_eq_false_iff_eq, Bool.not_eq_true', Bool.not_eq_false', Bool.not_eq_eq_eq_not, Bool.not_true, Bool.not_false, gt_iff_lt, ge_iff_le, Int.not_lt, Int.not_le] at h13)
                        try (exfalso; first | contradiction | omega)
                        all_goals
                          refine wl_yes rfl rfl ?_
                          refine wl_val (r_move rfl) (ltn rfl) ?_
                          refine wl_yes rfl rfl ?_
                          refine wl_eff (e_call (r_call rfl Tryd.func23 rfl rfl) (buf_point_ret HD21)) (ltn rfl) ?_
                          rintro _ _ ⟨rfl, rfl⟩
                          refine wl_yes rfl rfl ?_
                          refine wl_val (r_lss rfl rfl) (ltn rfl) ?_
                          refine wl_val (r_pick_f rfl rfl) (ltn rfl) ?_
                          refine wl_split rfl (ltn rfl) (fun h14 => ?_) (fun h14 => ?_)
                          · (try simp only [beq_iff_eq, bne_iff_ne, ne_eq, decide_eq_true_eq, decide_eq_false_iff_not, beq_eq_false_iff_ne, bne_eq_false_iff_eq, Bool.not_eq_true', Bool.not_eq_false', Bool.not_eq_eq_eq_not, Bool.not_true, Bool.not_false, gt_iff_lt, ge_iff_le, Int.not_lt, Int.not_le] at h14)
                            try (exfalso; first | contradiction | omega)
                            all_goals
                              refine wl_no rfl rfl rfl (ltn rfl) ?_
                              refine wl_no rfl rfl rfl (ltn rfl) ?_
                              refine wl_no rfl rfl rfl (ltn rfl) ?_
                              refine wl_no rfl rfl rfl (ltn rfl) ?_
                              refine wl_no rfl rfl rfl (ltn rfl) ?_
                              refine wl_val (r_pick_t rfl rfl) (ltn rfl) ?_
                              refine wl_val (r_move rfl) (ltn rfl) ?_
                              refine wl_no rfl rfl rfl (ltn rfl) ?_
                              refine wl_no rfl rfl rfl (ltn rfl) ?_
                              refine wl_no rfl rfl rfl (ltn rfl) ?_
                              refine wl_val (r_pick_t rfl rfl) (ltn rfl) ?_
                              refine wl_val (r_move rfl) (ltn rfl) ?_
                              refine wl_no rfl rfl rfl (ltn rfl) ?_
                              refine wl_no rfl rfl rfl (ltn rfl) ?_
                              refine wl_no rfl rfl rfl (ltn rfl) ?_
                              refine wl_no rfl rfl rfl (ltn rfl) ?_
                              refine wl_no rfl rfl rfl (ltn rfl) ?_
                              refine wl_val (r_pick_t rfl rfl) (ltn rfl) ?_
                              refine wl_nil ?_
                              refine wq_seq ?_
                              refine wc_cond_t rfl ?_
                              refine wc_seq ?_
                              refine wc_region ?_
                              refine wl_val (r_assign rfl) (ltn rfl) ?_
                              refine wl_nil ?_
                              refine wq_seq ?_
                              refine wc_ret ?_
                              refine wq_block_ret ?_
                              refine wq_then_ret ?_
                              refine wq_then_ret ?_
                              refine wq_block_ret ?_
                              refine wq_then_ret ?_
                              refine wq_end1 (.inl rfl) Tryd.results8 rfl ?_
                              exact ⟨rfl, HD21.base⟩
                          · (try simp only [beq_iff_eq, bne_iff_ne, ne_eq, decide_eq_true_eq, decide_eq_false_iff_not, beq_eq_false_iff_ne, bne_eq_false_iff_eq, Bool.not_eq_true', Bool.not_eq_false', Bool.not_eq_eq_eq_not, Bool.not_true, Bool.not_false, gt_iff_lt, ge_iff_le, Int.not_lt, Int.not_le] at h14)
                            try (exfalso; first | contradiction | omega)
                            all_goals
                              refine wl_yes rfl rfl ?_
                              refine wl_val (r_move rfl) (ltn rfl) ?_
                              refine wl_yes rfl rfl ?_
                              refine wl_eff (e_call (r_call rfl Tryd.func23 rfl rfl) (buf_point_ret HD21)) (ltn rfl) ?_
                              rintro _ _ ⟨rfl, rfl⟩
                              refine wl_yes rfl rfl ?_
                              refine wl_val (r_move rfl) (ltn rfl) ?_
                              refine wl_yes rfl rfl ?_
                              refine wl_eff (e_call (r_call rfl Tryd.func45 rfl rfl) (buf_len_ret HD21)) (ltn rfl) ?_
                              rintro _ w24 ⟨rfl, hD24⟩
                              have HD24 := HD21.drewn hD24
                              refine wl_yes rfl rfl ?_
                              refine wl_val (r_gtr rfl rfl) (ltn rfl) ?_
                              refine wl_val (r_pick_f rfl rfl) (ltn rfl) ?_
                              refine wl_split rfl (ltn rfl) (fun h15 => ?_) (fun h15 => ?_)
                              · (try simp only [beq_iff_eq, bne_iff_ne, ne_eq, decide_eq_true_eq, decide_eq_false_iff_not, beq_eq_false_iff_ne, bne_eq_false_iff_eq, Bool.not_eq_true', Bool.not_eq_false', Bool.not_eq_eq_eq_not, Bool.not_true, Bool.not_false, gt_iff_lt, ge_iff_le, Int.not_lt, Int.not_le] at h15)
                                try (exfalso; first | contradiction | omega)
                                all_goals
                                  refine wl_no rfl rfl rfl (ltn rfl) ?_
                                  refine wl_no rfl rfl rfl (ltn rfl) ?_
                                  refine wl_no rfl rfl rfl (ltn rfl) ?_
                                  refine wl_val (r_pick_t rfl rfl) (ltn rfl) ?_
                                  refine wl_val (r_move rfl) (ltn rfl) ?_
                                  refine wl_no rfl rfl rfl (ltn rfl) ?_
                                  refine wl_no rfl rfl rfl (ltn rfl) ?_
                                  refine wl_no rfl rfl rfl (ltn rfl) ?_
                                  refine wl_no rfl rfl rfl (ltn rfl) ?_
                                  refine wl_no rfl rfl rfl (ltn rfl) ?_
                                  refine wl_val (r_pick_t rfl rfl) (ltn rfl) ?_
                                  refine wl_nil ?_
                                  refine wq_seq ?_
                                  refine wc_cond_t rfl ?_
                                  refine wc_seq ?_
                                  refine wc_region ?_
                                  refine wl_val (r_assign rfl) (ltn rfl) ?_
                                  refine wl_nil ?_
                                  refine wq_seq ?_
                                  refine wc_ret ?_
                                  refine wq_block_ret ?_
                                  refine wq_then_ret ?_
                                  refine wq_then_ret ?_
                                  refine wq_block_ret ?_
                                  refine wq_then_ret ?_
                                  refine wq_end1 (.inl rfl) Tryd.results8 rfl ?_
                                  exact ⟨rfl, HD24.base⟩
                              · (try simp only [beq_iff_eq, bne_iff_ne, ne_eq, decide_eq_true_eq, decide_eq_false_iff_not, beq_eq_false_iff_ne, bne_eq_false_iff_eq, Bool.not_eq_true', Bool.not_eq_false', Bool.not_eq_eq_eq_not, Bool.not_true, Bool.not_false, gt_iff_lt, ge_iff_le, Int.not_lt, Int.not_le] at h15)
                                try (exfalso; first | contradiction | omega)
                                all_goals
                                  refine wl_yes rfl rfl ?_
                                  refine wl_val (r_move rfl) (ltn rfl) ?_
                                  refine wl_yes rfl rfl ?_
                                  refine wl_eff (e_call (r_call rfl Tryd.func46 rfl rfl) (buf_mark_ret HD24)) (ltn rfl) ?_
                                  rintro _ _ ⟨rfl, rfl⟩
                                  refine wl_yes rfl rfl ?_
                                  refine wl_val (r_lss rfl rfl) (ltn rfl) ?_
                                  refine wl_val (r_pick_f rfl rfl) (ltn rfl) ?_
                                  refine wl_split rfl (ltn rfl) (fun h16 => ?_) (fun h16 => ?_)
                                  · (try simp only [beq_iff_eq, bne_iff_ne, ne_eq, decide_eq_true_eq, decide_eq_false_iff_not, beq_eq_false_iff_ne, bne_eq_false_iff_eq, Bool.not_eq_true', Bool.not_eq_false', Bool.not_eq_eq_eq_not, Bool.not_true, Bool.not_false, gt_iff_lt, ge_iff_le, Int.not_lt, Int.not_le] at h16)
                                    try (exfalso; first | contradiction | omega)
                                    all_goals
                                      refine wl_no rfl rfl rfl (ltn rfl) ?_
                                      refine wl_no rfl rfl rfl (ltn rfl) ?_
                                      refine wl_no rfl rfl rfl (ltn rfl) ?_
                                      refine wl_no rfl rfl rfl (ltn rfl) ?_
                                      refine wl_no rfl rfl rfl (ltn rfl) ?_
                                      refine wl_val (r_pick_t rfl rfl) (ltn rfl) ?_
                                      refine wl_nil ?_
                                      refine wq_seq ?_
                                      refine wc_cond_t rfl ?_
                                      refine wc_seq ?_
                                      refine wc_region ?_
                                      refine wl_val (r_assign rfl) (ltn rfl) ?_
                                      refine wl_nil ?_
                                      refine wq_seq ?_
                                      refine wc_ret ?_
                                      refine wq_block_ret ?_
                                      refine wq_then_ret ?_
                                      refine wq_then_ret ?_
                                      refine wq_block_ret ?_
                                      refine wq_then_ret ?_
                                      refine wq_end1 (.inl rfl) Tryd.results8 rfl ?_
                                      exact ⟨rfl, HD24.base⟩
                                  · (try simp only [beq_iff_eq, bne_iff_ne, ne_eq, decide_eq_true_eq, decide_eq_false_iff_not, beq_eq_false_iff_ne, bne_eq_false_iff_eq, Bool.not_eq_true', Bool.not_eq_false', Bool.not_eq_eq_eq_not, Bool.not_true, Bool.not_false, gt_iff_lt, ge_iff_le, Int.not_lt, Int.not_le] at h16)
                                    try (exfalso; first | contradiction | omega)
                                    all_goals
                                      refine wl_yes rfl rfl ?_
                                      refine wl_val (r_move rfl) (ltn rfl) ?_
                                      refine wl_yes rfl rfl ?_
                                      refine wl_eff (e_call (r_call rfl Tryd.func46 rfl rfl) (buf_mark_ret HD24)) (ltn rfl) ?_
                                      rintro _ _ ⟨rfl, rfl⟩
                                      refine wl_yes rfl rfl ?_
                                      refine wl_val (r_move rfl) (ltn rfl) ?_
                                      refine wl_yes rfl rfl ?_
                                      refine wl_eff (e_call (r_call rfl Tryd.func45 rfl rfl) (buf_len_ret HD24)) (ltn rfl) ?_
                                      rintro _ w27 ⟨rfl, hD27⟩
                                      have HD27 := HD24.drewn hD27
                                      refine wl_yes rfl rfl ?_
                                      refine wl_val (r_gtr rfl rfl) (ltn rfl) ?_
                                      refine wl_val (r_pick_f rfl rfl) (ltn rfl) ?_
                                      refine wl_nil ?_
                                      refine wq_seq ?_
                                      refine wc_cond rfl (fun h17 => ?_) (fun h17 => ?_)
                                      · (try simp only [beq_iff_eq, bne_iff_ne, ne_eq, decide_eq_true_eq, decide_eq_false_iff_not, beq_eq_false_iff_ne, bne_eq_false_iff_eq, Bool.not_eq_true', Bool.not_eq_false', Bool.not_eq_eq_eq_not, Bool.not_true, Bool.not_false, gt_iff_lt, ge_iff_le, Int.not_lt, Int.not_le] at h17)
                                        try (exfalso; first | contradiction | omega)
                                        all_goals
                                          
                                          refine wc_seq ?_
                                          refine wc_region ?_
                                          refine wl_val (r_assign rfl) (ltn rfl) ?_
                                          refine wl_nil ?_
                                          refine wq_seq ?_
                                          refine wc_ret ?_
                                          refine wq_block_ret ?_
                                          refine wq_then_ret ?_
                                          refine wq_then_ret ?_
                                          refine wq_block_ret ?_
                                          refine wq_then_ret ?_
                                          refine wq_end1 (.inl rfl) Tryd.results8 rfl ?_
                                          exact ⟨rfl, HD27.base⟩
                                      · (try simp only [beq_iff_eq, bne_iff_ne, ne_eq, decide_eq_true_eq, decide_eq_false_iff_not, beq_eq_false_iff_ne, bne_eq_false_iff_eq, Bool.not_eq_true', Bool.not_eq_false', Bool.not_eq_eq_eq_not, Bool.not_true, Bool.not_false, gt_iff_lt, ge_iff_le, Int.not_lt, Int.not_le] at h17)
                                        try (exfalso; first | contradiction | omega)
                                        all_goals
                                          
                                          refine wc_skip ?_
                                          refine wq_block_normal ?_
                                          refine wq_seq ?_
                                          refine wc_region ?_
                                          refine wl_val (r_add rfl rfl (by omega)) (ltn rfl) ?_
                                          refine wl_val (r_move rfl) (ltn rfl) ?_
                                          refine wl_nil ?_
                                          refine wq_round (k + 1) ?_ ?_ ?_ ?_
                                          · exact (Sub.cons rfl (Sub.nil _))
                                          · exact (Sub.cons rfl (Sub.cons rfl (Sub.cons rfl (Sub.nil _))))
                                          · (try dsimp only)
                                            exact ⟨by omega, _, _, _, HD27.f2.right.f2.right⟩
                                          · (try dsimp only); omega
                · skip
                  refine wc_seq ?_
                  refine wc_region ?_
                  refine wl_val ((by first | exact r_field0 0 Tryd.underlying26 rfl rfl Tryd.sizeOf3 (by decide) rfl | exact r_field 0 Tryd.underlying26 rfl rfl Tryd.sizeOf3 (by decide) rfl)) (ltn rfl) ?_
                  refine wl_val (r_load (plain_of Tryd.underlying3 rfl) rfl (cell_of_blk (H10.f4).get.2 rfl)) (ltn rfl) ?_
                  refine wl_nil ?_
                  refine wq_seq ?_
                  refine wc_block ?_
                  refine wc_seq ?_
                  refine wc_region ?_
                  refine wl_val (r_eql rfl rfl) (ltn rfl) ?_
                  refine wl_val (r_assign rfl) (ltn rfl) ?_
                  refine wl_nil ?_
                  refine wq_seq ?_
                  refine wc_cond rfl (fun h18 => ?_) (fun h18 => ?_)
                  · (try simp only [beq_iff_eq, bne_iff_ne, ne_eq, decide_eq_true_eq, decide_eq_false_iff_not, beq_eq_false_iff_ne, bne_eq_false_iff_eq, Bool.not_eq_true', Bool.not_eq_false', Bool.not_eq_eq_eq_not, Bool.not_true, Bool.not_false, gt_iff_lt, ge_iff_le, Int.not_lt, Int.not_le] at h18)
                    try (exfalso; first | contradiction | omega)
                    all_goals
                      
                      refine wc_region ?_
                      refine wl_val (r_move rfl) (ltn rfl) ?_
                      refine wl_val ((by first | exact r_field0 3 Tryd.underlying26 rfl rfl Tryd.sizeOf22 (by decide) rfl | exact r_field 3 Tryd.underlying26 rfl rfl Tryd.sizeOf22 (by decide) rfl)) (ltn rfl) ?_
                      refine wl_val (r_load (plain_of Tryd.underlying22 rfl) rfl (cell_of_blk (H10.f4).get.2 rfl)) (ltn rfl) ?_
                      refine wl_eff (e_call (r_call rfl Tryd.func19 rfl rfl) (buf_insert_any H10.f3 (fun W HW => f1 _ (HW.right.right.right)))) (ltn rfl) ?_
                      rintro _ w28 ⟨d28, s28, rfl, H28⟩
                      refine wl_val (r_move rfl) (ltn rfl) ?_
                      refine wl_val (r_extract rfl rfl) (ltn rfl) ?_
                      refine wl_val (r_extract rfl rfl) (ltn rfl) ?_
                      refine wl_val (r_assign rfl) (ltn rfl) ?_
                      refine wl_nil ?_
                      refine wq_block_normal ?_
                      refine wq_join (_) (Sub.cons rfl (Sub.nil _)) (Sub.cons rfl (Sub.cons rfl (Sub.cons rfl (Sub.cons rfl (Sub.cons rfl (Sub.nil _)))))) (by (try dsimp only); exact ⟨_, _, _, _, by first | exact repl_same | exact app_same | exact sm_same | exact sw_same | exact mv_same | exact fun h => absurd rfl h, H28.right.right.f4.right.f2.f3.f3⟩)
                  · (try simp only [beq_iff_eq, bne_iff_ne, ne_eq, decide_eq_true_eq, decide_eq_false_iff_not, beq_eq_false_iff_ne, bne_eq_false_iff_eq, Bool.not_eq_true', Bool.not_eq_false', Bool.not_eq_eq_eq_not, Bool.not_true, Bool.not_false, gt_iff_lt, ge_iff_le, Int.not_lt, Int.not_le] at h18)
                    try (exfalso; first | contradiction | omega)
                    all_goals
                      
                      refine wc_seq ?_
                      refine wc_region ?_
                      refine wl_val (r_eql rfl rfl) (ltn rfl) ?_
                      refine wl_val (r_assign rfl) (ltn rfl) ?_
                      refine wl_nil ?_
                      refine wq_seq ?_
                      refine wc_cond rfl (fun h19 => ?_) (fun h19 => ?_)
                      · (try simp only [beq_iff_eq, bne_iff_ne, ne_eq, decide_eq_true_eq, decide_eq_false_iff_not, beq_eq_false_iff_ne, bne_eq_false_iff_eq, Bool.not_eq_true', Bool.not_eq_false', Bool.not_eq_eq_eq_not, Bool.not_true, Bool.not_false, gt_iff_lt, ge_iff_le, Int.not_lt, Int.not_le] at h19)
                        try (exfalso; first | contradiction | omega)
                        all_goals
                          
                          refine wc_region ?_
                          refine wl_val (r_move rfl) (ltn rfl) ?_
                          refine wl_val ((by first | exact r_field0 1 Tryd.underlying26 rfl rfl Tryd.sizeOf3 (by decide) rfl | exact r_field 1 Tryd.underlying26 rfl rfl Tryd.sizeOf3 (by decide) rfl)) (ltn rfl) ?_
                          refine wl_val (r_load (plain_of Tryd.underlying3 rfl) rfl (cell_of_blk (H10.f4).get.2 rfl)) (ltn rfl) ?_
                          refine wl_val ((by first | exact r_field0 2 Tryd.underlying26 rfl rfl Tryd.sizeOf3 (by decide) rfl | exact r_field 2 Tryd.underlying26 rfl rfl Tryd.sizeOf3 (by decide) rfl)) (ltn rfl) ?_
                          refine wl_val (r_load (plain_of Tryd.underlying3 rfl) rfl (cell_of_blk (H10.f4).get.2 rfl)) (ltn rfl) ?_
                          refine wl_eff (e_call (r_call rfl Tryd.func41 rfl rfl) (buf_delete_ret H10.f3)) (ltn rfl) ?_
                          rintro _ w29 ⟨d29, s29, rfl, H29⟩
                          refine wl_val (r_move rfl) (ltn rfl) ?_
                          refine wl_val (r_extract rfl rfl) (ltn rfl) ?_
                          refine wl_val (r_extract rfl rfl) (ltn rfl) ?_
                          refine wl_val (r_assign rfl) (ltn rfl) ?_
                          refine wl_nil ?_
                          refine wq_block_normal ?_
                          refine wq_join (_) (Sub.cons rfl (Sub.nil _)) (Sub.cons rfl (Sub.cons rfl (Sub.cons rfl (Sub.cons rfl (Sub.cons rfl (Sub.nil _)))))) (by (try dsimp only); exact ⟨_, _, _, _, by first | exact repl_same | exact app_same | exact sm_same | exact sw_same | exact mv_same | exact fun h => absurd rfl h, H29.right.right.f4.right.f2.f3.f3⟩)
                      · (try simp only [beq_iff_eq, bne_iff_ne, ne_eq, decide_eq_true_eq, decide_eq_false_iff_not, beq_eq_false_iff_ne, bne_eq_false_iff_eq, Bool.not_eq_true', Bool.not_eq_false', Bool.not_eq_eq_eq_not, Bool.not_true, Bool.not_false, gt_iff_lt, ge_iff_le, Int.not_lt, Int.not_le] at h19)
                        try (exfalso; first | contradiction | omega)
                        all_goals
                          
                          refine wc_seq ?_
                          refine wc_region ?_
                          refine wl_val (r_eql rfl rfl) (ltn rfl) ?_
                          refine wl_val (r_assign rfl) (ltn rfl) ?_
                          refine wl_nil ?_
                          refine wq_seq ?_
                          refine wc_cond rfl (fun h20 => ?_) (fun h20 => ?_)
                          · (try simp only [beq_iff_eq, bne_iff_ne, ne_eq, decide_eq_true_eq, decide_eq_false_iff_not, beq_eq_false_iff_ne, bne_eq_false_iff_eq, Bool.not_eq_true', Bool.not_eq_false', Bool.not_eq_eq_eq_not, Bool.not_true, Bool.not_false, gt_iff_lt, ge_iff_le, Int.not_lt, Int.not_le] at h20)
                            try (exfalso; first | contradiction | omega)
                            all_goals
                              
                              refine wc_region ?_
                              refine wl_val (r_move rfl) (ltn rfl) ?_
                              refine wl_val ((by first | exact r_field0 1 Tryd.underlying26 rfl rfl Tryd.sizeOf3 (by decide) rfl | exact r_field 1 Tryd.underlying26 rfl rfl Tryd.sizeOf3 (by decide) rfl)) (ltn rfl) ?_
                              refine wl_val (r_load (plain_of Tryd.underlying3 rfl) rfl (cell_of_blk (H10.f4).get.2 rfl)) (ltn rfl) ?_
                              refine wl_val ((by first | exact r_field0 2 Tryd.underlying26 rfl rfl Tryd.sizeOf3 (by decide) rfl | exact r_field 2 Tryd.underlying26 rfl rfl Tryd.sizeOf3 (by decide) rfl)) (ltn rfl) ?_
                              refine wl_val (r_load (plain_of Tryd.underlying3 rfl) rfl (cell_of_blk (H10.f4).get.2 rfl)) (ltn rfl) ?_
                              refine wl_val ((by first | exact r_field0 3 Tryd.underlying26 rfl rfl Tryd.sizeOf22 (by decide) rfl | exact r_field 3 Tryd.underlying26 rfl rfl Tryd.sizeOf22 (by decide) rfl)) (ltn rfl) ?_
                              refine wl_val (r_load (plain_of Tryd.underlying22 rfl) rfl (cell_of_blk (H10.f4).get.2 rfl)) (ltn rfl) ?_
                              refine wl_eff (e_call (r_call rfl Tryd.func13 rfl rfl) (buf_replace_ret H10.f3 (fun W HW => f1 _ (HW.right.right.right)))) (ltn rfl) ?_
                              rintro _ w30 ⟨d30, s30, rfl, H30⟩
                              refine wl_val (r_move rfl) (ltn rfl) ?_
                              refine wl_val (r_extract rfl rfl) (ltn rfl) ?_
                              refine wl_val (r_extract rfl rfl) (ltn rfl) ?_
                              refine wl_val (r_assign rfl) (ltn rfl) ?_
                              refine wl_nil ?_
                              refine wq_block_normal ?_
                              refine wq_join (_) (Sub.cons rfl (Sub.nil _)) (Sub.cons rfl (Sub.cons rfl (Sub.cons rfl (Sub.cons rfl (Sub.cons rfl (Sub.nil _)))))) (by (try dsimp only); exact ⟨_, _, _, _, by first | exact repl_same | exact app_same | exact sm_same | exact sw_same | exact mv_same | exact fun h => absurd rfl h, H30.right.right.f4.right.f2.f3.f3⟩)
                          · (try simp only [beq_iff_eq, bne_iff_ne, ne_eq, decide_eq_true_eq, decide_eq_false_iff_not, beq_eq_false_iff_ne, bne_eq_false_iff_eq, Bool.not_eq_true', Bool.not_eq_false', Bool.not_eq_eq_eq_not, Bool.not_true, Bool.not_false, gt_iff_lt, ge_iff_le, Int.not_lt, Int.not_le] at h20)
                            try (exfalso; first | contradiction | omega)
                            all_goals
                              
                              refine wc_seq ?_
                              refine wc_region ?_
                              refine wl_val (r_eql rfl rfl) (ltn rfl) ?_
                              refine wl_val (r_assign rfl) (ltn rfl) ?_
                              refine wl_nil ?_
                              refine wq_seq ?_
                              refine wc_cond rfl (fun h21 => ?_) (fun h21 => ?_)
                              · (try simp only [beq_iff_eq, bne_iff_ne, ne_eq, decide_eq_true_eq, decide_eq_false_iff_not, beq_eq_false_iff_ne, bne_eq_false_iff_eq, Bool.not_eq_true', Bool.not_eq_false', Bool.not_eq_eq_eq_not, Bool.not_true, Bool.not_false, gt_iff_lt, ge_iff_le, Int.not_lt, Int.not_le] at h21)
                                try (exfalso; first | contradiction | omega)
                                all_goals
                                  
                                  refine wc_region ?_
                                  refine wl_val (r_move rfl) (ltn rfl) ?_
                                  refine wl_val ((by first | exact r_field0 4 Tryd.underlying26 rfl rfl Tryd.sizeOf24 (by decide) rfl | exact r_field 4 Tryd.underlying26 rfl rfl Tryd.sizeOf24 (by decide) rfl)) (ltn rfl) ?_
                                  refine wl_val (r_load_part 4 (xs := [_, _, _]) Tryd.underlying24 rfl Tryd.sizeOf24 rfl rfl (H10.f4).get.2 rfl) (ltn rfl) ?_
                                  refine wl_eff (e_call (r_call rfl Tryd.func24 rfl rfl) (buf_apply_ret H10.f3 (fun W HW => f2 _ (HW.right.right.right)) (fun W HW => f3 _ (HW.right.right.right)))) (ltn rfl) ?_
                                  rintro _ w31 ⟨rfl, H31⟩
                                  refine wl_val (r_assign rfl) (ltn rfl) ?_
                                  refine wl_nil ?_
                                  refine wq_block_normal ?_
                                  refine wq_join (_) (Sub.cons rfl (Sub.nil _)) (Sub.cons rfl (Sub.cons rfl (Sub.cons rfl (Sub.cons rfl (Sub.cons rfl (Sub.nil _)))))) (by (try dsimp only); exact ⟨_, _, _, _, by first | exact repl_same | exact app_same | exact sm_same | exact sw_same | exact mv_same | exact fun h => absurd rfl h, H31.f4.right.f2.f3.f3⟩)
                              · (try simp only [beq_iff_eq, bne_iff_ne, ne_eq, decide_eq_true_eq, decide_eq_false_iff_not, beq_eq_false_iff_ne, bne_eq_false_iff_eq, Bool.not_eq_true', Bool.not_eq_false', Bool.not_eq_eq_eq_not, Bool.not_true, Bool.not_false, gt_iff_lt, ge_iff_le, Int.not_lt, Int.not_le] at h21)
                                try (exfalso; first | contradiction | omega)
                                all_goals
                                  
                                  refine wc_seq ?_
                                  refine wc_region ?_
                                  refine wl_val (r_eql rfl rfl) (ltn rfl) ?_
                                  refine wl_val (r_assign rfl) (ltn rfl) ?_
                                  refine wl_nil ?_
                                  refine wq_seq ?_
                                  refine wc_cond rfl (fun h22 => ?_) (fun h22 => ?_)
                                  · (try simp only [beq_iff_eq, bne_iff_ne, ne_eq, decide_eq_true_eq, decide_eq_false_iff_not, beq_eq_false_iff_ne, bne_eq_false_iff_eq, Bool.not_eq_true', Bool.not_eq_false', Bool.not_eq_eq_eq_not, Bool.not_true, Bool.not_false, gt_iff_lt, ge_iff_le, Int.not_lt, Int.not_le] at h22)
                                    try (exfalso; first | contradiction | omega)
                                    all_goals
                                      
                                      refine wc_region ?_
                                      refine wl_val (r_move rfl) (ltn rfl) ?_
                                      refine wl_val ((by first | exact r_field0 1 Tryd.underlying26 rfl rfl Tryd.sizeOf3 (by decide) rfl | exact r_field 1 Tryd.underlying26 rfl rfl Tryd.sizeOf3 (by decide) rfl)) (ltn rfl) ?_
                                      refine wl_val (r_load (plain_of Tryd.underlying3 rfl) rfl (cell_of_blk (H10.f4).get.2 rfl)) (ltn rfl) ?_
                                      refine wl_eff (e_call (r_call rfl Tryd.func17 rfl rfl) (buf_move_ret H10.f3)) (ltn rfl) ?_
                                      rintro _ w32 ⟨rfl, H32⟩
                                      refine wl_val (r_assign rfl) (ltn rfl) ?_
                                      refine wl_nil ?_
                                      refine wq_block_normal ?_
                                      refine wq_join (_) (Sub.cons rfl (Sub.nil _)) (Sub.cons rfl (Sub.cons rfl (Sub.cons rfl (Sub.cons rfl (Sub.cons rfl (Sub.nil _)))))) (by (try dsimp only); exact ⟨_, _, _, _, by first | exact repl_same | exact app_same | exact sm_same | exact sw_same | exact mv_same | exact fun h => absurd rfl h, H32.f4.right.f2.f3.f3⟩)
                                  · (try simp only [beq_iff_eq, bne_iff_ne, ne_eq, decide_eq_true_eq, decide_eq_false_iff_not, beq_eq_false_iff_ne, bne_eq_false_iff_eq, Bool.not_eq_true', Bool.not_eq_false', Bool.not_eq_eq_eq_not, Bool.not_true, Bool.not_false, gt_iff_lt, ge_iff_le, Int.not_lt, Int.not_le] at h22)
                                    try (exfalso; first | contradiction | omega)
                                    all_goals
                                      
                                      refine wc_seq ?_
                                      refine wc_region ?_
                                      refine wl_val (r_eql rfl rfl) (ltn rfl) ?_
                                      refine wl_val (r_assign rfl) (ltn rfl) ?_
                                      refine wl_nil ?_
                                      refine wq_seq ?_
                                      refine wc_cond rfl (fun h23 => ?_) (fun h23 => ?_)
                                      · (try simp only [beq_iff_eq, bne_iff_ne, ne_eq, decide_eq_true_eq, decide_eq_false_iff_not, beq_eq_false_iff_ne, bne_eq_false_iff_eq, Bool.not_eq_true', Bool.not_eq_false', Bool.not_eq_eq_eq_not, Bool.not_true, Bool.not_false, gt_iff_lt, ge_iff_le, Int.not_lt, Int.not_le] at h23)
                                        try (exfalso; first | contradiction | omega)
                                        all_goals
                                          
                                          refine wc_region ?_
                                          refine wl_val (r_move rfl) (ltn rfl) ?_
                                          refine wl_val ((by first | exact r_field0 1 Tryd.underlying26 rfl rfl Tryd.sizeOf3 (by decide) rfl | exact r_field 1 Tryd.underlying26 rfl rfl Tryd.sizeOf3 (by decide) rfl)) (ltn rfl) ?_
                                          refine wl_val (r_load (plain_of Tryd.underlying3 rfl) rfl (cell_of_blk (H10.f4).get.2 rfl)) (ltn rfl) ?_
                                          refine wl_eff (e_call (r_call rfl Tryd.func42 rfl rfl) (buf_setmark_ret H10.f3)) (ltn rfl) ?_
                                          rintro _ w33 ⟨rfl, H33⟩
                                          refine wl_val (r_assign rfl) (ltn rfl) ?_
                                          refine wl_nil ?_
                                          refine wq_block_normal ?_
                                          refine wq_join (_) (Sub.cons rfl (Sub.nil _)) (Sub.cons rfl (Sub.cons rfl (Sub.cons rfl (Sub.cons rfl (Sub.cons rfl (Sub.nil _)))))) (by (try dsimp only); exact ⟨_, _, _, _, by first | exact repl_same | exact app_same | exact sm_same | exact sw_same | exact mv_same | exact fun h => absurd rfl h, H33.f4.right.f2.f3.f3⟩)
                                      · (try simp only [beq_iff_eq, bne_iff_ne, ne_eq, decide_eq_true_eq, decide_eq_false_iff_not, beq_eq_false_iff_ne, bne_eq_false_iff_eq, Bool.not_eq_true', Bool.not_eq_false', Bool.not_eq_eq_eq_not, Bool.not_true, Bool.not_false, gt_iff_lt, ge_iff_le, Int.not_lt, Int.not_le] at h23)
                                        try (exfalso; first | contradiction | omega)
                                        all_goals
                                          
                                          refine wc_seq ?_
                                          refine wc_region ?_
                                          refine wl_val (r_eql rfl rfl) (ltn rfl) ?_
                                          refine wl_val (r_assign rfl) (ltn rfl) ?_
                                          refine wl_nil ?_
                                          refine wq_seq ?_
                                          refine wc_cond rfl (fun h24 => ?_) (fun h24 => ?_)
                                          · (try simp only [beq_iff_eq, bne_iff_ne, ne_eq, decide_eq_true_eq, decide_eq_false_iff_not, beq_eq_false_iff_ne, bne_eq_false_iff_eq, Bool.not_eq_true', Bool.not_eq_false', Bool.not_eq_eq_eq_not, Bool.not_true, Bool.not_false, gt_iff_lt, ge_iff_le, Int.not_lt, Int.not_le] at h24)
                                            try (exfalso; first | contradiction | omega)
                                            all_goals
                                              
                                              refine wc_region ?_
                                              refine wl_val (r_move rfl) (ltn rfl) ?_
                                              refine wl_eff (e_call (r_call rfl Tryd.func43 rfl rfl) (buf_swap_ret H10.f3)) (ltn rfl) ?_
                                              rintro _ w34 ⟨rfl, H34⟩
                                              refine wl_val (r_assign rfl) (ltn rfl) ?_
                                              refine wl_nil ?_
                                              refine wq_block_normal ?_
                                              refine wq_join (_) (Sub.cons rfl (Sub.nil _)) (Sub.cons rfl (Sub.cons rfl (Sub.cons rfl (Sub.cons rfl (Sub.cons rfl (Sub.nil _)))))) (by (try dsimp only); exact ⟨_, _, _, _, by first | exact repl_same | exact app_same | exact sm_same | exact sw_same | exact mv_same | exact fun h => absurd rfl h, H34.f4.right.f2.f3.f3⟩)
                                          · (try simp only [beq_iff_eq, bne_iff_ne, ne_eq, decide_eq_true_eq, decide_eq_false_iff_not, beq_eq_false_iff_ne, bne_eq_false_iff_eq, Bool.not_eq_true', Bool.not_eq_false', Bool.not_eq_eq_eq_not, Bool.not_true, Bool.not_false, gt_iff_lt, ge_iff_le, Int.not_lt, Int.not_le] at h24)
                                            try (exfalso; first | contradiction | omega)
                                            all_goals
                                              
                                              refine wc_skip ?_
                                              refine wq_block_normal ?_
                                              refine wq_join (_) (Sub.cons rfl (Sub.nil _)) (Sub.cons rfl (Sub.cons rfl (Sub.cons rfl (Sub.cons rfl (Sub.cons rfl (Sub.nil _)))))) (by (try dsimp only); exact ⟨_, _, _, _, by first | exact repl_same | exact app_same | exact sm_same | exact sw_same | exact mv_same | exact fun h => absurd rfl h, H10.f4.right.f2.f3⟩)
            · (try simp only [beq_iff_eq, bne_iff_ne, ne_eq, decide_eq_true_eq, decide_eq_false_iff_not, beq_eq_false_iff_ne, bne_eq_false_iff_eq, Bool.not_eq_true', Bool.not_eq_false', Bool.not_eq_eq_eq_not, Bool.not_true, Bool.not_false, gt_iff_lt, ge_iff_le, Int.not_lt, Int.not_le] at h5)
              try (exfalso; first | contradiction | omega)
              all_goals
                
                refine wc_exit ?_
                refine wq_then_exit ?_
                refine wq_then_exit ?_
                refine wq_block_hit ?_
                refine wq_seq ?_
                refine wc_seq ?_
                refine wc_region ?_
                refine wl_val (r_assign rfl) (ltn rfl) ?_
                refine wl_nil ?_
                refine wq_seq ?_
                refine wc_ret ?_
                refine wq_end1 (.inl rfl) Tryd.results8 rfl ?_
                exact ⟨rfl, HL.base⟩
end Go.Proofs.YtlldaaamdchkdaaDoor
