/- The document's words: runes, states, walked. -/
import Derived.Test.YtgoopiakpbcgoaaShW2
set_option linter.unusedSimpArgs false
set_option linter.unusedVariables false
namespace Go.Proofs.Ytgoopiakpbcgoaa
open Go.RowKit Go.Lib
def sbs (s : ByteArray) : List Int := (List.range s.size).map (sb s)
theorem sbs_mem {s : ByteArray} {c : Int} : c ∈ sbs s ↔ ∃ i, i < s.size ∧ sb s i = c := by simp [sbs]
theorem sb_in (s : ByteArray) (i : Nat) : 0 ≤ sb s i ∧ sb s i < 256 := by unfold sb; have := (s.data.toList.getD i 0).toNat_lt; omega
/-- What the document's reading knows. -/
structure RS (l : List Int) (k : Nat) (sv en : Int) : Prop where
  le : k ≤ l.length
  b : (stS l k).2 = false
  kind : sv = quoS l k
  ends : sv ≠ 0 → en = (stS l k).1
theorem qset (l : List Int) : ∀ s : St, (s.1 = 0 ∨ s.1 = 39 ∨ s.1 = 34 ∨ s.1 = 96) → ((l.foldl nextS s).1 = 0 ∨ (l.foldl nextS s).1 = 39 ∨ (l.foldl nextS s).1 = 34 ∨ (l.foldl nextS s).1 = 96) := by
  induction l with
  | nil => intro s h; exact h
  | cons r l ih =>
    intro s h
    refine ih _ ?_
    unfold nextS
    split
    · exact h
    · split
      · exact h
      · split
        · rename_i q; rcases q.2 with q | q | q <;> subst q <;> simp
        · split
          · exact .inl rfl
          · exact h
theorem stS_set (l : List Int) (k : Nat) : (stS l k).1 = 0 ∨ (stS l k).1 = 39 ∨ (stS l k).1 = 34 ∨ (stS l k).1 = 96 := qset _ _ (.inl rfl)
theorem quo_of {l : List Int} {k : Nat} {q : Int} (h : stS l k = (q, false)) : quoS l k = if q = 39 then 1 else if q ≠ 0 then 2 else 0 := by
  unfold quoS kindS; rw [h]; rfl
theorem RS.at {l : List Int} {k : Nat} {sv en : Int} (h : RS l k sv en) : ∃ q, stS l k = (q, false) ∧ (q = 0 ∨ q = 39 ∨ q = 34 ∨ q = 96) ∧ sv = (if q = 39 then 1 else if q ≠ 0 then 2 else 0) ∧ (sv ≠ 0 → en = q) :=
  ⟨(stS l k).1, Prod.ext rfl h.b, stS_set l k, by rw [h.kind]; exact quo_of (Prod.ext rfl h.b), h.ends⟩
theorem RS.mk' {l : List Int} {k : Nat} {sv en q : Int} (hk : k ≤ l.length) (h : stS l k = (q, false)) (h1 : sv = if q = 39 then 1 else if q ≠ 0 then 2 else 0) (h2 : sv ≠ 0 → en = q) : RS l k sv en :=
  ⟨hk, by rw [h], by rw [h1, quo_of h], by rw [h]; exact h2⟩
section
variable {l : List Int} {k : Nat} {sv en : Int}
theorem rs_zero : RS l 0 0 0 := RS.mk' (Nat.zero_le _) (stS_zero l) rfl (fun h => absurd rfl h)
theorem rs_end (h : RS l k sv en) (hk : k < l.length) (h0 : sv ≠ 0) (hc : l.getD k 0 = en) : RS l (k + 1) 0 en := by
  obtain ⟨q, e, hq, hs, he⟩ := h.at
  have hen := he h0
  refine RS.mk' hk (q := 0) ?_ rfl (fun h => absurd rfl h)
  have hq0 : q ≠ 0 := by intro q0; subst q0; rw [hs] at h0; exact h0 rfl
  rw [stS_succ hk, e, hc, hen]
  unfold nextS
  rw [if_neg Bool.false_ne_true, if_neg (by dsimp only; omega), if_neg (by dsimp only; omega), if_pos ⟨hq0, rfl⟩]
theorem rs_one (h : RS l k sv en) (hk : k < l.length) (h0 : sv = 0) (hc : l.getD k 0 = 39) : RS l (k + 1) 1 (l.getD k 0) := by
  obtain ⟨q, e, hq, hs, he⟩ := h.at
  have hq0 : q = 0 := by rw [h0] at hs; rcases hq with h | h | h | h <;> subst h <;> first | rfl | (simp at hs)
  refine RS.mk' hk (q := 39) ?_ rfl (fun _ => hc)
  rw [stS_succ hk, e, hc, hq0]; rfl
theorem rs_two (h : RS l k sv en) (hk : k < l.length) (h0 : sv = 0) (hc : l.getD k 0 = 34 ∨ l.getD k 0 = 96) : RS l (k + 1) 2 (l.getD k 0) := by
  obtain ⟨q, e, hq, hs, he⟩ := h.at
  have hq0 : q = 0 := by rw [h0] at hs; rcases hq with h | h | h | h <;> subst h <;> first | rfl | (simp at hs)
  refine RS.mk' hk (q := l.getD k 0) ?_ ?_ (fun _ => rfl)
  · rw [stS_succ hk, e, hq0]; rcases hc with hc | hc <;> rw [hc] <;> rfl
  · rcases hc with hc | hc <;> rw [hc] <;> rfl
theorem rs_stay (h : RS l k sv en) (hk : k < l.length) (h1 : ¬ (sv ≠ 0 ∧ l.getD k 0 = en)) (h2 : ¬ (sv ≠ 1 ∧ l.getD k 0 = 92)) (h3 : ¬ (sv = 0 ∧ (l.getD k 0 = 39 ∨ l.getD k 0 = 34 ∨ l.getD k 0 = 96))) : RS l (k + 1) sv en := by
  obtain ⟨q, e, hq, hs, he⟩ := h.at
  refine RS.mk' hk (q := q) ?_ hs he
  rw [stS_succ hk, e]
  unfold nextS
  rw [if_neg Bool.false_ne_true, if_neg, if_neg, if_neg]
  · rintro ⟨a, b⟩
    have h5 : sv ≠ 0 := by rw [hs]; dsimp only at a; split; decide; first | decide | (rw [if_pos a]; decide)
    exact h1 ⟨h5, by rw [he h5]; exact b⟩
  · rintro ⟨a, b⟩
    dsimp only at a; subst a
    exact h3 ⟨hs, b⟩
  · rintro ⟨a, b⟩
    refine h2 ⟨?_, a⟩
    rw [hs]; dsimp only at b; rw [if_neg b]; split <;> decide
theorem back_next (h : RS l k sv en) (hk : k < l.length) (h1 : sv ≠ 1) (hc : l.getD k 0 = 92) : ∃ q, stS l k = (q, false) ∧ stS l (k + 1) = (q, true) := by
  obtain ⟨q, e, hq, hs, he⟩ := h.at
  refine ⟨q, e, ?_⟩
  have h39 : q ≠ 39 := fun q39 => h1 (by rw [hs, if_pos q39])
  rw [stS_succ hk, e, hc]
  unfold nextS
  rw [if_neg Bool.false_ne_true, if_pos ⟨rfl, h39⟩]
theorem rs_back (h : RS l k sv en) (hk : k + 1 < l.length) (h1 : sv ≠ 1) (hc : l.getD k 0 = 92) : RS l (k + 1 + 1) sv en := by
  obtain ⟨q, e, e2⟩ := back_next h (by omega) h1 hc
  obtain ⟨q', e', hq, hs, he⟩ := h.at
  obtain rfl : q = q' := by rw [e] at e'; exact (Prod.mk.inj e').1
  refine RS.mk' (by omega) (q := q) ?_ hs he
  rw [stS_succ hk, e2]; rfl
theorem rs_kind (h : RS l k sv en) (hk : k < l.length) (h1 : sv ≠ 1) (hc : l.getD k 0 = 92) : quoS l (k + 1) = 3 := by
  obtain ⟨q, e, e2⟩ := back_next h hk h1 hc
  unfold quoS kindS; rw [e2]; rfl
end
section
variable {w0 w : World} {F : HP} {v u : Value} {l : List Int} {c at_ : Int} {s : ByteArray}
theorem ref_blank_ret : Ret Try.prog 39 #[.int .i32 c] w fun v w' => v = .bool (blankS c) ∧ w = w' := by
  refine ret_enter Try.func39 rfl Try.ntmps39 (Nat.le_of_ble_eq_true rfl) ?_
  dsimp only [slots0, Nat.reduceAdd]
  refine wc_seq ?_
  refine wc_region ?_
  refine wl_val (r_assign rfl) (ltn rfl) ?_
  refine wl_nil ?_
  refine wq_seq ?_
  refine wc_seq ?_
  refine wc_region ?_
  refine wl_val (r_move rfl) (ltn rfl) ?_
  refine wl_val (r_eql rfl rfl) (ltn rfl) ?_
  refine wl_split rfl (ltn rfl) (fun h1 => ?_) (fun h1 => ?_)
  · (try simp only [beq_iff_eq, bne_iff_ne, ne_eq, decide_eq_true_eq, decide_eq_false_iff_not, beq_eq_false_iff_ne, bne_eq_false_iff_eq, Bool.not_eq_true', Bool.not_eq_false', Bool.not_eq_eq_eq_not, Bool.not_true, Bool.not_false, gt_iff_lt, ge_iff_le, Int.not_lt, Int.not_le] at h1)
    try (exfalso; first | contradiction | omega)
    all_goals
      refine wl_no rfl rfl rfl (ltn rfl) ?_
      refine wl_no rfl rfl rfl (ltn rfl) ?_
      refine wl_val (r_pick_t rfl rfl) (ltn rfl) ?_
      refine wl_val (r_move rfl) (ltn rfl) ?_
      refine wl_no rfl rfl rfl (ltn rfl) ?_
      refine wl_no rfl rfl rfl (ltn rfl) ?_
      refine wl_val (r_pick_t rfl rfl) (ltn rfl) ?_
      refine wl_val (r_assign rfl) (ltn rfl) ?_
      refine wl_nil ?_
      refine wq_seq ?_
      refine wc_ret ?_
      refine wq_end1 (.inl rfl) Try.results39 rfl ?_
      refine ⟨?_, rfl⟩; unfold blankS; congr 1; first | exact (decide_eq_true (by omega)).symm | exact (decide_eq_false (by omega)).symm | (show decide (_ = _) = decide _; exact decide_eq_decide.2 (by constructor <;> omega))
  · (try simp only [beq_iff_eq, bne_iff_ne, ne_eq, decide_eq_true_eq, decide_eq_false_iff_not, beq_eq_false_iff_ne, bne_eq_false_iff_eq, Bool.not_eq_true', Bool.not_eq_false', Bool.not_eq_eq_eq_not, Bool.not_true, Bool.not_false, gt_iff_lt, ge_iff_le, Int.not_lt, Int.not_le] at h1)
    try (exfalso; first | contradiction | omega)
    all_goals
      refine wl_yes rfl rfl ?_
      refine wl_val (r_move rfl) (ltn rfl) ?_
      refine wl_yes rfl rfl ?_
      refine wl_val (r_eql rfl rfl) (ltn rfl) ?_
      refine wl_val (r_pick_f rfl rfl) (ltn rfl) ?_
      refine wl_split rfl (ltn rfl) (fun h2 => ?_) (fun h2 => ?_)
      · (try simp only [beq_iff_eq, bne_iff_ne, ne_eq, decide_eq_true_eq, decide_eq_false_iff_not, beq_eq_false_iff_ne, bne_eq_false_iff_eq, Bool.not_eq_true', Bool.not_eq_false', Bool.not_eq_eq_eq_not, Bool.not_true, Bool.not_false, gt_iff_lt, ge_iff_le, Int.not_lt, Int.not_le] at h2)
        try (exfalso; first | contradiction | omega)
        all_goals
          refine wl_no rfl rfl rfl (ltn rfl) ?_
          refine wl_no rfl rfl rfl (ltn rfl) ?_
          refine wl_val (r_pick_t rfl rfl) (ltn rfl) ?_
          refine wl_val (r_assign rfl) (ltn rfl) ?_
          refine wl_nil ?_
          refine wq_seq ?_
          refine wc_ret ?_
          refine wq_end1 (.inl rfl) Try.results39 rfl ?_
          refine ⟨?_, rfl⟩; unfold blankS; congr 1; first | exact (decide_eq_true (by omega)).symm | exact (decide_eq_false (by omega)).symm | (show decide (_ = _) = decide _; exact decide_eq_decide.2 (by constructor <;> omega))
      · (try simp only [beq_iff_eq, bne_iff_ne, ne_eq, decide_eq_true_eq, decide_eq_false_iff_not, beq_eq_false_iff_ne, bne_eq_false_iff_eq, Bool.not_eq_true', Bool.not_eq_false', Bool.not_eq_eq_eq_not, Bool.not_true, Bool.not_false, gt_iff_lt, ge_iff_le, Int.not_lt, Int.not_le] at h2)
        try (exfalso; first | contradiction | omega)
        all_goals
          refine wl_yes rfl rfl ?_
          refine wl_val (r_move rfl) (ltn rfl) ?_
          refine wl_yes rfl rfl ?_
          refine wl_val (r_eql rfl rfl) (ltn rfl) ?_
          refine wl_val (r_pick_f rfl rfl) (ltn rfl) ?_
          refine wl_val (r_assign rfl) (ltn rfl) ?_
          refine wl_nil ?_
          refine wq_seq ?_
          refine wc_ret ?_
          refine wq_end1 (.inl rfl) Try.results39 rfl ?_
          refine ⟨?_, rfl⟩; unfold blankS; congr 1; first | exact (decide_eq_true (by omega)).symm | exact (decide_eq_false (by omega)).symm | (show decide (_ = _) = decide _; exact decide_eq_decide.2 (by constructor <;> omega))
theorem ref_op_ret : Ret Try.prog 40 #[.int .i32 c] w fun v w' => v = .bool (operS c) ∧ w = w' := by
  refine ret_enter Try.func40 rfl Try.ntmps40 (Nat.le_of_ble_eq_true rfl) ?_
  dsimp only [slots0, Nat.reduceAdd]
  refine wc_seq ?_
  refine wc_region ?_
  refine wl_val (r_assign rfl) (ltn rfl) ?_
  refine wl_nil ?_
  refine wq_seq ?_
  refine wc_seq ?_
  refine wc_region ?_
  refine wl_val (r_move rfl) (ltn rfl) ?_
  refine wl_val (r_eql rfl rfl) (ltn rfl) ?_
  refine wl_split rfl (ltn rfl) (fun h1 => ?_) (fun h1 => ?_)
  · (try simp only [beq_iff_eq, bne_iff_ne, ne_eq, decide_eq_true_eq, decide_eq_false_iff_not, beq_eq_false_iff_ne, bne_eq_false_iff_eq, Bool.not_eq_true', Bool.not_eq_false', Bool.not_eq_eq_eq_not, Bool.not_true, Bool.not_false, gt_iff_lt, ge_iff_le, Int.not_lt, Int.not_le] at h1)
    try (exfalso; first | contradiction | omega)
    all_goals
      refine wl_no rfl rfl rfl (ltn rfl) ?_
      refine wl_no rfl rfl rfl (ltn rfl) ?_
      refine wl_val (r_pick_t rfl rfl) (ltn rfl) ?_
      refine wl_val (r_move rfl) (ltn rfl) ?_
      refine wl_no rfl rfl rfl (ltn rfl) ?_
      refine wl_no rfl rfl rfl (ltn rfl) ?_
      refine wl_val (r_pick_t rfl rfl) (ltn rfl) ?_
      refine wl_val (r_move rfl) (ltn rfl) ?_
      refine wl_no rfl rfl rfl (ltn rfl) ?_
      refine wl_no rfl rfl rfl (ltn rfl) ?_
      refine wl_val (r_pick_t rfl rfl) (ltn rfl) ?_
      refine wl_val (r_move rfl) (ltn rfl) ?_
      refine wl_no rfl rfl rfl (ltn rfl) ?_
      refine wl_no rfl rfl rfl (ltn rfl) ?_
      refine wl_val (r_pick_t rfl rfl) (ltn rfl) ?_
      refine wl_val (r_move rfl) (ltn rfl) ?_
      refine wl_no rfl rfl rfl (ltn rfl) ?_
      refine wl_no rfl rfl rfl (ltn rfl) ?_
      refine wl_val (r_pick_t rfl rfl) (ltn rfl) ?_
      refine wl_val (r_move rfl) (ltn rfl) ?_
      refine wl_no rfl rfl rfl (ltn rfl) ?_
      refine wl_no rfl rfl rfl (ltn rfl) ?_
      refine wl_val (r_pick_t rfl rfl) (ltn rfl) ?_
      refine wl_val (r_assign rfl) (ltn rfl) ?_
      refine wl_nil ?_
      refine wq_seq ?_
      refine wc_ret ?_
      refine wq_end1 (.inl rfl) Try.results40 rfl ?_
      refine ⟨?_, rfl⟩; unfold operS; congr 1; first | exact (decide_eq_true (by omega)).symm | exact (decide_eq_false (by omega)).symm | (show decide (_ = _) = decide _; exact decide_eq_decide.2 (by constructor <;> omega))
  · (try simp only [beq_iff_eq, bne_iff_ne, ne_eq, decide_eq_true_eq, decide_eq_false_iff_not, beq_eq_false_iff_ne, bne_eq_false_iff_eq, Bool.not_eq_true', Bool.not_eq_false', Bool.not_eq_eq_eq_not, Bool.not_true, Bool.not_false, gt_iff_lt, ge_iff_le, Int.not_lt, Int.not_le] at h1)
    try (exfalso; first | contradiction | omega)
    all_goals
      refine wl_yes rfl rfl ?_
      refine wl_val (r_move rfl) (ltn rfl) ?_
      refine wl_yes rfl rfl ?_
      refine wl_val (r_eql rfl rfl) (ltn rfl) ?_
      refine wl_val (r_pick_f rfl rfl) (ltn rfl) ?_
      refine wl_split rfl (ltn rfl) (fun h2 => ?_) (fun h2 => ?_)
      · (try simp only [beq_iff_eq, bne_iff_ne, ne_eq, decide_eq_true_eq, decide_eq_false_iff_not, beq_eq_false_iff_ne, bne_eq_false_iff_eq, Bool.not_eq_true', Bool.not_eq_false', Bool.not_eq_eq_eq_not, Bool.not_true, Bool.not_false, gt_iff_lt, ge_iff_le, Int.not_lt, Int.not_le] at h2)
        try (exfalso; first | contradiction | omega)
        all_goals
          refine wl_no rfl rfl rfl (ltn rfl) ?_
          refine wl_no rfl rfl rfl (ltn rfl) ?_
          refine wl_val (r_pick_t rfl rfl) (ltn rfl) ?_
          refine wl_val (r_move rfl) (ltn rfl) ?_
          refine wl_no rfl rfl rfl (ltn rfl) ?_
          refine wl_no rfl rfl rfl (ltn rfl) ?_
          refine wl_val (r_pick_t rfl rfl) (ltn rfl) ?_
          refine wl_val (r_move rfl) (ltn rfl) ?_
          refine wl_no rfl rfl rfl (ltn rfl) ?_
          refine wl_no rfl rfl rfl (ltn rfl) ?_
          refine wl_val (r_pick_t rfl rfl) (ltn rfl) ?_
          refine wl_val (r_move rfl) (ltn rfl) ?_
          refine wl_no rfl rfl rfl (ltn rfl) ?_
          refine wl_no rfl rfl rfl (ltn rfl) ?_
          refine wl_val (r_pick_t rfl rfl) (ltn rfl) ?_
          refine wl_val (r_move rfl) (ltn rfl) ?_
          refine wl_no rfl rfl rfl (ltn rfl) ?_
          refine wl_no rfl rfl rfl (ltn rfl) ?_
          refine wl_val (r_pick_t rfl rfl) (ltn rfl) ?_
          refine wl_val (r_assign rfl) (ltn rfl) ?_
          refine wl_nil ?_
          refine wq_seq ?_
          refine wc_ret ?_
          refine wq_end1 (.inl rfl) Try.results40 rfl ?_
          refine ⟨?_, rfl⟩; unfold operS; congr 1; first | exact (decide_eq_true (by omega)).symm | exact (decide_eq_false (by omega)).symm | (show decide (_ = _) = decide _; exact decide_eq_decide.2 (by constructor <;> omega))
      · (try simp only [beq_iff_eq, bne_iff_ne, ne_eq, decide_eq_true_eq, decide_eq_false_iff_not, beq_eq_false_iff_ne, bne_eq_false_iff_eq, Bool.not_eq_true', Bool.not_eq_false', Bool.not_eq_eq_eq_not, Bool.not_true, Bool.not_false, gt_iff_lt, ge_iff_le, Int.not_lt, Int.not_le] at h2)
        try (exfalso; first | contradiction | omega)
        all_goals
          refine wl_yes rfl rfl ?_
          refine wl_val (r_move rfl) (ltn rfl) ?_
          refine wl_yes rfl rfl ?_
          refine wl_val (r_eql rfl rfl) (ltn rfl) ?_
          refine wl_val (r_pick_f rfl rfl) (ltn rfl) ?_
          refine wl_split rfl (ltn rfl) (fun h3 => ?_) (fun h3 => ?_)
          · (try simp only [beq_iff_eq, bne_iff_ne, ne_eq, decide_eq_true_eq, decide_eq_false_iff_not, beq_eq_false_iff_ne, bne_eq_false_iff_eq, Bool.not_eq_true', Bool.not_eq_false', Bool.not_eq_eq_eq_not, Bool.not_true, Bool.not_false, gt_iff_lt, ge_iff_le, Int.not_lt, Int.not_le] at h3)
            try (exfalso; first | contradiction | omega)
            all_goals
              refine wl_no rfl rfl rfl (ltn rfl) ?_
              refine wl_no rfl rfl rfl (ltn rfl) ?_
              refine wl_val (r_pick_t rfl rfl) (ltn rfl) ?_
              refine wl_val (r_move rfl) (ltn rfl) ?_
              refine wl_no rfl rfl rfl (ltn rfl) ?_
              refine wl_no rfl rfl rfl (ltn rfl) ?_
              refine wl_val (r_pick_t rfl rfl) (ltn rfl) ?_
              refine wl_val (r_move rfl) (ltn rfl) ?_
              refine wl_no rfl rfl rfl (ltn rfl) ?_
              refine wl_no rfl rfl rfl (ltn rfl) ?_
              refine wl_val (r_pick_t rfl rfl) (ltn rfl) ?_
              refine wl_val (r_move rfl) (ltn rfl) ?_
              refine wl_no rfl rfl rfl (ltn rfl) ?_
              refine wl_no rfl rfl rfl (ltn rfl) ?_
              refine wl_val (r_pick_t rfl rfl) (ltn rfl) ?_
              refine wl_val (r_assign rfl) (ltn rfl) ?_
              refine wl_nil ?_
              refine wq_seq ?_
              refine wc_ret ?_
              refine wq_end1 (.inl rfl) Try.results40 rfl ?_
              refine ⟨?_, rfl⟩; unfold operS; congr 1; first | exact (decide_eq_true (by omega)).symm | exact (decide_eq_false (by omega)).symm | (show decide (_ = _) = decide _; exact decide_eq_decide.2 (by constructor <;> omega))
          · (try simp only [beq_iff_eq, bne_iff_ne, ne_eq, decide_eq_true_eq, decide_eq_false_iff_not, beq_eq_false_iff_ne, bne_eq_false_iff_eq, Bool.not_eq_true', Bool.not_eq_false', Bool.not_eq_eq_eq_not, Bool.not_true, Bool.not_false, gt_iff_lt, ge_iff_le, Int.not_lt, Int.not_le] at h3)
            try (exfalso; first | contradiction | omega)
            all_goals
              refine wl_yes rfl rfl ?_
              refine wl_val (r_move rfl) (ltn rfl) ?_
              refine wl_yes rfl rfl ?_
              refine wl_val (r_eql rfl rfl) (ltn rfl) ?_
              refine wl_val (r_pick_f rfl rfl) (ltn rfl) ?_
              refine wl_split rfl (ltn rfl) (fun h4 => ?_) (fun h4 => ?_)
              · (try simp only [beq_iff_eq, bne_iff_ne, ne_eq, decide_eq_true_eq, decide_eq_false_iff_not, beq_eq_false_iff_ne, bne_eq_false_iff_eq, Bool.not_eq_true', Bool.not_eq_false', Bool.not_eq_eq_eq_not, Bool.not_true, Bool.not_false, gt_iff_lt, ge_iff_le, Int.not_lt, Int.not_le] at h4)
                try (exfalso; first | contradiction | omega)
                all_goals
                  refine wl_no rfl rfl rfl (ltn rfl) ?_
                  refine wl_no rfl rfl rfl (ltn rfl) ?_
                  refine wl_val (r_pick_t rfl rfl) (ltn rfl) ?_
                  refine wl_val (r_move rfl) (ltn rfl) ?_
                  refine wl_no rfl rfl rfl (ltn rfl) ?_
                  refine wl_no rfl rfl rfl (ltn rfl) ?_
                  refine wl_val (r_pick_t rfl rfl) (ltn rfl) ?_
                  refine wl_val (r_move rfl) (ltn rfl) ?_
                  refine wl_no rfl rfl rfl (ltn rfl) ?_
                  refine wl_no rfl rfl rfl (ltn rfl) ?_
                  refine wl_val (r_pick_t rfl rfl) (ltn rfl) ?_
                  refine wl_val (r_assign rfl) (ltn rfl) ?_
                  refine wl_nil ?_
                  refine wq_seq ?_
                  refine wc_ret ?_
                  refine wq_end1 (.inl rfl) Try.results40 rfl ?_
                  refine ⟨?_, rfl⟩; unfold operS; congr 1; first | exact (decide_eq_true (by omega)).symm | exact (decide_eq_false (by omega)).symm | (show decide (_ = _) = decide _; exact decide_eq_decide.2 (by constructor <;> omega))
              · (try simp only [beq_iff_eq, bne_iff_ne, ne_eq, decide_eq_true_eq, decide_eq_false_iff_not, beq_eq_false_iff_ne, bne_eq_false_iff_eq, Bool.not_eq_true', Bool.not_eq_false', Bool.not_eq_eq_eq_not, Bool.not_true, Bool.not_false, gt_iff_lt, ge_iff_le, Int.not_lt, Int.not_le] at h4)
                try (exfalso; first | contradiction | omega)
                all_goals
                  refine wl_yes rfl rfl ?_
                  refine wl_val (r_move rfl) (ltn rfl) ?_
                  refine wl_yes rfl rfl ?_
                  refine wl_val (r_eql rfl rfl) (ltn rfl) ?_
                  refine wl_val (r_pick_f rfl rfl) (ltn rfl) ?_
                  refine wl_split rfl (ltn rfl) (fun h5 => ?_) (fun h5 => ?_)
                  · (try simp only [beq_iff_eq, bne_iff_ne, ne_eq, decide_eq_true_eq, decide_eq_false_iff_not, beq_eq_false_iff_ne, bne_eq_false_iff_eq, Bool.not_eq_true', Bool.not_eq_false', Bool.not_eq_eq_eq_not, Bool.not_true, Bool.not_false, gt_iff_lt, ge_iff_le, Int.not_lt, Int.not_le] at h5)
                    try (exfalso; first | contradiction | omega)
                    all_goals
                      refine wl_no rfl rfl rfl (ltn rfl) ?_
                      refine wl_no rfl rfl rfl (ltn rfl) ?_
                      refine wl_val (r_pick_t rfl rfl) (ltn rfl) ?_
                      refine wl_val (r_move rfl) (ltn rfl) ?_
                      refine wl_no rfl rfl rfl (ltn rfl) ?_
                      refine wl_no rfl rfl rfl (ltn rfl) ?_
                      refine wl_val (r_pick_t rfl rfl) (ltn rfl) ?_
                      refine wl_val (r_assign rfl) (ltn rfl) ?_
                      refine wl_nil ?_
                      refine wq_seq ?_
                      refine wc_ret ?_
                      refine wq_end1 (.inl rfl) Try.results40 rfl ?_
                      refine ⟨?_, rfl⟩; unfold operS; congr 1; first | exact (decide_eq_true (by omega)).symm | exact (decide_eq_false (by omega)).symm | (show decide (_ = _) = decide _; exact decide_eq_decide.2 (by constructor <;> omega))
                  · (try simp only [beq_iff_eq, bne_iff_ne, ne_eq, decide_eq_true_eq, decide_eq_false_iff_not, beq_eq_false_iff_ne, bne_eq_false_iff_eq, Bool.not_eq_true', Bool.not_eq_false', Bool.not_eq_eq_eq_not, Bool.not_true, Bool.not_false, gt_iff_lt, ge_iff_le, Int.not_lt, Int.not_le] at h5)
                    try (exfalso; first | contradiction | omega)
                    all_goals
                      refine wl_yes rfl rfl ?_
                      refine wl_val (r_move rfl) (ltn rfl) ?_
                      refine wl_yes rfl rfl ?_
                      refine wl_val (r_eql rfl rfl) (ltn rfl) ?_
                      refine wl_val (r_pick_f rfl rfl) (ltn rfl) ?_
                      refine wl_split rfl (ltn rfl) (fun h6 => ?_) (fun h6 => ?_)
                      · (try simp only [beq_iff_eq, bne_iff_ne, ne_eq, decide_eq_true_eq, decide_eq_false_iff_not, beq_eq_false_iff_ne, bne_eq_false_iff_eq, Bool.not_eq_true', Bool.not_eq_false', Bool.not_eq_eq_eq_not, Bool.not_true, Bool.not_false, gt_iff_lt, ge_iff_le, Int.not_lt, Int.not_le] at h6)
                        try (exfalso; first | contradiction | omega)
                        all_goals
                          refine wl_no rfl rfl rfl (ltn rfl) ?_
                          refine wl_no rfl rfl rfl (ltn rfl) ?_
                          refine wl_val (r_pick_t rfl rfl) (ltn rfl) ?_
                          refine wl_val (r_assign rfl) (ltn rfl) ?_
                          refine wl_nil ?_
                          refine wq_seq ?_
                          refine wc_ret ?_
                          refine wq_end1 (.inl rfl) Try.results40 rfl ?_
                          refine ⟨?_, rfl⟩; unfold operS; congr 1; first | exact (decide_eq_true (by omega)).symm | exact (decide_eq_false (by omega)).symm | (show decide (_ = _) = decide _; exact decide_eq_decide.2 (by constructor <;> omega))
                      · (try simp only [beq_iff_eq, bne_iff_ne, ne_eq, decide_eq_true_eq, decide_eq_false_iff_not, beq_eq_false_iff_ne, bne_eq_false_iff_eq, Bool.not_eq_true', Bool.not_eq_false', Bool.not_eq_eq_eq_not, Bool.not_true, Bool.not_false, gt_iff_lt, ge_iff_le, Int.not_lt, Int.not_le] at h6)
                        try (exfalso; first | contradiction | omega)
                        all_goals
                          refine wl_yes rfl rfl ?_
                          refine wl_val (r_move rfl) (ltn rfl) ?_
                          refine wl_yes rfl rfl ?_
                          refine wl_val (r_eql rfl rfl) (ltn rfl) ?_
                          refine wl_val (r_pick_f rfl rfl) (ltn rfl) ?_
                          refine wl_val (r_assign rfl) (ltn rfl) ?_
                          refine wl_nil ?_
                          refine wq_seq ?_
                          refine wc_ret ?_
                          refine wq_end1 (.inl rfl) Try.results40 rfl ?_
                          refine ⟨?_, rfl⟩; unfold operS; congr 1; first | exact (decide_eq_true (by omega)).symm | exact (decide_eq_false (by omega)).symm | (show decide (_ = _) = decide _; exact decide_eq_decide.2 (by constructor <;> omega))
theorem ref_digit_ret : Ret Try.prog 42 #[.int .i32 c] w fun v w' => v = .bool (decide (48 ≤ c ∧ c ≤ 57)) ∧ w = w' := by
  refine ret_enter Try.func42 rfl Try.ntmps42 (Nat.le_of_ble_eq_true rfl) ?_
  dsimp only [slots0, Nat.reduceAdd]
  refine wc_seq ?_
  refine wc_region ?_
  refine wl_val (r_assign rfl) (ltn rfl) ?_
  refine wl_nil ?_
  refine wq_seq ?_
  refine wc_seq ?_
  refine wc_region ?_
  refine wl_val (r_move rfl) (ltn rfl) ?_
  refine wl_val (r_geq rfl rfl) (ltn rfl) ?_
  refine wl_split rfl (ltn rfl) (fun h1 => ?_) (fun h1 => ?_)
  · (try simp only [beq_iff_eq, bne_iff_ne, ne_eq, decide_eq_true_eq, decide_eq_false_iff_not, beq_eq_false_iff_ne, bne_eq_false_iff_eq, Bool.not_eq_true', Bool.not_eq_false', Bool.not_eq_eq_eq_not, Bool.not_true, Bool.not_false, gt_iff_lt, ge_iff_le, Int.not_lt, Int.not_le] at h1)
    try (exfalso; first | contradiction | omega)
    all_goals
      refine wl_yes rfl rfl ?_
      refine wl_val (r_move rfl) (ltn rfl) ?_
      refine wl_yes rfl rfl ?_
      refine wl_val (r_leq rfl rfl) (ltn rfl) ?_
      refine wl_val (r_pick_t rfl rfl) (ltn rfl) ?_
      refine wl_val (r_assign rfl) (ltn rfl) ?_
      refine wl_nil ?_
      refine wq_seq ?_
      refine wc_ret ?_
      refine wq_end1 (.inl rfl) Try.results42 rfl ?_
      refine ⟨?_, rfl⟩; congr 1; first | exact (decide_eq_true (by omega)).symm | exact (decide_eq_false (by omega)).symm | exact decide_eq_decide.2 (by constructor <;> omega)
  · (try simp only [beq_iff_eq, bne_iff_ne, ne_eq, decide_eq_true_eq, decide_eq_false_iff_not, beq_eq_false_iff_ne, bne_eq_false_iff_eq, Bool.not_eq_true', Bool.not_eq_false', Bool.not_eq_eq_eq_not, Bool.not_true, Bool.not_false, gt_iff_lt, ge_iff_le, Int.not_lt, Int.not_le] at h1)
    try (exfalso; first | contradiction | omega)
    all_goals
      refine wl_no rfl rfl rfl (ltn rfl) ?_
      refine wl_no rfl rfl rfl (ltn rfl) ?_
      refine wl_val (r_pick_f rfl rfl) (ltn rfl) ?_
      refine wl_val (r_assign rfl) (ltn rfl) ?_
      refine wl_nil ?_
      refine wq_seq ?_
      refine wc_ret ?_
      refine wq_end1 (.inl rfl) Try.results42 rfl ?_
      refine ⟨?_, rfl⟩; congr 1; first | exact (decide_eq_true (by omega)).symm | exact (decide_eq_false (by omega)).symm | exact decide_eq_decide.2 (by constructor <;> omega)
theorem ref_in_ret (hs : s.size ≤ 1000) : Ret Try.prog 38 #[.int .i32 c, .string s] w fun v w' => v = .bool (decide (c ∈ sbs s)) ∧ w = w' := by
  refine ret_enter Try.func38 rfl Try.ntmps38 (Nat.le_of_ble_eq_true rfl) ?_
  dsimp only [slots0, Nat.reduceAdd]
  refine wc_seq ?_
  refine wc_region ?_
  refine wl_val (r_assign rfl) (ltn rfl) ?_
  refine wl_nil ?_
  refine wq_seq ?_
  refine wc_seq ?_
  refine wc_seq ?_
  refine wc_region ?_
  refine wl_val (r_assign rfl) (ltn rfl) ?_
  refine wl_nil ?_
  refine wq_seq ?_
  refine wc_block ?_
  refine wc_loop [(0, _), (1, _)] (fun (k : Nat) => [(5, .int .i64 (k : Int))]) (fun (k : Nat) W => (k ≤ s.size ∧ ∀ j, j < k → ¬ sb s j = c) ∧ W = w) (fun (k : Nat) => s.size - k) (0) (Sub.cons rfl (Sub.cons rfl (Sub.nil _))) (Sub.cons rfl (Sub.nil _)) ⟨⟨by omega, fun j hj => absurd hj (Nat.not_lt_zero _)⟩, rfl⟩ ?_
  rintro k w1 ⟨⟨hk, hj⟩, hW⟩
  dsimp only [List.cons_append, List.nil_append]
  refine wc_seq ?_
  refine wc_seq ?_
  refine wc_region ?_
  refine wl_val (r_move rfl) (ltn rfl) ?_
  refine wl_val (r_move rfl) (ltn rfl) ?_
  refine wl_val (r_len_str Try.underlying9 rfl) (ltn rfl) ?_
  refine wl_val (r_lss rfl rfl) (ltn rfl) ?_
  refine wl_nil ?_
  refine wq_seq ?_
  refine wc_cond rfl (fun h1 => ?_) (fun h1 => ?_)
  · (try simp only [beq_iff_eq, bne_iff_ne, ne_eq, decide_eq_true_eq, decide_eq_false_iff_not, beq_eq_false_iff_ne, bne_eq_false_iff_eq, Bool.not_eq_true', Bool.not_eq_false', Bool.not_eq_eq_eq_not, Bool.not_true, Bool.not_false, gt_iff_lt, ge_iff_le, Int.not_lt, Int.not_le] at h1)
    try (exfalso; first | contradiction | omega)
    all_goals
      
      refine wc_skip ?_
      refine wq_seq ?_
      refine wc_seq ?_
      refine wc_block ?_
      refine wc_seq ?_
      have hsb := sb_in s k
      refine wc_region ?_
      refine wl_val (r_move rfl) (ltn rfl) ?_
      refine wl_val (r_move rfl) (ltn rfl) ?_
      refine wl_val (r_as (r_index_str Try.underlying9 rfl rfl (by omega)) (show Value.int .u8 (sb s (k : Int).toNat) = .int .u8 (sb s k) by rw [Int.toNat_natCast])) (ltn rfl) ?_
      refine wl_val (r_conv_int rfl (by rw [Try.underlying5]; rfl) Try.underlying21 (fit_i32 (by omega))) (ltn rfl) ?_
      refine wl_val (r_move rfl) (ltn rfl) ?_
      refine wl_val (r_eql rfl rfl) (ltn rfl) ?_
      refine wl_nil ?_
      refine wq_seq ?_
      refine wc_cond rfl (fun h2 => ?_) (fun h2 => ?_)
      · (try simp only [beq_iff_eq, bne_iff_ne, ne_eq, decide_eq_true_eq, decide_eq_false_iff_not, beq_eq_false_iff_ne, bne_eq_false_iff_eq, Bool.not_eq_true', Bool.not_eq_false', Bool.not_eq_eq_eq_not, Bool.not_true, Bool.not_false, gt_iff_lt, ge_iff_le, Int.not_lt, Int.not_le] at h2)
        try (exfalso; first | contradiction | omega)
        all_goals
          
          refine wc_seq ?_
          refine wc_region ?_
          refine wl_val (r_assign rfl) (ltn rfl) ?_
          refine wl_nil ?_
          refine wq_seq ?_
          refine wc_ret ?_
          refine wq_block_ret ?_
          refine wq_then_ret ?_
          refine wq_then_ret ?_
          refine wq_block_ret ?_
          refine wq_then_ret ?_
          refine wq_end1 (.inl rfl) Try.results38 rfl ?_
          exact ⟨by rw [decide_eq_true (sbs_mem.2 ⟨k, by omega, by assumption⟩)], hW.symm⟩
      · (try simp only [beq_iff_eq, bne_iff_ne, ne_eq, decide_eq_true_eq, decide_eq_false_iff_not, beq_eq_false_iff_ne, bne_eq_false_iff_eq, Bool.not_eq_true', Bool.not_eq_false', Bool.not_eq_eq_eq_not, Bool.not_true, Bool.not_false, gt_iff_lt, ge_iff_le, Int.not_lt, Int.not_le] at h2)
        try (exfalso; first | contradiction | omega)
        all_goals
          
          refine wc_skip ?_
          refine wq_block_normal ?_
          refine wq_seq ?_
          refine wc_region ?_
          refine wl_val (r_move rfl) (ltn rfl) ?_
          refine wl_val (r_add rfl rfl (by omega)) (ltn rfl) ?_
          refine wl_val (r_assign rfl) (ltn rfl) ?_
          refine wl_nil ?_
          refine wq_round (k + 1) ?_ ?_ ?_ ?_
          · exact (Sub.cons rfl (Sub.nil _))
          · exact (Sub.cons rfl (Sub.cons rfl (Sub.nil _)))
          · (try dsimp only)
            exact ⟨⟨by omega, fun j h9 => by rcases Nat.lt_succ_iff_lt_or_eq.1 h9 with h9 | rfl; exact hj j h9; assumption⟩, hW⟩
          · (try dsimp only); omega
  · (try simp only [beq_iff_eq, bne_iff_ne, ne_eq, decide_eq_true_eq, decide_eq_false_iff_not, beq_eq_false_iff_ne, bne_eq_false_iff_eq, Bool.not_eq_true', Bool.not_eq_false', Bool.not_eq_eq_eq_not, Bool.not_true, Bool.not_false, gt_iff_lt, ge_iff_le, Int.not_lt, Int.not_le] at h1)
    try (exfalso; first | contradiction | omega)
    all_goals
      
      refine wc_exit ?_
      refine wq_then_exit ?_
      refine wq_then_exit ?_
      refine wq_block_hit ?_
      refine wq_seq ?_
      refine wc_seq ?_
      refine wc_region ?_
      refine wl_val (r_assign rfl) (ltn rfl) ?_
      refine wl_nil ?_
      refine wq_seq ?_
      refine wc_ret ?_
      refine wq_end1 (.inl rfl) Try.results38 rfl ?_
      exact ⟨by rw [decide_eq_false (fun q => by obtain ⟨i, h1, h2⟩ := sbs_mem.1 q; exact hj i (by omega) h2)], hW.symm⟩
theorem ref_states_ret (H : Holds w0 w F) (hv : FRdI w0 F .i32 v l) (hL : l.length ≤ 4294967296) : Ret Try.prog 41 #[v] w fun v' w' => ∃ u, v' = .tuple #[u, .int .i64 (openS l)] ∧ Holds w0 w' (RowI 3 .i64 u (statesS l) • F) := by
  refine ret_enter Try.func41 rfl Try.ntmps41 (Nat.le_of_ble_eq_true rfl) ?_
  dsimp only [slots0, Nat.reduceAdd]
  refine wc_seq ?_
  refine wc_region ?_
  refine wl_val (r_assign rfl) (ltn rfl) ?_
  refine wl_val (r_assign rfl) (ltn rfl) ?_
  refine wl_nil ?_
  refine wq_seq ?_
  refine wc_seq ?_
  refine wc_region ?_
  refine wl_val (r_move rfl) (ltn rfl) ?_
  refine wl_val (r_lenR (hv _ (H)) Try.underlying22 rfl) (ltn rfl) ?_
  refine wl_eff (e_make_ints H Try.underlying47 (by kernel_rfl : (Try.prog.info? 3).map (fun i => (i.zero, i.size, i.bytes)) = some (some (.int .i64 0), 1, 8)) rfl rfl (by omega) (by omega) (by omega)) (ltn rfl) ?_
  rintro l1 w1 H1
  rw [Int.toNat_natCast] at H1
  rw [← partS_zero] at H1
  refine wl_val (r_assign rfl) (ltn rfl) ?_
  refine wl_nil ?_
  refine wq_seq ?_
  refine wc_seq ?_
  refine wc_region ?_
  refine wl_val (r_assign rfl) (ltn rfl) ?_
  refine wl_nil ?_
  refine wq_seq ?_
  refine wc_seq ?_
  refine wc_region ?_
  refine wl_val (r_assign rfl) (ltn rfl) ?_
  refine wl_nil ?_
  refine wq_seq ?_
  refine wc_seq ?_
  refine wc_region ?_
  refine wl_val (r_assign rfl) (ltn rfl) ?_
  refine wl_nil ?_
  refine wq_seq ?_
  refine wc_seq ?_
  refine wc_block ?_
  refine wc_loop [(0, _), (4, _)] (fun (⟨k, sv, en⟩ : Nat × Int × Int) => [(7, .int .i64 (k : Int)), (5, .int .i64 sv), (6, .int .i32 en)]) (fun (⟨k, sv, en⟩ : Nat × Int × Int) W => RS l k sv en ∧ Holds w0 W (RowI 3 .i64 l1 (partS l k) • F)) (fun (⟨k, sv, en⟩ : Nat × Int × Int) => l.length - k) ((0, 0, 0)) (Sub.cons rfl (Sub.cons rfl (Sub.nil _))) (Sub.cons rfl (Sub.cons rfl (Sub.cons rfl (Sub.nil _)))) ⟨rs_zero, H1⟩ ?_
  rintro ⟨k, sv, en⟩ w2 ⟨hrs, HL⟩
  dsimp only [List.cons_append, List.nil_append]
  refine wc_seq ?_
  refine wc_seq ?_
  refine wc_region ?_
  refine wl_val (r_move rfl) (ltn rfl) ?_
  refine wl_val (r_move rfl) (ltn rfl) ?_
  refine wl_val (r_lenR (hv _ (HL.right)) Try.underlying22 rfl) (ltn rfl) ?_
  refine wl_val (r_lss rfl rfl) (ltn rfl) ?_
  refine wl_nil ?_
  refine wq_seq ?_
  refine wc_cond rfl (fun h1 => ?_) (fun h1 => ?_)
  · (try simp only [beq_iff_eq, bne_iff_ne, ne_eq, decide_eq_true_eq, decide_eq_false_iff_not, beq_eq_false_iff_ne, bne_eq_false_iff_eq, Bool.not_eq_true', Bool.not_eq_false', Bool.not_eq_eq_eq_not, Bool.not_true, Bool.not_false, gt_iff_lt, ge_iff_le, Int.not_lt, Int.not_le] at h1)
    
    refine wc_skip ?_
    refine wq_seq ?_
    refine wc_block ?_
    refine wc_seq ?_
    have hkl : k < l.length := by omega
    have hpl := partS_len l k
    have hpl2 := partS_len l (k + 1)
    refine wc_region ?_
    refine wl_val (r_move rfl) (ltn rfl) ?_
    refine wl_val (r_move rfl) (ltn rfl) ?_
    obtain ⟨bv, ov, cv, ev⟩ := RdI.posV (hv _ (HL.right)) (by omega)
    cases ev
    refine wl_val (r_index Try.underlying22 Try.sizeOf21 rfl rfl (by omega)) (ltn rfl) ?_
    refine wl_val (r_load (plain_of Try.underlying21 rfl) rfl (by first | exact RdI.at1n (hv _ (HL.right)) (by omega) | exact RdI.at0 (hv _ (HL.right)) (by omega) | exact RdI.at1 (hv _ (HL.right)) (by omega))) (ltn rfl) ?_
    refine wl_val (r_assign rfl) (ltn rfl) ?_
    refine wl_nil ?_
    refine wq_seq ?_
    refine wc_seq ?_
    refine wc_region ?_
    refine wl_val (r_move rfl) (ltn rfl) ?_
    refine wl_val (r_move rfl) (ltn rfl) ?_
    refine wl_val (r_move rfl) (ltn rfl) ?_
    obtain ⟨bl1, ol1, cl1, el1⟩ := RdI.posV ((HL).row_rd) (by omega)
    cases el1
    refine wl_val (r_index Try.underlying47 Try.sizeOf3 rfl rfl (by omega)) (ltn rfl) ?_
    refine wl_eff0 (e_store_elem HL Try.sizeOf3 rfl rfl (by first | exact rfl | omega | simp) (by omega)) ?_
    rintro _ w3 H3
    rw [show (partS l k).set ((k : Int).toNat * 1) sv = partS l (k + 1) from by rw [Nat.mul_one, Int.toNat_natCast, hrs.kind, partS_set hkl]] at H3
    refine wl_nil ?_
    refine wq_seq ?_
    refine wc_seq ?_
    refine wc_block ?_
    refine wc_seq ?_
    refine wc_region ?_
    refine wl_val (r_move rfl) (ltn rfl) ?_
    refine wl_val (r_neq rfl rfl) (ltn rfl) ?_
    refine wl_split rfl (ltn rfl) (fun h2 => ?_) (fun h2 => ?_)
    · (try simp only [beq_iff_eq, bne_iff_ne, ne_eq, decide_eq_true_eq, decide_eq_false_iff_not, beq_eq_false_iff_ne, bne_eq_false_iff_eq, Bool.not_eq_true', Bool.not_eq_false', Bool.not_eq_eq_eq_not, Bool.not_true, Bool.not_false, gt_iff_lt, ge_iff_le, Int.not_lt, Int.not_le] at h2)
      refine wl_yes rfl rfl ?_
      refine wl_val (r_move rfl) (ltn rfl) ?_
      refine wl_yes rfl rfl ?_
      refine wl_val (r_move rfl) (ltn rfl) ?_
      refine wl_yes rfl rfl ?_
      refine wl_val (r_eql rfl rfl) (ltn rfl) ?_
      refine wl_val (r_pick_t rfl rfl) (ltn rfl) ?_
      refine wl_val (r_assign rfl) (ltn rfl) ?_
      refine wl_nil ?_
      refine wq_seq ?_
      refine wc_cond rfl (fun h3 => ?_) (fun h3 => ?_)
      · (try simp only [beq_iff_eq, bne_iff_ne, ne_eq, decide_eq_true_eq, decide_eq_false_iff_not, beq_eq_false_iff_ne, bne_eq_false_iff_eq, Bool.not_eq_true', Bool.not_eq_false', Bool.not_eq_eq_eq_not, Bool.not_true, Bool.not_false, gt_iff_lt, ge_iff_le, Int.not_lt, Int.not_le] at h3)
        
        refine wc_region ?_
        refine wl_val (r_assign rfl) (ltn rfl) ?_
        refine wl_nil ?_
        refine wq_block_normal ?_
        refine wq_seq ?_
        refine wc_region ?_
        refine wl_val (r_move rfl) (ltn rfl) ?_
        refine wl_val (r_as (r_add rfl rfl (by omega)) ((by first | exact (show Value.int .i64 ((k : Int) + 1) = .int .i64 ((k + 1 : Nat) : Int) from by rw [Int.natCast_add]; rfl) | exact (show Value.int .i64 (((k + 1 : Nat) : Int) + 1) = .int .i64 ((k + 1 + 1 : Nat) : Int) from by rw [Int.natCast_add (k + 1)]; rfl)))) (ltn rfl) ?_
        refine wl_val (r_assign rfl) (ltn rfl) ?_
        refine wl_nil ?_
        refine wq_block_normal ?_
        refine wq_round (_, _, _) (Sub.cons rfl (Sub.cons rfl (Sub.cons rfl (Sub.nil _)))) (Sub.cons rfl (Sub.cons rfl (Sub.nil _))) (by (try dsimp only); exact by first | exact ⟨rs_end hrs hkl (by assumption) (by assumption), H3⟩ | exact ⟨rs_one hrs hkl (by assumption) (by assumption), H3⟩ | exact ⟨rs_two hrs hkl (by assumption) (by omega), H3⟩ | exact ⟨rs_back hrs (by omega) (by assumption) (by assumption), H3⟩ | exact ⟨rs_stay hrs hkl (by omega) (by omega) (by omega), H3⟩) ?_
        · (try dsimp only); omega
      · (try simp only [beq_iff_eq, bne_iff_ne, ne_eq, decide_eq_true_eq, decide_eq_false_iff_not, beq_eq_false_iff_ne, bne_eq_false_iff_eq, Bool.not_eq_true', Bool.not_eq_false', Bool.not_eq_eq_eq_not, Bool.not_true, Bool.not_false, gt_iff_lt, ge_iff_le, Int.not_lt, Int.not_le] at h3)
        
        refine wc_seq ?_
        refine wc_region ?_
        refine wl_val (r_move rfl) (ltn rfl) ?_
        refine wl_val (r_neq rfl rfl) (ltn rfl) ?_
        refine wl_split rfl (ltn rfl) (fun h4 => ?_) (fun h4 => ?_)
        · (try simp only [beq_iff_eq, bne_iff_ne, ne_eq, decide_eq_true_eq, decide_eq_false_iff_not, beq_eq_false_iff_ne, bne_eq_false_iff_eq, Bool.not_eq_true', Bool.not_eq_false', Bool.not_eq_eq_eq_not, Bool.not_true, Bool.not_false, gt_iff_lt, ge_iff_le, Int.not_lt, Int.not_le] at h4)
          refine wl_yes rfl rfl ?_
          refine wl_val (r_move rfl) (ltn rfl) ?_
          refine wl_yes rfl rfl ?_
          refine wl_val (r_eql rfl rfl) (ltn rfl) ?_
          refine wl_val (r_pick_t rfl rfl) (ltn rfl) ?_
          refine wl_val (r_assign rfl) (ltn rfl) ?_
          refine wl_nil ?_
          refine wq_seq ?_
          refine wc_cond rfl (fun h5 => ?_) (fun h5 => ?_)
          · (try simp only [beq_iff_eq, bne_iff_ne, ne_eq, decide_eq_true_eq, decide_eq_false_iff_not, beq_eq_false_iff_ne, bne_eq_false_iff_eq, Bool.not_eq_true', Bool.not_eq_false', Bool.not_eq_eq_eq_not, Bool.not_true, Bool.not_false, gt_iff_lt, ge_iff_le, Int.not_lt, Int.not_le] at h5)
            
            refine wc_seq ?_
            refine wc_seq ?_
            refine wc_region ?_
            refine wl_val (r_move rfl) (ltn rfl) ?_
            refine wl_val (r_add rfl rfl (by omega)) (ltn rfl) ?_
            refine wl_val (r_move rfl) (ltn rfl) ?_
            refine wl_val (r_len Try.underlying22 rfl) (ltn rfl) ?_
            refine wl_val (r_geq rfl rfl) (ltn rfl) ?_
            refine wl_nil ?_
            refine wq_seq ?_
            refine wc_cond rfl (fun h6 => ?_) (fun h6 => ?_)
            · (try simp only [beq_iff_eq, bne_iff_ne, ne_eq, decide_eq_true_eq, decide_eq_false_iff_not, beq_eq_false_iff_ne, bne_eq_false_iff_eq, Bool.not_eq_true', Bool.not_eq_false', Bool.not_eq_eq_eq_not, Bool.not_true, Bool.not_false, gt_iff_lt, ge_iff_le, Int.not_lt, Int.not_le] at h6)
              
              refine wc_seq ?_
              refine wc_region ?_
              refine wl_val (r_move rfl) (ltn rfl) ?_
              refine wl_val (r_assign rfl) (ltn rfl) ?_
              refine wl_val (r_assign rfl) (ltn rfl) ?_
              refine wl_nil ?_
              refine wq_seq ?_
              refine wc_ret ?_
              refine wq_then_ret ?_
              refine wq_block_ret ?_
              refine wq_then_ret ?_
              refine wq_block_ret ?_
              refine wq_then_ret ?_
              refine wq_block_ret ?_
              refine wq_then_ret ?_
              refine wq_end2 (.inl rfl) Try.results41 rfl rfl ?_
              have e : k + 1 = l.length := by omega
              have hq := rs_kind hrs hkl (by assumption) (by assumption)
              rw [e] at hq
              refine ⟨_, by rw [show openS l = 3 from hq], ?_⟩
              rw [← partS_all, ← e]; exact H3
            · (try simp only [beq_iff_eq, bne_iff_ne, ne_eq, decide_eq_true_eq, decide_eq_false_iff_not, beq_eq_false_iff_ne, bne_eq_false_iff_eq, Bool.not_eq_true', Bool.not_eq_false', Bool.not_eq_eq_eq_not, Bool.not_true, Bool.not_false, gt_iff_lt, ge_iff_le, Int.not_lt, Int.not_le] at h6)
              
              refine wc_skip ?_
              refine wq_seq ?_
              refine wc_seq ?_
              refine wc_region ?_
              refine wl_val (r_move rfl) (ltn rfl) ?_
              refine wl_val (r_as (r_add rfl rfl (by omega)) (show Value.int .i64 ((k : Int) + 1) = .int .i64 ((k + 1 : Nat) : Int) by rw [Int.natCast_add]; rfl)) (ltn rfl) ?_
              refine wl_val (r_assign rfl) (ltn rfl) ?_
              refine wl_nil ?_
              refine wq_seq ?_
              refine wc_region ?_
              refine wl_val (r_move rfl) (ltn rfl) ?_
              refine wl_val (r_move rfl) (ltn rfl) ?_
              refine wl_val (r_index Try.underlying47 Try.sizeOf3 rfl rfl (by omega)) (ltn rfl) ?_
              refine wl_eff0 (e_store_elem H3 Try.sizeOf3 rfl rfl (by first | exact rfl | omega | simp) (by omega)) ?_
              rintro _ w4 H4
              rw [show (partS l (k + 1)).set (((k + 1 : Nat) : Int).toNat * 1) 3 = partS l (k + 1 + 1) from by rw [Nat.mul_one, Int.toNat_natCast, ← rs_kind hrs hkl (by assumption) (by assumption), partS_set (by omega)]] at H4
              refine wl_nil ?_
              refine wq_block_normal ?_
              refine wq_seq ?_
              refine wc_region ?_
              refine wl_val (r_move rfl) (ltn rfl) ?_
              refine wl_val (r_as (r_add rfl rfl (by omega)) ((by first | exact (show Value.int .i64 ((k : Int) + 1) = .int .i64 ((k + 1 : Nat) : Int) from by rw [Int.natCast_add]; rfl) | exact (show Value.int .i64 (((k + 1 : Nat) : Int) + 1) = .int .i64 ((k + 1 + 1 : Nat) : Int) from by rw [Int.natCast_add (k + 1)]; rfl)))) (ltn rfl) ?_
              refine wl_val (r_assign rfl) (ltn rfl) ?_
              refine wl_nil ?_
              refine wq_block_normal ?_
              refine wq_round (_, _, _) (Sub.cons rfl (Sub.cons rfl (Sub.cons rfl (Sub.nil _)))) (Sub.cons rfl (Sub.cons rfl (Sub.nil _))) (by (try dsimp only); exact by first | exact ⟨rs_end hrs hkl (by assumption) (by assumption), H4⟩ | exact ⟨rs_one hrs hkl (by assumption) (by assumption), H4⟩ | exact ⟨rs_two hrs hkl (by assumption) (by omega), H4⟩ | exact ⟨rs_back hrs (by omega) (by assumption) (by assumption), H4⟩ | exact ⟨rs_stay hrs hkl (by omega) (by omega) (by omega), H4⟩) ?_
              · (try dsimp only); omega
          · (try simp only [beq_iff_eq, bne_iff_ne, ne_eq, decide_eq_true_eq, decide_eq_false_iff_not, beq_eq_false_iff_ne, bne_eq_false_iff_eq, Bool.not_eq_true', Bool.not_eq_false', Bool.not_eq_eq_eq_not, Bool.not_true, Bool.not_false, gt_iff_lt, ge_iff_le, Int.not_lt, Int.not_le] at h5)
            
            refine wc_seq ?_
            refine wc_region ?_
            refine wl_val (r_move rfl) (ltn rfl) ?_
            refine wl_val (r_eql rfl rfl) (ltn rfl) ?_
            refine wl_split rfl (ltn rfl) (fun h7 => ?_) (fun h7 => ?_)
            · (try simp only [beq_iff_eq, bne_iff_ne, ne_eq, decide_eq_true_eq, decide_eq_false_iff_not, beq_eq_false_iff_ne, bne_eq_false_iff_eq, Bool.not_eq_true', Bool.not_eq_false', Bool.not_eq_eq_eq_not, Bool.not_true, Bool.not_false, gt_iff_lt, ge_iff_le, Int.not_lt, Int.not_le] at h7)
              refine wl_yes rfl rfl ?_
              refine wl_val (r_move rfl) (ltn rfl) ?_
              refine wl_yes rfl rfl ?_
              refine wl_val (r_eql rfl rfl) (ltn rfl) ?_
              refine wl_val (r_pick_t rfl rfl) (ltn rfl) ?_
              refine wl_val (r_assign rfl) (ltn rfl) ?_
              refine wl_nil ?_
              refine wq_seq ?_
              refine wc_cond rfl (fun h8 => ?_) (fun h8 => ?_)
              · (try simp only [beq_iff_eq, bne_iff_ne, ne_eq, decide_eq_true_eq, decide_eq_false_iff_not, beq_eq_false_iff_ne, bne_eq_false_iff_eq, Bool.not_eq_true', Bool.not_eq_false', Bool.not_eq_eq_eq_not, Bool.not_true, Bool.not_false, gt_iff_lt, ge_iff_le, Int.not_lt, Int.not_le] at h8)
                
                refine wc_seq ?_
                refine wc_region ?_
                refine wl_val (r_assign rfl) (ltn rfl) ?_
                refine wl_nil ?_
                refine wq_seq ?_
                refine wc_region ?_
                refine wl_val (r_move rfl) (ltn rfl) ?_
                refine wl_val (r_assign rfl) (ltn rfl) ?_
                refine wl_nil ?_
                refine wq_block_normal ?_
                refine wq_seq ?_
                refine wc_region ?_
                refine wl_val (r_move rfl) (ltn rfl) ?_
                refine wl_val (r_as (r_add rfl rfl (by omega)) ((by first | exact (show Value.int .i64 ((k : Int) + 1) = .int .i64 ((k + 1 : Nat) : Int) from by rw [Int.natCast_add]; rfl) | exact (show Value.int .i64 (((k + 1 : Nat) : Int) + 1) = .int .i64 ((k + 1 + 1 : Nat) : Int) from by rw [Int.natCast_add (k + 1)]; rfl)))) (ltn rfl) ?_
                refine wl_val (r_assign rfl) (ltn rfl) ?_
                refine wl_nil ?_
                refine wq_block_normal ?_
                refine wq_round (_, _, _) (Sub.cons rfl (Sub.cons rfl (Sub.cons rfl (Sub.nil _)))) (Sub.cons rfl (Sub.cons rfl (Sub.nil _))) (by (try dsimp only); exact by first | exact ⟨rs_end hrs hkl (by assumption) (by assumption), H3⟩ | exact ⟨rs_one hrs hkl (by assumption) (by assumption), H3⟩ | exact ⟨rs_two hrs hkl (by assumption) (by omega), H3⟩ | exact ⟨rs_back hrs (by omega) (by assumption) (by assumption), H3⟩ | exact ⟨rs_stay hrs hkl (by omega) (by omega) (by omega), H3⟩) ?_
                · (try dsimp only); omega
              · (try simp only [beq_iff_eq, bne_iff_ne, ne_eq, decide_eq_true_eq, decide_eq_false_iff_not, beq_eq_false_iff_ne, bne_eq_false_iff_eq, Bool.not_eq_true', Bool.not_eq_false', Bool.not_eq_eq_eq_not, Bool.not_true, Bool.not_false, gt_iff_lt, ge_iff_le, Int.not_lt, Int.not_le] at h8)
                
                refine wc_seq ?_
                refine wc_region ?_
                refine wl_val (r_move rfl) (ltn rfl) ?_
                refine wl_val (r_eql rfl rfl) (ltn rfl) ?_
                refine wl_split rfl (ltn rfl) (fun h9 => ?_) (fun h9 => ?_)
                · (try simp only [beq_iff_eq, bne_iff_ne, ne_eq, decide_eq_true_eq, decide_eq_false_iff_not, beq_eq_false_iff_ne, bne_eq_false_iff_eq, Bool.not_eq_true', Bool.not_eq_false', Bool.not_eq_eq_eq_not, Bool.not_true, Bool.not_false, gt_iff_lt, ge_iff_le, Int.not_lt, Int.not_le] at h9)
                  refine wl_yes rfl rfl ?_
                  refine wl_val (r_move rfl) (ltn rfl) ?_
                  refine wl_yes rfl rfl ?_
                  refine wl_val (r_eql rfl rfl) (ltn rfl) ?_
                  refine wl_yes rfl rfl ?_
                  refine wl_split rfl (ltn rfl) (fun h10 => ?_) (fun h10 => ?_)
                  · (try simp only [beq_iff_eq, bne_iff_ne, ne_eq, decide_eq_true_eq, decide_eq_false_iff_not, beq_eq_false_iff_ne, bne_eq_false_iff_eq, Bool.not_eq_true', Bool.not_eq_false', Bool.not_eq_eq_eq_not, Bool.not_true, Bool.not_false, gt_iff_lt, ge_iff_le, Int.not_lt, Int.not_le] at h10)
                    refine wl_no rfl rfl rfl (ltn rfl) ?_
                    refine wl_no rfl rfl rfl (ltn rfl) ?_
                    refine wl_yes rfl rfl ?_
                    refine wl_val (r_pick_t rfl rfl) (ltn rfl) ?_
                    refine wl_val (r_pick_t rfl rfl) (ltn rfl) ?_
                    refine wl_val (r_assign rfl) (ltn rfl) ?_
                    refine wl_nil ?_
                    refine wq_seq ?_
                    refine wc_cond_t rfl ?_
                    refine wc_seq ?_
                    refine wc_region ?_
                    refine wl_val (r_assign rfl) (ltn rfl) ?_
                    refine wl_nil ?_
                    refine wq_seq ?_
                    refine wc_region ?_
                    refine wl_val (r_move rfl) (ltn rfl) ?_
                    refine wl_val (r_assign rfl) (ltn rfl) ?_
                    refine wl_nil ?_
                    refine wq_block_normal ?_
                    refine wq_seq ?_
                    refine wc_region ?_
                    refine wl_val (r_move rfl) (ltn rfl) ?_
                    refine wl_val (r_as (r_add rfl rfl (by omega)) ((by first | exact (show Value.int .i64 ((k : Int) + 1) = .int .i64 ((k + 1 : Nat) : Int) from by rw [Int.natCast_add]; rfl) | exact (show Value.int .i64 (((k + 1 : Nat) : Int) + 1) = .int .i64 ((k + 1 + 1 : Nat) : Int) from by rw [Int.natCast_add (k + 1)]; rfl)))) (ltn rfl) ?_
                    refine wl_val (r_assign rfl) (ltn rfl) ?_
                    refine wl_nil ?_
                    refine wq_block_normal ?_
                    refine wq_round (_, _, _) (Sub.cons rfl (Sub.cons rfl (Sub.cons rfl (Sub.nil _)))) (Sub.cons rfl (Sub.cons rfl (Sub.nil _))) (by (try dsimp only); exact by first | exact ⟨rs_end hrs hkl (by assumption) (by assumption), H3⟩ | exact ⟨rs_one hrs hkl (by assumption) (by assumption), H3⟩ | exact ⟨rs_two hrs hkl (by assumption) (by omega), H3⟩ | exact ⟨rs_back hrs (by omega) (by assumption) (by assumption), H3⟩ | exact ⟨rs_stay hrs hkl (by omega) (by omega) (by omega), H3⟩) ?_
                    · (try dsimp only); omega
                  · (try simp only [beq_iff_eq, bne_iff_ne, ne_eq, decide_eq_true_eq, decide_eq_false_iff_not, beq_eq_false_iff_ne, bne_eq_false_iff_eq, Bool.not_eq_true', Bool.not_eq_false', Bool.not_eq_eq_eq_not, Bool.not_true, Bool.not_false, gt_iff_lt, ge_iff_le, Int.not_lt, Int.not_le] at h10)
                    refine wl_yes rfl rfl ?_
                    refine wl_val (r_move rfl) (ltn rfl) ?_
                    refine wl_yes rfl rfl ?_
                    refine wl_val (r_eql rfl rfl) (ltn rfl) ?_
                    refine wl_yes rfl rfl ?_
                    refine wl_val (r_pick_f rfl rfl) (ltn rfl) ?_
                    refine wl_val (r_pick_t rfl rfl) (ltn rfl) ?_
                    refine wl_val (r_assign rfl) (ltn rfl) ?_
                    refine wl_nil ?_
                    refine wq_seq ?_
                    refine wc_cond rfl (fun h11 => ?_) (fun h11 => ?_)
                    · (try simp only [beq_iff_eq, bne_iff_ne, ne_eq, decide_eq_true_eq, decide_eq_false_iff_not, beq_eq_false_iff_ne, bne_eq_false_iff_eq, Bool.not_eq_true', Bool.not_eq_false', Bool.not_eq_eq_eq_not, Bool.not_true, Bool.not_false, gt_iff_lt, ge_iff_le, Int.not_lt, Int.not_le] at h11)
                      
                      refine wc_seq ?_
                      refine wc_region ?_
                      refine wl_val (r_assign rfl) (ltn rfl) ?_
                      refine wl_nil ?_
                      refine wq_seq ?_
                      refine wc_region ?_
                      refine wl_val (r_move rfl) (ltn rfl) ?_
                      refine wl_val (r_assign rfl) (ltn rfl) ?_
                      refine wl_nil ?_
                      refine wq_block_normal ?_
                      refine wq_seq ?_
                      refine wc_region ?_
                      refine wl_val (r_move rfl) (ltn rfl) ?_
                      refine wl_val (r_as (r_add rfl rfl (by omega)) ((by first | exact (show Value.int .i64 ((k : Int) + 1) = .int .i64 ((k + 1 : Nat) : Int) from by rw [Int.natCast_add]; rfl) | exact (show Value.int .i64 (((k + 1 : Nat) : Int) + 1) = .int .i64 ((k + 1 + 1 : Nat) : Int) from by rw [Int.natCast_add (k + 1)]; rfl)))) (ltn rfl) ?_
                      refine wl_val (r_assign rfl) (ltn rfl) ?_
                      refine wl_nil ?_
                      refine wq_block_normal ?_
                      refine wq_round (_, _, _) (Sub.cons rfl (Sub.cons rfl (Sub.cons rfl (Sub.nil _)))) (Sub.cons rfl (Sub.cons rfl (Sub.nil _))) (by (try dsimp only); exact by first | exact ⟨rs_end hrs hkl (by assumption) (by assumption), H3⟩ | exact ⟨rs_one hrs hkl (by assumption) (by assumption), H3⟩ | exact ⟨rs_two hrs hkl (by assumption) (by omega), H3⟩ | exact ⟨rs_back hrs (by omega) (by assumption) (by assumption), H3⟩ | exact ⟨rs_stay hrs hkl (by omega) (by omega) (by omega), H3⟩) ?_
                      · (try dsimp only); omega
                    · (try simp only [beq_iff_eq, bne_iff_ne, ne_eq, decide_eq_true_eq, decide_eq_false_iff_not, beq_eq_false_iff_ne, bne_eq_false_iff_eq, Bool.not_eq_true', Bool.not_eq_false', Bool.not_eq_eq_eq_not, Bool.not_true, Bool.not_false, gt_iff_lt, ge_iff_le, Int.not_lt, Int.not_le] at h11)
                      
                      refine wc_skip ?_
                      refine wq_block_normal ?_
                      refine wq_seq ?_
                      refine wc_region ?_
                      refine wl_val (r_move rfl) (ltn rfl) ?_
                      refine wl_val (r_as (r_add rfl rfl (by omega)) ((by first | exact (show Value.int .i64 ((k : Int) + 1) = .int .i64 ((k + 1 : Nat) : Int) from by rw [Int.natCast_add]; rfl) | exact (show Value.int .i64 (((k + 1 : Nat) : Int) + 1) = .int .i64 ((k + 1 + 1 : Nat) : Int) from by rw [Int.natCast_add (k + 1)]; rfl)))) (ltn rfl) ?_
                      refine wl_val (r_assign rfl) (ltn rfl) ?_
                      refine wl_nil ?_
                      refine wq_block_normal ?_
                      refine wq_round (_, _, _) (Sub.cons rfl (Sub.cons rfl (Sub.cons rfl (Sub.nil _)))) (Sub.cons rfl (Sub.cons rfl (Sub.nil _))) (by (try dsimp only); exact by first | exact ⟨rs_end hrs hkl (by assumption) (by assumption), H3⟩ | exact ⟨rs_one hrs hkl (by assumption) (by assumption), H3⟩ | exact ⟨rs_two hrs hkl (by assumption) (by omega), H3⟩ | exact ⟨rs_back hrs (by omega) (by assumption) (by assumption), H3⟩ | exact ⟨rs_stay hrs hkl (by omega) (by omega) (by omega), H3⟩) ?_
                      · (try dsimp only); omega
                · (try simp only [beq_iff_eq, bne_iff_ne, ne_eq, decide_eq_true_eq, decide_eq_false_iff_not, beq_eq_false_iff_ne, bne_eq_false_iff_eq, Bool.not_eq_true', Bool.not_eq_false', Bool.not_eq_eq_eq_not, Bool.not_true, Bool.not_false, gt_iff_lt, ge_iff_le, Int.not_lt, Int.not_le] at h9)
                  refine wl_no rfl rfl rfl (ltn rfl) ?_
                  refine wl_no rfl rfl rfl (ltn rfl) ?_
                  refine wl_no rfl rfl rfl (ltn rfl) ?_
                  refine wl_nou rfl rfl (ltn rfl) ?_
                  refine wl_nou rfl rfl (ltn rfl) ?_
                  refine wl_no rfl rfl rfl (ltn rfl) ?_
                  refine wl_val (r_pick_f rfl rfl) (ltn rfl) ?_
                  refine wl_val (r_assign rfl) (ltn rfl) ?_
                  refine wl_nil ?_
                  refine wq_seq ?_
                  refine wc_cond_f rfl ?_
                  refine wc_skip ?_
                  refine wq_block_normal ?_
                  refine wq_seq ?_
                  refine wc_region ?_
                  refine wl_val (r_move rfl) (ltn rfl) ?_
                  refine wl_val (r_as (r_add rfl rfl (by omega)) ((by first | exact (show Value.int .i64 ((k : Int) + 1) = .int .i64 ((k + 1 : Nat) : Int) from by rw [Int.natCast_add]; rfl) | exact (show Value.int .i64 (((k + 1 : Nat) : Int) + 1) = .int .i64 ((k + 1 + 1 : Nat) : Int) from by rw [Int.natCast_add (k + 1)]; rfl)))) (ltn rfl) ?_
                  refine wl_val (r_assign rfl) (ltn rfl) ?_
                  refine wl_nil ?_
                  refine wq_block_normal ?_
                  refine wq_round (_, _, _) (Sub.cons rfl (Sub.cons rfl (Sub.cons rfl (Sub.nil _)))) (Sub.cons rfl (Sub.cons rfl (Sub.nil _))) (by (try dsimp only); exact by first | exact ⟨rs_end hrs hkl (by assumption) (by assumption), H3⟩ | exact ⟨rs_one hrs hkl (by assumption) (by assumption), H3⟩ | exact ⟨rs_two hrs hkl (by assumption) (by omega), H3⟩ | exact ⟨rs_back hrs (by omega) (by assumption) (by assumption), H3⟩ | exact ⟨rs_stay hrs hkl (by omega) (by omega) (by omega), H3⟩) ?_
                  · (try dsimp only); omega
            · (try simp only [beq_iff_eq, bne_iff_ne, ne_eq, decide_eq_true_eq, decide_eq_false_iff_not, beq_eq_false_iff_ne, bne_eq_false_iff_eq, Bool.not_eq_true', Bool.not_eq_false', Bool.not_eq_eq_eq_not, Bool.not_true, Bool.not_false, gt_iff_lt, ge_iff_le, Int.not_lt, Int.not_le] at h7)
              refine wl_no rfl rfl rfl (ltn rfl) ?_
              refine wl_no rfl rfl rfl (ltn rfl) ?_
              refine wl_val (r_pick_f rfl rfl) (ltn rfl) ?_
              refine wl_val (r_assign rfl) (ltn rfl) ?_
              refine wl_nil ?_
              refine wq_seq ?_
              refine wc_cond_f rfl ?_
              refine wc_seq ?_
              refine wc_region ?_
              refine wl_val (r_move rfl) (ltn rfl) ?_
              refine wl_val (r_eql rfl rfl) (ltn rfl) ?_
              refine wl_split rfl (ltn rfl) (fun h12 => ?_) (fun h12 => ?_)
              · (try simp only [beq_iff_eq, bne_iff_ne, ne_eq, decide_eq_true_eq, decide_eq_false_iff_not, beq_eq_false_iff_ne, bne_eq_false_iff_eq, Bool.not_eq_true', Bool.not_eq_false', Bool.not_eq_eq_eq_not, Bool.not_true, Bool.not_false, gt_iff_lt, ge_iff_le, Int.not_lt, Int.not_le] at h12)
                refine wl_yes rfl rfl ?_
                refine wl_val (r_move rfl) (ltn rfl) ?_
                refine wl_yes rfl rfl ?_
                refine wl_val (r_eql rfl rfl) (ltn rfl) ?_
                refine wl_yes rfl rfl ?_
                refine wl_split rfl (ltn rfl) (fun h13 => ?_) (fun h13 => ?_)
                · (try simp only [beq_iff_eq, bne_iff_ne, ne_eq, decide_eq_true_eq, decide_eq_false_iff_not, beq_eq_false_iff_ne, bne_eq_false_iff_eq, Bool.not_eq_true', Bool.not_eq_false', Bool.not_eq_eq_eq_not, Bool.not_true, Bool.not_false, gt_iff_lt, ge_iff_le, Int.not_lt, Int.not_le] at h13)
                  refine wl_no rfl rfl rfl (ltn rfl) ?_
                  refine wl_no rfl rfl rfl (ltn rfl) ?_
                  refine wl_yes rfl rfl ?_
                  refine wl_val (r_pick_t rfl rfl) (ltn rfl) ?_
                  refine wl_val (r_pick_t rfl rfl) (ltn rfl) ?_
                  refine wl_val (r_assign rfl) (ltn rfl) ?_
                  refine wl_nil ?_
                  refine wq_seq ?_
                  refine wc_cond_t rfl ?_
                  refine wc_seq ?_
                  refine wc_region ?_
                  refine wl_val (r_assign rfl) (ltn rfl) ?_
                  refine wl_nil ?_
                  refine wq_seq ?_
                  refine wc_region ?_
                  refine wl_val (r_move rfl) (ltn rfl) ?_
                  refine wl_val (r_assign rfl) (ltn rfl) ?_
                  refine wl_nil ?_
                  refine wq_block_normal ?_
                  refine wq_seq ?_
                  refine wc_region ?_
                  refine wl_val (r_move rfl) (ltn rfl) ?_
                  refine wl_val (r_as (r_add rfl rfl (by omega)) ((by first | exact (show Value.int .i64 ((k : Int) + 1) = .int .i64 ((k + 1 : Nat) : Int) from by rw [Int.natCast_add]; rfl) | exact (show Value.int .i64 (((k + 1 : Nat) : Int) + 1) = .int .i64 ((k + 1 + 1 : Nat) : Int) from by rw [Int.natCast_add (k + 1)]; rfl)))) (ltn rfl) ?_
                  refine wl_val (r_assign rfl) (ltn rfl) ?_
                  refine wl_nil ?_
                  refine wq_block_normal ?_
                  refine wq_round (_, _, _) (Sub.cons rfl (Sub.cons rfl (Sub.cons rfl (Sub.nil _)))) (Sub.cons rfl (Sub.cons rfl (Sub.nil _))) (by (try dsimp only); exact by first | exact ⟨rs_end hrs hkl (by assumption) (by assumption), H3⟩ | exact ⟨rs_one hrs hkl (by assumption) (by assumption), H3⟩ | exact ⟨rs_two hrs hkl (by assumption) (by omega), H3⟩ | exact ⟨rs_back hrs (by omega) (by assumption) (by assumption), H3⟩ | exact ⟨rs_stay hrs hkl (by omega) (by omega) (by omega), H3⟩) ?_
                  · (try dsimp only); omega
                · (try simp only [beq_iff_eq, bne_iff_ne, ne_eq, decide_eq_true_eq, decide_eq_false_iff_not, beq_eq_false_iff_ne, bne_eq_false_iff_eq, Bool.not_eq_true', Bool.not_eq_false', Bool.not_eq_eq_eq_not, Bool.not_true, Bool.not_false, gt_iff_lt, ge_iff_le, Int.not_lt, Int.not_le] at h13)
                  refine wl_yes rfl rfl ?_
                  refine wl_val (r_move rfl) (ltn rfl) ?_
                  refine wl_yes rfl rfl ?_
                  refine wl_val (r_eql rfl rfl) (ltn rfl) ?_
                  refine wl_yes rfl rfl ?_
                  refine wl_val (r_pick_f rfl rfl) (ltn rfl) ?_
                  refine wl_val (r_pick_t rfl rfl) (ltn rfl) ?_
                  refine wl_val (r_assign rfl) (ltn rfl) ?_
                  refine wl_nil ?_
                  refine wq_seq ?_
                  refine wc_cond rfl (fun h14 => ?_) (fun h14 => ?_)
                  · (try simp only [beq_iff_eq, bne_iff_ne, ne_eq, decide_eq_true_eq, decide_eq_false_iff_not, beq_eq_false_iff_ne, bne_eq_false_iff_eq, Bool.not_eq_true', Bool.not_eq_false', Bool.not_eq_eq_eq_not, Bool.not_true, Bool.not_false, gt_iff_lt, ge_iff_le, Int.not_lt, Int.not_le] at h14)
                    
                    refine wc_seq ?_
                    refine wc_region ?_
                    refine wl_val (r_assign rfl) (ltn rfl) ?_
                    refine wl_nil ?_
                    refine wq_seq ?_
                    refine wc_region ?_
                    refine wl_val (r_move rfl) (ltn rfl) ?_
                    refine wl_val (r_assign rfl) (ltn rfl) ?_
                    refine wl_nil ?_
                    refine wq_block_normal ?_
                    refine wq_seq ?_
                    refine wc_region ?_
                    refine wl_val (r_move rfl) (ltn rfl) ?_
                    refine wl_val (r_as (r_add rfl rfl (by omega)) ((by first | exact (show Value.int .i64 ((k : Int) + 1) = .int .i64 ((k + 1 : Nat) : Int) from by rw [Int.natCast_add]; rfl) | exact (show Value.int .i64 (((k + 1 : Nat) : Int) + 1) = .int .i64 ((k + 1 + 1 : Nat) : Int) from by rw [Int.natCast_add (k + 1)]; rfl)))) (ltn rfl) ?_
                    refine wl_val (r_assign rfl) (ltn rfl) ?_
                    refine wl_nil ?_
                    refine wq_block_normal ?_
                    refine wq_round (_, _, _) (Sub.cons rfl (Sub.cons rfl (Sub.cons rfl (Sub.nil _)))) (Sub.cons rfl (Sub.cons rfl (Sub.nil _))) (by (try dsimp only); exact by first | exact ⟨rs_end hrs hkl (by assumption) (by assumption), H3⟩ | exact ⟨rs_one hrs hkl (by assumption) (by assumption), H3⟩ | exact ⟨rs_two hrs hkl (by assumption) (by omega), H3⟩ | exact ⟨rs_back hrs (by omega) (by assumption) (by assumption), H3⟩ | exact ⟨rs_stay hrs hkl (by omega) (by omega) (by omega), H3⟩) ?_
                    · (try dsimp only); omega
                  · (try simp only [beq_iff_eq, bne_iff_ne, ne_eq, decide_eq_true_eq, decide_eq_false_iff_not, beq_eq_false_iff_ne, bne_eq_false_iff_eq, Bool.not_eq_true', Bool.not_eq_false', Bool.not_eq_eq_eq_not, Bool.not_true, Bool.not_false, gt_iff_lt, ge_iff_le, Int.not_lt, Int.not_le] at h14)
                    
                    refine wc_skip ?_
                    refine wq_block_normal ?_
                    refine wq_seq ?_
                    refine wc_region ?_
                    refine wl_val (r_move rfl) (ltn rfl) ?_
                    refine wl_val (r_as (r_add rfl rfl (by omega)) ((by first | exact (show Value.int .i64 ((k : Int) + 1) = .int .i64 ((k + 1 : Nat) : Int) from by rw [Int.natCast_add]; rfl) | exact (show Value.int .i64 (((k + 1 : Nat) : Int) + 1) = .int .i64 ((k + 1 + 1 : Nat) : Int) from by rw [Int.natCast_add (k + 1)]; rfl)))) (ltn rfl) ?_
                    refine wl_val (r_assign rfl) (ltn rfl) ?_
                    refine wl_nil ?_
                    refine wq_block_normal ?_
                    refine wq_round (_, _, _) (Sub.cons rfl (Sub.cons rfl (Sub.cons rfl (Sub.nil _)))) (Sub.cons rfl (Sub.cons rfl (Sub.nil _))) (by (try dsimp only); exact by first | exact ⟨rs_end hrs hkl (by assumption) (by assumption), H3⟩ | exact ⟨rs_one hrs hkl (by assumption) (by assumption), H3⟩ | exact ⟨rs_two hrs hkl (by assumption) (by omega), H3⟩ | exact ⟨rs_back hrs (by omega) (by assumption) (by assumption), H3⟩ | exact ⟨rs_stay hrs hkl (by omega) (by omega) (by omega), H3⟩) ?_
                    · (try dsimp only); omega
              · (try simp only [beq_iff_eq, bne_iff_ne, ne_eq, decide_eq_true_eq, decide_eq_false_iff_not, beq_eq_false_iff_ne, bne_eq_false_iff_eq, Bool.not_eq_true', Bool.not_eq_false', Bool.not_eq_eq_eq_not, Bool.not_true, Bool.not_false, gt_iff_lt, ge_iff_le, Int.not_lt, Int.not_le] at h12)
                refine wl_no rfl rfl rfl (ltn rfl) ?_
                refine wl_no rfl rfl rfl (ltn rfl) ?_
                refine wl_no rfl rfl rfl (ltn rfl) ?_
                refine wl_nou rfl rfl (ltn rfl) ?_
                refine wl_nou rfl rfl (ltn rfl) ?_
                refine wl_no rfl rfl rfl (ltn rfl) ?_
                refine wl_val (r_pick_f rfl rfl) (ltn rfl) ?_
                refine wl_val (r_assign rfl) (ltn rfl) ?_
                refine wl_nil ?_
                refine wq_seq ?_
                refine wc_cond_f rfl ?_
                refine wc_skip ?_
                refine wq_block_normal ?_
                refine wq_seq ?_
                refine wc_region ?_
                refine wl_val (r_move rfl) (ltn rfl) ?_
                refine wl_val (r_as (r_add rfl rfl (by omega)) ((by first | exact (show Value.int .i64 ((k : Int) + 1) = .int .i64 ((k + 1 : Nat) : Int) from by rw [Int.natCast_add]; rfl) | exact (show Value.int .i64 (((k + 1 : Nat) : Int) + 1) = .int .i64 ((k + 1 + 1 : Nat) : Int) from by rw [Int.natCast_add (k + 1)]; rfl)))) (ltn rfl) ?_
                refine wl_val (r_assign rfl) (ltn rfl) ?_
                refine wl_nil ?_
                refine wq_block_normal ?_
                refine wq_round (_, _, _) (Sub.cons rfl (Sub.cons rfl (Sub.cons rfl (Sub.nil _)))) (Sub.cons rfl (Sub.cons rfl (Sub.nil _))) (by (try dsimp only); exact by first | exact ⟨rs_end hrs hkl (by assumption) (by assumption), H3⟩ | exact ⟨rs_one hrs hkl (by assumption) (by assumption), H3⟩ | exact ⟨rs_two hrs hkl (by assumption) (by omega), H3⟩ | exact ⟨rs_back hrs (by omega) (by assumption) (by assumption), H3⟩ | exact ⟨rs_stay hrs hkl (by omega) (by omega) (by omega), H3⟩) ?_
                · (try dsimp only); omega
        · (try simp only [beq_iff_eq, bne_iff_ne, ne_eq, decide_eq_true_eq, decide_eq_false_iff_not, beq_eq_false_iff_ne, bne_eq_false_iff_eq, Bool.not_eq_true', Bool.not_eq_false', Bool.not_eq_eq_eq_not, Bool.not_true, Bool.not_false, gt_iff_lt, ge_iff_le, Int.not_lt, Int.not_le] at h4)
          refine wl_no rfl rfl rfl (ltn rfl) ?_
          refine wl_no rfl rfl rfl (ltn rfl) ?_
          refine wl_val (r_pick_f rfl rfl) (ltn rfl) ?_
          refine wl_val (r_assign rfl) (ltn rfl) ?_
          refine wl_nil ?_
          refine wq_seq ?_
          refine wc_cond_f rfl ?_
          refine wc_seq ?_
          refine wc_region ?_
          refine wl_val (r_move rfl) (ltn rfl) ?_
          refine wl_val (r_eql rfl rfl) (ltn rfl) ?_
          refine wl_split rfl (ltn rfl) (fun h15 => ?_) (fun h15 => ?_)
          · (try simp only [beq_iff_eq, bne_iff_ne, ne_eq, decide_eq_true_eq, decide_eq_false_iff_not, beq_eq_false_iff_ne, bne_eq_false_iff_eq, Bool.not_eq_true', Bool.not_eq_false', Bool.not_eq_eq_eq_not, Bool.not_true, Bool.not_false, gt_iff_lt, ge_iff_le, Int.not_lt, Int.not_le] at h15)
            refine wl_yes rfl rfl ?_
            refine wl_val (r_move rfl) (ltn rfl) ?_
            refine wl_yes rfl rfl ?_
            refine wl_val (r_eql rfl rfl) (ltn rfl) ?_
            refine wl_val (r_pick_t rfl rfl) (ltn rfl) ?_
            refine wl_val (r_assign rfl) (ltn rfl) ?_
            refine wl_nil ?_
            refine wq_seq ?_
            refine wc_cond rfl (fun h16 => ?_) (fun h16 => ?_)
            · (try simp only [beq_iff_eq, bne_iff_ne, ne_eq, decide_eq_true_eq, decide_eq_false_iff_not, beq_eq_false_iff_ne, bne_eq_false_iff_eq, Bool.not_eq_true', Bool.not_eq_false', Bool.not_eq_eq_eq_not, Bool.not_true, Bool.not_false, gt_iff_lt, ge_iff_le, Int.not_lt, Int.not_le] at h16)
              
              refine wc_seq ?_
              refine wc_region ?_
              refine wl_val (r_assign rfl) (ltn rfl) ?_
              refine wl_nil ?_
              refine wq_seq ?_
              refine wc_region ?_
              refine wl_val (r_move rfl) (ltn rfl) ?_
              refine wl_val (r_assign rfl) (ltn rfl) ?_
              refine wl_nil ?_
              refine wq_block_normal ?_
              refine wq_seq ?_
              refine wc_region ?_
              refine wl_val (r_move rfl) (ltn rfl) ?_
              refine wl_val (r_as (r_add rfl rfl (by omega)) ((by first | exact (show Value.int .i64 ((k : Int) + 1) = .int .i64 ((k + 1 : Nat) : Int) from by rw [Int.natCast_add]; rfl) | exact (show Value.int .i64 (((k + 1 : Nat) : Int) + 1) = .int .i64 ((k + 1 + 1 : Nat) : Int) from by rw [Int.natCast_add (k + 1)]; rfl)))) (ltn rfl) ?_
              refine wl_val (r_assign rfl) (ltn rfl) ?_
              refine wl_nil ?_
              refine wq_block_normal ?_
              refine wq_round (_, _, _) (Sub.cons rfl (Sub.cons rfl (Sub.cons rfl (Sub.nil _)))) (Sub.cons rfl (Sub.cons rfl (Sub.nil _))) (by (try dsimp only); exact by first | exact ⟨rs_end hrs hkl (by assumption) (by assumption), H3⟩ | exact ⟨rs_one hrs hkl (by assumption) (by assumption), H3⟩ | exact ⟨rs_two hrs hkl (by assumption) (by omega), H3⟩ | exact ⟨rs_back hrs (by omega) (by assumption) (by assumption), H3⟩ | exact ⟨rs_stay hrs hkl (by omega) (by omega) (by omega), H3⟩) ?_
              · (try dsimp only); omega
            · (try simp only [beq_iff_eq, bne_iff_ne, ne_eq, decide_eq_true_eq, decide_eq_false_iff_not, beq_eq_false_iff_ne, bne_eq_false_iff_eq, Bool.not_eq_true', Bool.not_eq_false', Bool.not_eq_eq_eq_not, Bool.not_true, Bool.not_false, gt_iff_lt, ge_iff_le, Int.not_lt, Int.not_le] at h16)
              
              refine wc_seq ?_
              refine wc_region ?_
              refine wl_val (r_move rfl) (ltn rfl) ?_
              refine wl_val (r_eql rfl rfl) (ltn rfl) ?_
              refine wl_split rfl (ltn rfl) (fun h17 => ?_) (fun h17 => ?_)
              · (try simp only [beq_iff_eq, bne_iff_ne, ne_eq, decide_eq_true_eq, decide_eq_false_iff_not, beq_eq_false_iff_ne, bne_eq_false_iff_eq, Bool.not_eq_true', Bool.not_eq_false', Bool.not_eq_eq_eq_not, Bool.not_true, Bool.not_false, gt_iff_lt, ge_iff_le, Int.not_lt, Int.not_le] at h17)
                refine wl_yes rfl rfl ?_
                refine wl_val (r_move rfl) (ltn rfl) ?_
                refine wl_yes rfl rfl ?_
                refine wl_val (r_eql rfl rfl) (ltn rfl) ?_
                refine wl_yes rfl rfl ?_
                refine wl_split rfl (ltn rfl) (fun h18 => ?_) (fun h18 => ?_)
                · (try simp only [beq_iff_eq, bne_iff_ne, ne_eq, decide_eq_true_eq, decide_eq_false_iff_not, beq_eq_false_iff_ne, bne_eq_false_iff_eq, Bool.not_eq_true', Bool.not_eq_false', Bool.not_eq_eq_eq_not, Bool.not_true, Bool.not_false, gt_iff_lt, ge_iff_le, Int.not_lt, Int.not_le] at h18)
                  refine wl_no rfl rfl rfl (ltn rfl) ?_
                  refine wl_no rfl rfl rfl (ltn rfl) ?_
                  refine wl_yes rfl rfl ?_
                  refine wl_val (r_pick_t rfl rfl) (ltn rfl) ?_
                  refine wl_val (r_pick_t rfl rfl) (ltn rfl) ?_
                  refine wl_val (r_assign rfl) (ltn rfl) ?_
                  refine wl_nil ?_
                  refine wq_seq ?_
                  refine wc_cond_t rfl ?_
                  refine wc_seq ?_
                  refine wc_region ?_
                  refine wl_val (r_assign rfl) (ltn rfl) ?_
                  refine wl_nil ?_
                  refine wq_seq ?_
                  refine wc_region ?_
                  refine wl_val (r_move rfl) (ltn rfl) ?_
                  refine wl_val (r_assign rfl) (ltn rfl) ?_
                  refine wl_nil ?_
                  refine wq_block_normal ?_
                  refine wq_seq ?_
                  refine wc_region ?_
                  refine wl_val (r_move rfl) (ltn rfl) ?_
                  refine wl_val (r_as (r_add rfl rfl (by omega)) ((by first | exact (show Value.int .i64 ((k : Int) + 1) = .int .i64 ((k + 1 : Nat) : Int) from by rw [Int.natCast_add]; rfl) | exact (show Value.int .i64 (((k + 1 : Nat) : Int) + 1) = .int .i64 ((k + 1 + 1 : Nat) : Int) from by rw [Int.natCast_add (k + 1)]; rfl)))) (ltn rfl) ?_
                  refine wl_val (r_assign rfl) (ltn rfl) ?_
                  refine wl_nil ?_
                  refine wq_block_normal ?_
                  refine wq_round (_, _, _) (Sub.cons rfl (Sub.cons rfl (Sub.cons rfl (Sub.nil _)))) (Sub.cons rfl (Sub.cons rfl (Sub.nil _))) (by (try dsimp only); exact by first | exact ⟨rs_end hrs hkl (by assumption) (by assumption), H3⟩ | exact ⟨rs_one hrs hkl (by assumption) (by assumption), H3⟩ | exact ⟨rs_two hrs hkl (by assumption) (by omega), H3⟩ | exact ⟨rs_back hrs (by omega) (by assumption) (by assumption), H3⟩ | exact ⟨rs_stay hrs hkl (by omega) (by omega) (by omega), H3⟩) ?_
                  · (try dsimp only); omega
                · (try simp only [beq_iff_eq, bne_iff_ne, ne_eq, decide_eq_true_eq, decide_eq_false_iff_not, beq_eq_false_iff_ne, bne_eq_false_iff_eq, Bool.not_eq_true', Bool.not_eq_false', Bool.not_eq_eq_eq_not, Bool.not_true, Bool.not_false, gt_iff_lt, ge_iff_le, Int.not_lt, Int.not_le] at h18)
                  refine wl_yes rfl rfl ?_
                  refine wl_val (r_move rfl) (ltn rfl) ?_
                  refine wl_yes rfl rfl ?_
                  refine wl_val (r_eql rfl rfl) (ltn rfl) ?_
                  refine wl_yes rfl rfl ?_
                  refine wl_val (r_pick_f rfl rfl) (ltn rfl) ?_
                  refine wl_val (r_pick_t rfl rfl) (ltn rfl) ?_
                  refine wl_val (r_assign rfl) (ltn rfl) ?_
                  refine wl_nil ?_
                  refine wq_seq ?_
                  refine wc_cond rfl (fun h19 => ?_) (fun h19 => ?_)
                  · (try simp only [beq_iff_eq, bne_iff_ne, ne_eq, decide_eq_true_eq, decide_eq_false_iff_not, beq_eq_false_iff_ne, bne_eq_false_iff_eq, Bool.not_eq_true', Bool.not_eq_false', Bool.not_eq_eq_eq_not, Bool.not_true, Bool.not_false, gt_iff_lt, ge_iff_le, Int.not_lt, Int.not_le] at h19)
                    
                    refine wc_seq ?_
                    refine wc_region ?_
                    refine wl_val (r_assign rfl) (ltn rfl) ?_
                    refine wl_nil ?_
                    refine wq_seq ?_
                    refine wc_region ?_
                    refine wl_val (r_move rfl) (ltn rfl) ?_
                    refine wl_val (r_assign rfl) (ltn rfl) ?_
                    refine wl_nil ?_
                    refine wq_block_normal ?_
                    refine wq_seq ?_
                    refine wc_region ?_
                    refine wl_val (r_move rfl) (ltn rfl) ?_
                    refine wl_val (r_as (r_add rfl rfl (by omega)) ((by first | exact (show Value.int .i64 ((k : Int) + 1) = .int .i64 ((k + 1 : Nat) : Int) from by rw [Int.natCast_add]; rfl) | exact (show Value.int .i64 (((k + 1 : Nat) : Int) + 1) = .int .i64 ((k + 1 + 1 : Nat) : Int) from by rw [Int.natCast_add (k + 1)]; rfl)))) (ltn rfl) ?_
                    refine wl_val (r_assign rfl) (ltn rfl) ?_
                    refine wl_nil ?_
                    refine wq_block_normal ?_
                    refine wq_round (_, _, _) (Sub.cons rfl (Sub.cons rfl (Sub.cons rfl (Sub.nil _)))) (Sub.cons rfl (Sub.cons rfl (Sub.nil _))) (by (try dsimp only); exact by first | exact ⟨rs_end hrs hkl (by assumption) (by assumption), H3⟩ | exact ⟨rs_one hrs hkl (by assumption) (by assumption), H3⟩ | exact ⟨rs_two hrs hkl (by assumption) (by omega), H3⟩ | exact ⟨rs_back hrs (by omega) (by assumption) (by assumption), H3⟩ | exact ⟨rs_stay hrs hkl (by omega) (by omega) (by omega), H3⟩) ?_
                    · (try dsimp only); omega
                  · (try simp only [beq_iff_eq, bne_iff_ne, ne_eq, decide_eq_true_eq, decide_eq_false_iff_not, beq_eq_false_iff_ne, bne_eq_false_iff_eq, Bool.not_eq_true', Bool.not_eq_false', Bool.not_eq_eq_eq_not, Bool.not_true, Bool.not_false, gt_iff_lt, ge_iff_le, Int.not_lt, Int.not_le] at h19)
                    
                    refine wc_skip ?_
                    refine wq_block_normal ?_
                    refine wq_seq ?_
                    refine wc_region ?_
                    refine wl_val (r_move rfl) (ltn rfl) ?_
                    refine wl_val (r_as (r_add rfl rfl (by omega)) ((by first | exact (show Value.int .i64 ((k : Int) + 1) = .int .i64 ((k + 1 : Nat) : Int) from by rw [Int.natCast_add]; rfl) | exact (show Value.int .i64 (((k + 1 : Nat) : Int) + 1) = .int .i64 ((k + 1 + 1 : Nat) : Int) from by rw [Int.natCast_add (k + 1)]; rfl)))) (ltn rfl) ?_
                    refine wl_val (r_assign rfl) (ltn rfl) ?_
                    refine wl_nil ?_
                    refine wq_block_normal ?_
                    refine wq_round (_, _, _) (Sub.cons rfl (Sub.cons rfl (Sub.cons rfl (Sub.nil _)))) (Sub.cons rfl (Sub.cons rfl (Sub.nil _))) (by (try dsimp only); exact by first | exact ⟨rs_end hrs hkl (by assumption) (by assumption), H3⟩ | exact ⟨rs_one hrs hkl (by assumption) (by assumption), H3⟩ | exact ⟨rs_two hrs hkl (by assumption) (by omega), H3⟩ | exact ⟨rs_back hrs (by omega) (by assumption) (by assumption), H3⟩ | exact ⟨rs_stay hrs hkl (by omega) (by omega) (by omega), H3⟩) ?_
                    · (try dsimp only); omega
              · (try simp only [beq_iff_eq, bne_iff_ne, ne_eq, decide_eq_true_eq, decide_eq_false_iff_not, beq_eq_false_iff_ne, bne_eq_false_iff_eq, Bool.not_eq_true', Bool.not_eq_false', Bool.not_eq_eq_eq_not, Bool.not_true, Bool.not_false, gt_iff_lt, ge_iff_le, Int.not_lt, Int.not_le] at h17)
                refine wl_no rfl rfl rfl (ltn rfl) ?_
                refine wl_no rfl rfl rfl (ltn rfl) ?_
                refine wl_no rfl rfl rfl (ltn rfl) ?_
                refine wl_nou rfl rfl (ltn rfl) ?_
                refine wl_nou rfl rfl (ltn rfl) ?_
                refine wl_no rfl rfl rfl (ltn rfl) ?_
                refine wl_val (r_pick_f rfl rfl) (ltn rfl) ?_
                refine wl_val (r_assign rfl) (ltn rfl) ?_
                refine wl_nil ?_
                refine wq_seq ?_
                refine wc_cond_f rfl ?_
                refine wc_skip ?_
                refine wq_block_normal ?_
                refine wq_seq ?_
                refine wc_region ?_
                refine wl_val (r_move rfl) (ltn rfl) ?_
                refine wl_val (r_as (r_add rfl rfl (by omega)) ((by first | exact (show Value.int .i64 ((k : Int) + 1) = .int .i64 ((k + 1 : Nat) : Int) from by rw [Int.natCast_add]; rfl) | exact (show Value.int .i64 (((k + 1 : Nat) : Int) + 1) = .int .i64 ((k + 1 + 1 : Nat) : Int) from by rw [Int.natCast_add (k + 1)]; rfl)))) (ltn rfl) ?_
                refine wl_val (r_assign rfl) (ltn rfl) ?_
                refine wl_nil ?_
                refine wq_block_normal ?_
                refine wq_round (_, _, _) (Sub.cons rfl (Sub.cons rfl (Sub.cons rfl (Sub.nil _)))) (Sub.cons rfl (Sub.cons rfl (Sub.nil _))) (by (try dsimp only); exact by first | exact ⟨rs_end hrs hkl (by assumption) (by assumption), H3⟩ | exact ⟨rs_one hrs hkl (by assumption) (by assumption), H3⟩ | exact ⟨rs_two hrs hkl (by assumption) (by omega), H3⟩ | exact ⟨rs_back hrs (by omega) (by assumption) (by assumption), H3⟩ | exact ⟨rs_stay hrs hkl (by omega) (by omega) (by omega), H3⟩) ?_
                · (try dsimp only); omega
          · (try simp only [beq_iff_eq, bne_iff_ne, ne_eq, decide_eq_true_eq, decide_eq_false_iff_not, beq_eq_false_iff_ne, bne_eq_false_iff_eq, Bool.not_eq_true', Bool.not_eq_false', Bool.not_eq_eq_eq_not, Bool.not_true, Bool.not_false, gt_iff_lt, ge_iff_le, Int.not_lt, Int.not_le] at h15)
            refine wl_no rfl rfl rfl (ltn rfl) ?_
            refine wl_no rfl rfl rfl (ltn rfl) ?_
            refine wl_val (r_pick_f rfl rfl) (ltn rfl) ?_
            refine wl_val (r_assign rfl) (ltn rfl) ?_
            refine wl_nil ?_
            refine wq_seq ?_
            refine wc_cond_f rfl ?_
            refine wc_seq ?_
            refine wc_region ?_
            refine wl_val (r_move rfl) (ltn rfl) ?_
            refine wl_val (r_eql rfl rfl) (ltn rfl) ?_
            refine wl_split rfl (ltn rfl) (fun h20 => ?_) (fun h20 => ?_)
            · (try simp only [beq_iff_eq, bne_iff_ne, ne_eq, decide_eq_true_eq, decide_eq_false_iff_not, beq_eq_false_iff_ne, bne_eq_false_iff_eq, Bool.not_eq_true', Bool.not_eq_false', Bool.not_eq_eq_eq_not, Bool.not_true, Bool.not_false, gt_iff_lt, ge_iff_le, Int.not_lt, Int.not_le] at h20)
              refine wl_yes rfl rfl ?_
              refine wl_val (r_move rfl) (ltn rfl) ?_
              refine wl_yes rfl rfl ?_
              refine wl_val (r_eql rfl rfl) (ltn rfl) ?_
              refine wl_yes rfl rfl ?_
              refine wl_split rfl (ltn rfl) (fun h21 => ?_) (fun h21 => ?_)
              · (try simp only [beq_iff_eq, bne_iff_ne, ne_eq, decide_eq_true_eq, decide_eq_false_iff_not, beq_eq_false_iff_ne, bne_eq_false_iff_eq, Bool.not_eq_true', Bool.not_eq_false', Bool.not_eq_eq_eq_not, Bool.not_true, Bool.not_false, gt_iff_lt, ge_iff_le, Int.not_lt, Int.not_le] at h21)
                refine wl_no rfl rfl rfl (ltn rfl) ?_
                refine wl_no rfl rfl rfl (ltn rfl) ?_
                refine wl_yes rfl rfl ?_
                refine wl_val (r_pick_t rfl rfl) (ltn rfl) ?_
                refine wl_val (r_pick_t rfl rfl) (ltn rfl) ?_
                refine wl_val (r_assign rfl) (ltn rfl) ?_
                refine wl_nil ?_
                refine wq_seq ?_
                refine wc_cond_t rfl ?_
                refine wc_seq ?_
                refine wc_region ?_
                refine wl_val (r_assign rfl) (ltn rfl) ?_
                refine wl_nil ?_
                refine wq_seq ?_
                refine wc_region ?_
                refine wl_val (r_move rfl) (ltn rfl) ?_
                refine wl_val (r_assign rfl) (ltn rfl) ?_
                refine wl_nil ?_
                refine wq_block_normal ?_
                refine wq_seq ?_
                refine wc_region ?_
                refine wl_val (r_move rfl) (ltn rfl) ?_
                refine wl_val (r_as (r_add rfl rfl (by omega)) ((by first | exact (show Value.int .i64 ((k : Int) + 1) = .int .i64 ((k + 1 : Nat) : Int) from by rw [Int.natCast_add]; rfl) | exact (show Value.int .i64 (((k + 1 : Nat) : Int) + 1) = .int .i64 ((k + 1 + 1 : Nat) : Int) from by rw [Int.natCast_add (k + 1)]; rfl)))) (ltn rfl) ?_
                refine wl_val (r_assign rfl) (ltn rfl) ?_
                refine wl_nil ?_
                refine wq_block_normal ?_
                refine wq_round (_, _, _) (Sub.cons rfl (Sub.cons rfl (Sub.cons rfl (Sub.nil _)))) (Sub.cons rfl (Sub.cons rfl (Sub.nil _))) (by (try dsimp only); exact by first | exact ⟨rs_end hrs hkl (by assumption) (by assumption), H3⟩ | exact ⟨rs_one hrs hkl (by assumption) (by assumption), H3⟩ | exact ⟨rs_two hrs hkl (by assumption) (by omega), H3⟩ | exact ⟨rs_back hrs (by omega) (by assumption) (by assumption), H3⟩ | exact ⟨rs_stay hrs hkl (by omega) (by omega) (by omega), H3⟩) ?_
                · (try dsimp only); omega
              · (try simp only [beq_iff_eq, bne_iff_ne, ne_eq, decide_eq_true_eq, decide_eq_false_iff_not, beq_eq_false_iff_ne, bne_eq_false_iff_eq, Bool.not_eq_true', Bool.not_eq_false', Bool.not_eq_eq_eq_not, Bool.not_true, Bool.not_false, gt_iff_lt, ge_iff_le, Int.not_lt, Int.not_le] at h21)
                refine wl_yes rfl rfl ?_
                refine wl_val (r_move rfl) (ltn rfl) ?_
                refine wl_yes rfl rfl ?_
                refine wl_val (r_eql rfl rfl) (ltn rfl) ?_
                refine wl_yes rfl rfl ?_
                refine wl_val (r_pick_f rfl rfl) (ltn rfl) ?_
                refine wl_val (r_pick_t rfl rfl) (ltn rfl) ?_
                refine wl_val (r_assign rfl) (ltn rfl) ?_
                refine wl_nil ?_
                refine wq_seq ?_
                refine wc_cond rfl (fun h22 => ?_) (fun h22 => ?_)
                · (try simp only [beq_iff_eq, bne_iff_ne, ne_eq, decide_eq_true_eq, decide_eq_false_iff_not, beq_eq_false_iff_ne, bne_eq_false_iff_eq, Bool.not_eq_true', Bool.not_eq_false', Bool.not_eq_eq_eq_not, Bool.not_true, Bool.not_false, gt_iff_lt, ge_iff_le, Int.not_lt, Int.not_le] at h22)
                  
                  refine wc_seq ?_
                  refine wc_region ?_
                  refine wl_val (r_assign rfl) (ltn rfl) ?_
                  refine wl_nil ?_
                  refine wq_seq ?_
                  refine wc_region ?_
                  refine wl_val (r_move rfl) (ltn rfl) ?_
                  refine wl_val (r_assign rfl) (ltn rfl) ?_
                  refine wl_nil ?_
                  refine wq_block_normal ?_
                  refine wq_seq ?_
                  refine wc_region ?_
                  refine wl_val (r_move rfl) (ltn rfl) ?_
                  refine wl_val (r_as (r_add rfl rfl (by omega)) ((by first | exact (show Value.int .i64 ((k : Int) + 1) = .int .i64 ((k + 1 : Nat) : Int) from by rw [Int.natCast_add]; rfl) | exact (show Value.int .i64 (((k + 1 : Nat) : Int) + 1) = .int .i64 ((k + 1 + 1 : Nat) : Int) from by rw [Int.natCast_add (k + 1)]; rfl)))) (ltn rfl) ?_
                  refine wl_val (r_assign rfl) (ltn rfl) ?_
                  refine wl_nil ?_
                  refine wq_block_normal ?_
                  refine wq_round (_, _, _) (Sub.cons rfl (Sub.cons rfl (Sub.cons rfl (Sub.nil _)))) (Sub.cons rfl (Sub.cons rfl (Sub.nil _))) (by (try dsimp only); exact by first | exact ⟨rs_end hrs hkl (by assumption) (by assumption), H3⟩ | exact ⟨rs_one hrs hkl (by assumption) (by assumption), H3⟩ | exact ⟨rs_two hrs hkl (by assumption) (by omega), H3⟩ | exact ⟨rs_back hrs (by omega) (by assumption) (by assumption), H3⟩ | exact ⟨rs_stay hrs hkl (by omega) (by omega) (by omega), H3⟩) ?_
                  · (try dsimp only); omega
                · (try simp only [beq_iff_eq, bne_iff_ne, ne_eq, decide_eq_true_eq, decide_eq_false_iff_not, beq_eq_false_iff_ne, bne_eq_false_iff_eq, Bool.not_eq_true', Bool.not_eq_false', Bool.not_eq_eq_eq_not, Bool.not_true, Bool.not_false, gt_iff_lt, ge_iff_le, Int.not_lt, Int.not_le] at h22)
                  
                  refine wc_skip ?_
                  refine wq_block_normal ?_
                  refine wq_seq ?_
                  refine wc_region ?_
                  refine wl_val (r_move rfl) (ltn rfl) ?_
                  refine wl_val (r_as (r_add rfl rfl (by omega)) ((by first | exact (show Value.int .i64 ((k : Int) + 1) = .int .i64 ((k + 1 : Nat) : Int) from by rw [Int.natCast_add]; rfl) | exact (show Value.int .i64 (((k + 1 : Nat) : Int) + 1) = .int .i64 ((k + 1 + 1 : Nat) : Int) from by rw [Int.natCast_add (k + 1)]; rfl)))) (ltn rfl) ?_
                  refine wl_val (r_assign rfl) (ltn rfl) ?_
                  refine wl_nil ?_
                  refine wq_block_normal ?_
                  refine wq_round (_, _, _) (Sub.cons rfl (Sub.cons rfl (Sub.cons rfl (Sub.nil _)))) (Sub.cons rfl (Sub.cons rfl (Sub.nil _))) (by (try dsimp only); exact by first | exact ⟨rs_end hrs hkl (by assumption) (by assumption), H3⟩ | exact ⟨rs_one hrs hkl (by assumption) (by assumption), H3⟩ | exact ⟨rs_two hrs hkl (by assumption) (by omega), H3⟩ | exact ⟨rs_back hrs (by omega) (by assumption) (by assumption), H3⟩ | exact ⟨rs_stay hrs hkl (by omega) (by omega) (by omega), H3⟩) ?_
                  · (try dsimp only); omega
            · (try simp only [beq_iff_eq, bne_iff_ne, ne_eq, decide_eq_true_eq, decide_eq_false_iff_not, beq_eq_false_iff_ne, bne_eq_false_iff_eq, Bool.not_eq_true', Bool.not_eq_false', Bool.not_eq_eq_eq_not, Bool.not_true, Bool.not_false, gt_iff_lt, ge_iff_le, Int.not_lt, Int.not_le] at h20)
              refine wl_no rfl rfl rfl (ltn rfl) ?_
              refine wl_no rfl rfl rfl (ltn rfl) ?_
              refine wl_no rfl rfl rfl (ltn rfl) ?_
              refine wl_nou rfl rfl (ltn rfl) ?_
              refine wl_nou rfl rfl (ltn rfl) ?_
              refine wl_no rfl rfl rfl (ltn rfl) ?_
              refine wl_val (r_pick_f rfl rfl) (ltn rfl) ?_
              refine wl_val (r_assign rfl) (ltn rfl) ?_
              refine wl_nil ?_
              refine wq_seq ?_
              refine wc_cond_f rfl ?_
              refine wc_skip ?_
              refine wq_block_normal ?_
              refine wq_seq ?_
              refine wc_region ?_
              refine wl_val (r_move rfl) (ltn rfl) ?_
              refine wl_val (r_as (r_add rfl rfl (by omega)) ((by first | exact (show Value.int .i64 ((k : Int) + 1) = .int .i64 ((k + 1 : Nat) : Int) from by rw [Int.natCast_add]; rfl) | exact (show Value.int .i64 (((k + 1 : Nat) : Int) + 1) = .int .i64 ((k + 1 + 1 : Nat) : Int) from by rw [Int.natCast_add (k + 1)]; rfl)))) (ltn rfl) ?_
              refine wl_val (r_assign rfl) (ltn rfl) ?_
              refine wl_nil ?_
              refine wq_block_normal ?_
              refine wq_round (_, _, _) (Sub.cons rfl (Sub.cons rfl (Sub.cons rfl (Sub.nil _)))) (Sub.cons rfl (Sub.cons rfl (Sub.nil _))) (by (try dsimp only); exact by first | exact ⟨rs_end hrs hkl (by assumption) (by assumption), H3⟩ | exact ⟨rs_one hrs hkl (by assumption) (by assumption), H3⟩ | exact ⟨rs_two hrs hkl (by assumption) (by omega), H3⟩ | exact ⟨rs_back hrs (by omega) (by assumption) (by assumption), H3⟩ | exact ⟨rs_stay hrs hkl (by omega) (by omega) (by omega), H3⟩) ?_
              · (try dsimp only); omega
    · (try simp only [beq_iff_eq, bne_iff_ne, ne_eq, decide_eq_true_eq, decide_eq_false_iff_not, beq_eq_false_iff_ne, bne_eq_false_iff_eq, Bool.not_eq_true', Bool.not_eq_false', Bool.not_eq_eq_eq_not, Bool.not_true, Bool.not_false, gt_iff_lt, ge_iff_le, Int.not_lt, Int.not_le] at h2)
      refine wl_no rfl rfl rfl (ltn rfl) ?_
      refine wl_no rfl rfl rfl (ltn rfl) ?_
      refine wl_no rfl rfl rfl (ltn rfl) ?_
      refine wl_val (r_pick_f rfl rfl) (ltn rfl) ?_
      refine wl_val (r_assign rfl) (ltn rfl) ?_
      refine wl_nil ?_
      refine wq_seq ?_
      refine wc_cond_f rfl ?_
      refine wc_seq ?_
      refine wc_region ?_
      refine wl_val (r_move rfl) (ltn rfl) ?_
      refine wl_val (r_neq rfl rfl) (ltn rfl) ?_
      refine wl_split rfl (ltn rfl) (fun h23 => ?_) (fun h23 => ?_)
      · (try simp only [beq_iff_eq, bne_iff_ne, ne_eq, decide_eq_true_eq, decide_eq_false_iff_not, beq_eq_false_iff_ne, bne_eq_false_iff_eq, Bool.not_eq_true', Bool.not_eq_false', Bool.not_eq_eq_eq_not, Bool.not_true, Bool.not_false, gt_iff_lt, ge_iff_le, Int.not_lt, Int.not_le] at h23)
        refine wl_yes rfl rfl ?_
        refine wl_val (r_move rfl) (ltn rfl) ?_
        refine wl_yes rfl rfl ?_
        refine wl_val (r_eql rfl rfl) (ltn rfl) ?_
        refine wl_val (r_pick_t rfl rfl) (ltn rfl) ?_
        refine wl_val (r_assign rfl) (ltn rfl) ?_
        refine wl_nil ?_
        refine wq_seq ?_
        refine wc_cond rfl (fun h24 => ?_) (fun h24 => ?_)
        · (try simp only [beq_iff_eq, bne_iff_ne, ne_eq, decide_eq_true_eq, decide_eq_false_iff_not, beq_eq_false_iff_ne, bne_eq_false_iff_eq, Bool.not_eq_true', Bool.not_eq_false', Bool.not_eq_eq_eq_not, Bool.not_true, Bool.not_false, gt_iff_lt, ge_iff_le, Int.not_lt, Int.not_le] at h24)
          
          refine wc_seq ?_
          refine wc_seq ?_
          refine wc_region ?_
          refine wl_val (r_move rfl) (ltn rfl) ?_
          refine wl_val (r_add rfl rfl (by omega)) (ltn rfl) ?_
          refine wl_val (r_move rfl) (ltn rfl) ?_
          refine wl_val (r_len Try.underlying22 rfl) (ltn rfl) ?_
          refine wl_val (r_geq rfl rfl) (ltn rfl) ?_
          refine wl_nil ?_
          refine wq_seq ?_
          refine wc_cond rfl (fun h25 => ?_) (fun h25 => ?_)
          · (try simp only [beq_iff_eq, bne_iff_ne, ne_eq, decide_eq_true_eq, decide_eq_false_iff_not, beq_eq_false_iff_ne, bne_eq_false_iff_eq, Bool.not_eq_true', Bool.not_eq_false', Bool.not_eq_eq_eq_not, Bool.not_true, Bool.not_false, gt_iff_lt, ge_iff_le, Int.not_lt, Int.not_le] at h25)
            
            refine wc_seq ?_
            refine wc_region ?_
            refine wl_val (r_move rfl) (ltn rfl) ?_
            refine wl_val (r_assign rfl) (ltn rfl) ?_
            refine wl_val (r_assign rfl) (ltn rfl) ?_
            refine wl_nil ?_
            refine wq_seq ?_
            refine wc_ret ?_
            refine wq_then_ret ?_
            refine wq_block_ret ?_
            refine wq_then_ret ?_
            refine wq_block_ret ?_
            refine wq_then_ret ?_
            refine wq_block_ret ?_
            refine wq_then_ret ?_
            refine wq_end2 (.inl rfl) Try.results41 rfl rfl ?_
            have e : k + 1 = l.length := by omega
            have hq := rs_kind hrs hkl (by assumption) (by assumption)
            rw [e] at hq
            refine ⟨_, by rw [show openS l = 3 from hq], ?_⟩
            rw [← partS_all, ← e]; exact H3
          · (try simp only [beq_iff_eq, bne_iff_ne, ne_eq, decide_eq_true_eq, decide_eq_false_iff_not, beq_eq_false_iff_ne, bne_eq_false_iff_eq, Bool.not_eq_true', Bool.not_eq_false', Bool.not_eq_eq_eq_not, Bool.not_true, Bool.not_false, gt_iff_lt, ge_iff_le, Int.not_lt, Int.not_le] at h25)
            
            refine wc_skip ?_
            refine wq_seq ?_
            refine wc_seq ?_
            refine wc_region ?_
            refine wl_val (r_move rfl) (ltn rfl) ?_
            refine wl_val (r_as (r_add rfl rfl (by omega)) (show Value.int .i64 ((k : Int) + 1) = .int .i64 ((k + 1 : Nat) : Int) by rw [Int.natCast_add]; rfl)) (ltn rfl) ?_
            refine wl_val (r_assign rfl) (ltn rfl) ?_
            refine wl_nil ?_
            refine wq_seq ?_
            refine wc_region ?_
            refine wl_val (r_move rfl) (ltn rfl) ?_
            refine wl_val (r_move rfl) (ltn rfl) ?_
            refine wl_val (r_index Try.underlying47 Try.sizeOf3 rfl rfl (by omega)) (ltn rfl) ?_
            refine wl_eff0 (e_store_elem H3 Try.sizeOf3 rfl rfl (by first | exact rfl | omega | simp) (by omega)) ?_
            rintro _ w5 H5
            rw [show (partS l (k + 1)).set (((k + 1 : Nat) : Int).toNat * 1) 3 = partS l (k + 1 + 1) from by rw [Nat.mul_one, Int.toNat_natCast, ← rs_kind hrs hkl (by assumption) (by assumption), partS_set (by omega)]] at H5
            refine wl_nil ?_
            refine wq_block_normal ?_
            refine wq_seq ?_
            refine wc_region ?_
            refine wl_val (r_move rfl) (ltn rfl) ?_
            refine wl_val (r_as (r_add rfl rfl (by omega)) ((by first | exact (show Value.int .i64 ((k : Int) + 1) = .int .i64 ((k + 1 : Nat) : Int) from by rw [Int.natCast_add]; rfl) | exact (show Value.int .i64 (((k + 1 : Nat) : Int) + 1) = .int .i64 ((k + 1 + 1 : Nat) : Int) from by rw [Int.natCast_add (k + 1)]; rfl)))) (ltn rfl) ?_
            refine wl_val (r_assign rfl) (ltn rfl) ?_
            refine wl_nil ?_
            refine wq_block_normal ?_
            refine wq_round (_, _, _) (Sub.cons rfl (Sub.cons rfl (Sub.cons rfl (Sub.nil _)))) (Sub.cons rfl (Sub.cons rfl (Sub.nil _))) (by (try dsimp only); exact by first | exact ⟨rs_end hrs hkl (by assumption) (by assumption), H5⟩ | exact ⟨rs_one hrs hkl (by assumption) (by assumption), H5⟩ | exact ⟨rs_two hrs hkl (by assumption) (by omega), H5⟩ | exact ⟨rs_back hrs (by omega) (by assumption) (by assumption), H5⟩ | exact ⟨rs_stay hrs hkl (by omega) (by omega) (by omega), H5⟩) ?_
            · (try dsimp only); omega
        · (try simp only [beq_iff_eq, bne_iff_ne, ne_eq, decide_eq_true_eq, decide_eq_false_iff_not, beq_eq_false_iff_ne, bne_eq_false_iff_eq, Bool.not_eq_true', Bool.not_eq_false', Bool.not_eq_eq_eq_not, Bool.not_true, Bool.not_false, gt_iff_lt, ge_iff_le, Int.not_lt, Int.not_le] at h24)
          
          refine wc_seq ?_
          refine wc_region ?_
          refine wl_val (r_move rfl) (ltn rfl) ?_
          refine wl_val (r_eql rfl rfl) (ltn rfl) ?_
          refine wl_split rfl (ltn rfl) (fun h26 => ?_) (fun h26 => ?_)
          · (try simp only [beq_iff_eq, bne_iff_ne, ne_eq, decide_eq_true_eq, decide_eq_false_iff_not, beq_eq_false_iff_ne, bne_eq_false_iff_eq, Bool.not_eq_true', Bool.not_eq_false', Bool.not_eq_eq_eq_not, Bool.not_true, Bool.not_false, gt_iff_lt, ge_iff_le, Int.not_lt, Int.not_le] at h26)
            refine wl_yes rfl rfl ?_
            refine wl_val (r_move rfl) (ltn rfl) ?_
            refine wl_yes rfl rfl ?_
            refine wl_val (r_eql rfl rfl) (ltn rfl) ?_
            refine wl_val (r_pick_t rfl rfl) (ltn rfl) ?_
            refine wl_val (r_assign rfl) (ltn rfl) ?_
            refine wl_nil ?_
            refine wq_seq ?_
            refine wc_cond rfl (fun h27 => ?_) (fun h27 => ?_)
            · (try simp only [beq_iff_eq, bne_iff_ne, ne_eq, decide_eq_true_eq, decide_eq_false_iff_not, beq_eq_false_iff_ne, bne_eq_false_iff_eq, Bool.not_eq_true', Bool.not_eq_false', Bool.not_eq_eq_eq_not, Bool.not_true, Bool.not_false, gt_iff_lt, ge_iff_le, Int.not_lt, Int.not_le] at h27)
              
              refine wc_seq ?_
              refine wc_region ?_
              refine wl_val (r_assign rfl) (ltn rfl) ?_
              refine wl_nil ?_
              refine wq_seq ?_
              refine wc_region ?_
              refine wl_val (r_move rfl) (ltn rfl) ?_
              refine wl_val (r_assign rfl) (ltn rfl) ?_
              refine wl_nil ?_
              refine wq_block_normal ?_
              refine wq_seq ?_
              refine wc_region ?_
              refine wl_val (r_move rfl) (ltn rfl) ?_
              refine wl_val (r_as (r_add rfl rfl (by omega)) ((by first | exact (show Value.int .i64 ((k : Int) + 1) = .int .i64 ((k + 1 : Nat) : Int) from by rw [Int.natCast_add]; rfl) | exact (show Value.int .i64 (((k + 1 : Nat) : Int) + 1) = .int .i64 ((k + 1 + 1 : Nat) : Int) from by rw [Int.natCast_add (k + 1)]; rfl)))) (ltn rfl) ?_
              refine wl_val (r_assign rfl) (ltn rfl) ?_
              refine wl_nil ?_
              refine wq_block_normal ?_
              refine wq_round (_, _, _) (Sub.cons rfl (Sub.cons rfl (Sub.cons rfl (Sub.nil _)))) (Sub.cons rfl (Sub.cons rfl (Sub.nil _))) (by (try dsimp only); exact by first | exact ⟨rs_end hrs hkl (by assumption) (by assumption), H3⟩ | exact ⟨rs_one hrs hkl (by assumption) (by assumption), H3⟩ | exact ⟨rs_two hrs hkl (by assumption) (by omega), H3⟩ | exact ⟨rs_back hrs (by omega) (by assumption) (by assumption), H3⟩ | exact ⟨rs_stay hrs hkl (by omega) (by omega) (by omega), H3⟩) ?_
              · (try dsimp only); omega
            · (try simp only [beq_iff_eq, bne_iff_ne, ne_eq, decide_eq_true_eq, decide_eq_false_iff_not, beq_eq_false_iff_ne, bne_eq_false_iff_eq, Bool.not_eq_true', Bool.not_eq_false', Bool.not_eq_eq_eq_not, Bool.not_true, Bool.not_false, gt_iff_lt, ge_iff_le, Int.not_lt, Int.not_le] at h27)
              
              refine wc_seq ?_
              refine wc_region ?_
              refine wl_val (r_move rfl) (ltn rfl) ?_
              refine wl_val (r_eql rfl rfl) (ltn rfl) ?_
              refine wl_split rfl (ltn rfl) (fun h28 => ?_) (fun h28 => ?_)
              · (try simp only [beq_iff_eq, bne_iff_ne, ne_eq, decide_eq_true_eq, decide_eq_false_iff_not, beq_eq_false_iff_ne, bne_eq_false_iff_eq, Bool.not_eq_true', Bool.not_eq_false', Bool.not_eq_eq_eq_not, Bool.not_true, Bool.not_false, gt_iff_lt, ge_iff_le, Int.not_lt, Int.not_le] at h28)
                refine wl_yes rfl rfl ?_
                refine wl_val (r_move rfl) (ltn rfl) ?_
                refine wl_yes rfl rfl ?_
                refine wl_val (r_eql rfl rfl) (ltn rfl) ?_
                refine wl_yes rfl rfl ?_
                refine wl_split rfl (ltn rfl) (fun h29 => ?_) (fun h29 => ?_)
                · (try simp only [beq_iff_eq, bne_iff_ne, ne_eq, decide_eq_true_eq, decide_eq_false_iff_not, beq_eq_false_iff_ne, bne_eq_false_iff_eq, Bool.not_eq_true', Bool.not_eq_false', Bool.not_eq_eq_eq_not, Bool.not_true, Bool.not_false, gt_iff_lt, ge_iff_le, Int.not_lt, Int.not_le] at h29)
                  refine wl_no rfl rfl rfl (ltn rfl) ?_
                  refine wl_no rfl rfl rfl (ltn rfl) ?_
                  refine wl_yes rfl rfl ?_
                  refine wl_val (r_pick_t rfl rfl) (ltn rfl) ?_
                  refine wl_val (r_pick_t rfl rfl) (ltn rfl) ?_
                  refine wl_val (r_assign rfl) (ltn rfl) ?_
                  refine wl_nil ?_
                  refine wq_seq ?_
                  refine wc_cond_t rfl ?_
                  refine wc_seq ?_
                  refine wc_region ?_
                  refine wl_val (r_assign rfl) (ltn rfl) ?_
                  refine wl_nil ?_
                  refine wq_seq ?_
                  refine wc_region ?_
                  refine wl_val (r_move rfl) (ltn rfl) ?_
                  refine wl_val (r_assign rfl) (ltn rfl) ?_
                  refine wl_nil ?_
                  refine wq_block_normal ?_
                  refine wq_seq ?_
                  refine wc_region ?_
                  refine wl_val (r_move rfl) (ltn rfl) ?_
                  refine wl_val (r_as (r_add rfl rfl (by omega)) ((by first | exact (show Value.int .i64 ((k : Int) + 1) = .int .i64 ((k + 1 : Nat) : Int) from by rw [Int.natCast_add]; rfl) | exact (show Value.int .i64 (((k + 1 : Nat) : Int) + 1) = .int .i64 ((k + 1 + 1 : Nat) : Int) from by rw [Int.natCast_add (k + 1)]; rfl)))) (ltn rfl) ?_
                  refine wl_val (r_assign rfl) (ltn rfl) ?_
                  refine wl_nil ?_
                  refine wq_block_normal ?_
                  refine wq_round (_, _, _) (Sub.cons rfl (Sub.cons rfl (Sub.cons rfl (Sub.nil _)))) (Sub.cons rfl (Sub.cons rfl (Sub.nil _))) (by (try dsimp only); exact by first | exact ⟨rs_end hrs hkl (by assumption) (by assumption), H3⟩ | exact ⟨rs_one hrs hkl (by assumption) (by assumption), H3⟩ | exact ⟨rs_two hrs hkl (by assumption) (by omega), H3⟩ | exact ⟨rs_back hrs (by omega) (by assumption) (by assumption), H3⟩ | exact ⟨rs_stay hrs hkl (by omega) (by omega) (by omega), H3⟩) ?_
                  · (try dsimp only); omega
                · (try simp only [beq_iff_eq, bne_iff_ne, ne_eq, decide_eq_true_eq, decide_eq_false_iff_not, beq_eq_false_iff_ne, bne_eq_false_iff_eq, Bool.not_eq_true', Bool.not_eq_false', Bool.not_eq_eq_eq_not, Bool.not_true, Bool.not_false, gt_iff_lt, ge_iff_le, Int.not_lt, Int.not_le] at h29)
                  refine wl_yes rfl rfl ?_
                  refine wl_val (r_move rfl) (ltn rfl) ?_
                  refine wl_yes rfl rfl ?_
                  refine wl_val (r_eql rfl rfl) (ltn rfl) ?_
                  refine wl_yes rfl rfl ?_
                  refine wl_val (r_pick_f rfl rfl) (ltn rfl) ?_
                  refine wl_val (r_pick_t rfl rfl) (ltn rfl) ?_
                  refine wl_val (r_assign rfl) (ltn rfl) ?_
                  refine wl_nil ?_
                  refine wq_seq ?_
                  refine wc_cond rfl (fun h30 => ?_) (fun h30 => ?_)
                  · (try simp only [beq_iff_eq, bne_iff_ne, ne_eq, decide_eq_true_eq, decide_eq_false_iff_not, beq_eq_false_iff_ne, bne_eq_false_iff_eq, Bool.not_eq_true', Bool.not_eq_false', Bool.not_eq_eq_eq_not, Bool.not_true, Bool.not_false, gt_iff_lt, ge_iff_le, Int.not_lt, Int.not_le] at h30)
                    
                    refine wc_seq ?_
                    refine wc_region ?_
                    refine wl_val (r_assign rfl) (ltn rfl) ?_
                    refine wl_nil ?_
                    refine wq_seq ?_
                    refine wc_region ?_
                    refine wl_val (r_move rfl) (ltn rfl) ?_
                    refine wl_val (r_assign rfl) (ltn rfl) ?_
                    refine wl_nil ?_
                    refine wq_block_normal ?_
                    refine wq_seq ?_
                    refine wc_region ?_
                    refine wl_val (r_move rfl) (ltn rfl) ?_
                    refine wl_val (r_as (r_add rfl rfl (by omega)) ((by first | exact (show Value.int .i64 ((k : Int) + 1) = .int .i64 ((k + 1 : Nat) : Int) from by rw [Int.natCast_add]; rfl) | exact (show Value.int .i64 (((k + 1 : Nat) : Int) + 1) = .int .i64 ((k + 1 + 1 : Nat) : Int) from by rw [Int.natCast_add (k + 1)]; rfl)))) (ltn rfl) ?_
                    refine wl_val (r_assign rfl) (ltn rfl) ?_
                    refine wl_nil ?_
                    refine wq_block_normal ?_
                    refine wq_round (_, _, _) (Sub.cons rfl (Sub.cons rfl (Sub.cons rfl (Sub.nil _)))) (Sub.cons rfl (Sub.cons rfl (Sub.nil _))) (by (try dsimp only); exact by first | exact ⟨rs_end hrs hkl (by assumption) (by assumption), H3⟩ | exact ⟨rs_one hrs hkl (by assumption) (by assumption), H3⟩ | exact ⟨rs_two hrs hkl (by assumption) (by omega), H3⟩ | exact ⟨rs_back hrs (by omega) (by assumption) (by assumption), H3⟩ | exact ⟨rs_stay hrs hkl (by omega) (by omega) (by omega), H3⟩) ?_
                    · (try dsimp only); omega
                  · (try simp only [beq_iff_eq, bne_iff_ne, ne_eq, decide_eq_true_eq, decide_eq_false_iff_not, beq_eq_false_iff_ne, bne_eq_false_iff_eq, Bool.not_eq_true', Bool.not_eq_false', Bool.not_eq_eq_eq_not, Bool.not_true, Bool.not_false, gt_iff_lt, ge_iff_le, Int.not_lt, Int.not_le] at h30)
                    
                    refine wc_skip ?_
                    refine wq_block_normal ?_
                    refine wq_seq ?_
                    refine wc_region ?_
                    refine wl_val (r_move rfl) (ltn rfl) ?_
                    refine wl_val (r_as (r_add rfl rfl (by omega)) ((by first | exact (show Value.int .i64 ((k : Int) + 1) = .int .i64 ((k + 1 : Nat) : Int) from by rw [Int.natCast_add]; rfl) | exact (show Value.int .i64 (((k + 1 : Nat) : Int) + 1) = .int .i64 ((k + 1 + 1 : Nat) : Int) from by rw [Int.natCast_add (k + 1)]; rfl)))) (ltn rfl) ?_
                    refine wl_val (r_assign rfl) (ltn rfl) ?_
                    refine wl_nil ?_
                    refine wq_block_normal ?_
                    refine wq_round (_, _, _) (Sub.cons rfl (Sub.cons rfl (Sub.cons rfl (Sub.nil _)))) (Sub.cons rfl (Sub.cons rfl (Sub.nil _))) (by (try dsimp only); exact by first | exact ⟨rs_end hrs hkl (by assumption) (by assumption), H3⟩ | exact ⟨rs_one hrs hkl (by assumption) (by assumption), H3⟩ | exact ⟨rs_two hrs hkl (by assumption) (by omega), H3⟩ | exact ⟨rs_back hrs (by omega) (by assumption) (by assumption), H3⟩ | exact ⟨rs_stay hrs hkl (by omega) (by omega) (by omega), H3⟩) ?_
                    · (try dsimp only); omega
              · (try simp only [beq_iff_eq, bne_iff_ne, ne_eq, decide_eq_true_eq, decide_eq_false_iff_not, beq_eq_false_iff_ne, bne_eq_false_iff_eq, Bool.not_eq_true', Bool.not_eq_false', Bool.not_eq_eq_eq_not, Bool.not_true, Bool.not_false, gt_iff_lt, ge_iff_le, Int.not_lt, Int.not_le] at h28)
                refine wl_no rfl rfl rfl (ltn rfl) ?_
                refine wl_no rfl rfl rfl (ltn rfl) ?_
                refine wl_no rfl rfl rfl (ltn rfl) ?_
                refine wl_nou rfl rfl (ltn rfl) ?_
                refine wl_nou rfl rfl (ltn rfl) ?_
                refine wl_no rfl rfl rfl (ltn rfl) ?_
                refine wl_val (r_pick_f rfl rfl) (ltn rfl) ?_
                refine wl_val (r_assign rfl) (ltn rfl) ?_
                refine wl_nil ?_
                refine wq_seq ?_
                refine wc_cond_f rfl ?_
                refine wc_skip ?_
                refine wq_block_normal ?_
                refine wq_seq ?_
                refine wc_region ?_
                refine wl_val (r_move rfl) (ltn rfl) ?_
                refine wl_val (r_as (r_add rfl rfl (by omega)) ((by first | exact (show Value.int .i64 ((k : Int) + 1) = .int .i64 ((k + 1 : Nat) : Int) from by rw [Int.natCast_add]; rfl) | exact (show Value.int .i64 (((k + 1 : Nat) : Int) + 1) = .int .i64 ((k + 1 + 1 : Nat) : Int) from by rw [Int.natCast_add (k + 1)]; rfl)))) (ltn rfl) ?_
                refine wl_val (r_assign rfl) (ltn rfl) ?_
                refine wl_nil ?_
                refine wq_block_normal ?_
                refine wq_round (_, _, _) (Sub.cons rfl (Sub.cons rfl (Sub.cons rfl (Sub.nil _)))) (Sub.cons rfl (Sub.cons rfl (Sub.nil _))) (by (try dsimp only); exact by first | exact ⟨rs_end hrs hkl (by assumption) (by assumption), H3⟩ | exact ⟨rs_one hrs hkl (by assumption) (by assumption), H3⟩ | exact ⟨rs_two hrs hkl (by assumption) (by omega), H3⟩ | exact ⟨rs_back hrs (by omega) (by assumption) (by assumption), H3⟩ | exact ⟨rs_stay hrs hkl (by omega) (by omega) (by omega), H3⟩) ?_
                · (try dsimp only); omega
          · (try simp only [beq_iff_eq, bne_iff_ne, ne_eq, decide_eq_true_eq, decide_eq_false_iff_not, beq_eq_false_iff_ne, bne_eq_false_iff_eq, Bool.not_eq_true', Bool.not_eq_false', Bool.not_eq_eq_eq_not, Bool.not_true, Bool.not_false, gt_iff_lt, ge_iff_le, Int.not_lt, Int.not_le] at h26)
            refine wl_no rfl rfl rfl (ltn rfl) ?_
            refine wl_no rfl rfl rfl (ltn rfl) ?_
            refine wl_val (r_pick_f rfl rfl) (ltn rfl) ?_
            refine wl_val (r_assign rfl) (ltn rfl) ?_
            refine wl_nil ?_
            refine wq_seq ?_
            refine wc_cond_f rfl ?_
            refine wc_seq ?_
            refine wc_region ?_
            refine wl_val (r_move rfl) (ltn rfl) ?_
            refine wl_val (r_eql rfl rfl) (ltn rfl) ?_
            refine wl_split rfl (ltn rfl) (fun h31 => ?_) (fun h31 => ?_)
            · (try simp only [beq_iff_eq, bne_iff_ne, ne_eq, decide_eq_true_eq, decide_eq_false_iff_not, beq_eq_false_iff_ne, bne_eq_false_iff_eq, Bool.not_eq_true', Bool.not_eq_false', Bool.not_eq_eq_eq_not, Bool.not_true, Bool.not_false, gt_iff_lt, ge_iff_le, Int.not_lt, Int.not_le] at h31)
              refine wl_yes rfl rfl ?_
              refine wl_val (r_move rfl) (ltn rfl) ?_
              refine wl_yes rfl rfl ?_
              refine wl_val (r_eql rfl rfl) (ltn rfl) ?_
              refine wl_yes rfl rfl ?_
              refine wl_split rfl (ltn rfl) (fun h32 => ?_) (fun h32 => ?_)
              · (try simp only [beq_iff_eq, bne_iff_ne, ne_eq, decide_eq_true_eq, decide_eq_false_iff_not, beq_eq_false_iff_ne, bne_eq_false_iff_eq, Bool.not_eq_true', Bool.not_eq_false', Bool.not_eq_eq_eq_not, Bool.not_true, Bool.not_false, gt_iff_lt, ge_iff_le, Int.not_lt, Int.not_le] at h32)
                refine wl_no rfl rfl rfl (ltn rfl) ?_
                refine wl_no rfl rfl rfl (ltn rfl) ?_
                refine wl_yes rfl rfl ?_
                refine wl_val (r_pick_t rfl rfl) (ltn rfl) ?_
                refine wl_val (r_pick_t rfl rfl) (ltn rfl) ?_
                refine wl_val (r_assign rfl) (ltn rfl) ?_
                refine wl_nil ?_
                refine wq_seq ?_
                refine wc_cond_t rfl ?_
                refine wc_seq ?_
                refine wc_region ?_
                refine wl_val (r_assign rfl) (ltn rfl) ?_
                refine wl_nil ?_
                refine wq_seq ?_
                refine wc_region ?_
                refine wl_val (r_move rfl) (ltn rfl) ?_
                refine wl_val (r_assign rfl) (ltn rfl) ?_
                refine wl_nil ?_
                refine wq_block_normal ?_
                refine wq_seq ?_
                refine wc_region ?_
                refine wl_val (r_move rfl) (ltn rfl) ?_
                refine wl_val (r_as (r_add rfl rfl (by omega)) ((by first | exact (show Value.int .i64 ((k : Int) + 1) = .int .i64 ((k + 1 : Nat) : Int) from by rw [Int.natCast_add]; rfl) | exact (show Value.int .i64 (((k + 1 : Nat) : Int) + 1) = .int .i64 ((k + 1 + 1 : Nat) : Int) from by rw [Int.natCast_add (k + 1)]; rfl)))) (ltn rfl) ?_
                refine wl_val (r_assign rfl) (ltn rfl) ?_
                refine wl_nil ?_
                refine wq_block_normal ?_
                refine wq_round (_, _, _) (Sub.cons rfl (Sub.cons rfl (Sub.cons rfl (Sub.nil _)))) (Sub.cons rfl (Sub.cons rfl (Sub.nil _))) (by (try dsimp only); exact by first | exact ⟨rs_end hrs hkl (by assumption) (by assumption), H3⟩ | exact ⟨rs_one hrs hkl (by assumption) (by assumption), H3⟩ | exact ⟨rs_two hrs hkl (by assumption) (by omega), H3⟩ | exact ⟨rs_back hrs (by omega) (by assumption) (by assumption), H3⟩ | exact ⟨rs_stay hrs hkl (by omega) (by omega) (by omega), H3⟩) ?_
                · (try dsimp only); omega
              · (try simp only [beq_iff_eq, bne_iff_ne, ne_eq, decide_eq_true_eq, decide_eq_false_iff_not, beq_eq_false_iff_ne, bne_eq_false_iff_eq, Bool.not_eq_true', Bool.not_eq_false', Bool.not_eq_eq_eq_not, Bool.not_true, Bool.not_false, gt_iff_lt, ge_iff_le, Int.not_lt, Int.not_le] at h32)
                refine wl_yes rfl rfl ?_
                refine wl_val (r_move rfl) (ltn rfl) ?_
                refine wl_yes rfl rfl ?_
                refine wl_val (r_eql rfl rfl) (ltn rfl) ?_
                refine wl_yes rfl rfl ?_
                refine wl_val (r_pick_f rfl rfl) (ltn rfl) ?_
                refine wl_val (r_pick_t rfl rfl) (ltn rfl) ?_
                refine wl_val (r_assign rfl) (ltn rfl) ?_
                refine wl_nil ?_
                refine wq_seq ?_
                refine wc_cond rfl (fun h33 => ?_) (fun h33 => ?_)
                · (try simp only [beq_iff_eq, bne_iff_ne, ne_eq, decide_eq_true_eq, decide_eq_false_iff_not, beq_eq_false_iff_ne, bne_eq_false_iff_eq, Bool.not_eq_true', Bool.not_eq_false', Bool.not_eq_eq_eq_not, Bool.not_true, Bool.not_false, gt_iff_lt, ge_iff_le, Int.not_lt, Int.not_le] at h33)
                  
                  refine wc_seq ?_
                  refine wc_region ?_
                  refine wl_val (r_assign rfl) (ltn rfl) ?_
                  refine wl_nil ?_
                  refine wq_seq ?_
                  refine wc_region ?_
                  refine wl_val (r_move rfl) (ltn rfl) ?_
                  refine wl_val (r_assign rfl) (ltn rfl) ?_
                  refine wl_nil ?_
                  refine wq_block_normal ?_
                  refine wq_seq ?_
                  refine wc_region ?_
                  refine wl_val (r_move rfl) (ltn rfl) ?_
                  refine wl_val (r_as (r_add rfl rfl (by omega)) ((by first | exact (show Value.int .i64 ((k : Int) + 1) = .int .i64 ((k + 1 : Nat) : Int) from by rw [Int.natCast_add]; rfl) | exact (show Value.int .i64 (((k + 1 : Nat) : Int) + 1) = .int .i64 ((k + 1 + 1 : Nat) : Int) from by rw [Int.natCast_add (k + 1)]; rfl)))) (ltn rfl) ?_
                  refine wl_val (r_assign rfl) (ltn rfl) ?_
                  refine wl_nil ?_
                  refine wq_block_normal ?_
                  refine wq_round (_, _, _) (Sub.cons rfl (Sub.cons rfl (Sub.cons rfl (Sub.nil _)))) (Sub.cons rfl (Sub.cons rfl (Sub.nil _))) (by (try dsimp only); exact by first | exact ⟨rs_end hrs hkl (by assumption) (by assumption), H3⟩ | exact ⟨rs_one hrs hkl (by assumption) (by assumption), H3⟩ | exact ⟨rs_two hrs hkl (by assumption) (by omega), H3⟩ | exact ⟨rs_back hrs (by omega) (by assumption) (by assumption), H3⟩ | exact ⟨rs_stay hrs hkl (by omega) (by omega) (by omega), H3⟩) ?_
                  · (try dsimp only); omega
                · (try simp only [beq_iff_eq, bne_iff_ne, ne_eq, decide_eq_true_eq, decide_eq_false_iff_not, beq_eq_false_iff_ne, bne_eq_false_iff_eq, Bool.not_eq_true', Bool.not_eq_false', Bool.not_eq_eq_eq_not, Bool.not_true, Bool.not_false, gt_iff_lt, ge_iff_le, Int.not_lt, Int.not_le] at h33)
                  
                  refine wc_skip ?_
                  refine wq_block_normal ?_
                  refine wq_seq ?_
                  refine wc_region ?_
                  refine wl_val (r_move rfl) (ltn rfl) ?_
                  refine wl_val (r_as (r_add rfl rfl (by omega)) ((by first | exact (show Value.int .i64 ((k : Int) + 1) = .int .i64 ((k + 1 : Nat) : Int) from by rw [Int.natCast_add]; rfl) | exact (show Value.int .i64 (((k + 1 : Nat) : Int) + 1) = .int .i64 ((k + 1 + 1 : Nat) : Int) from by rw [Int.natCast_add (k + 1)]; rfl)))) (ltn rfl) ?_
                  refine wl_val (r_assign rfl) (ltn rfl) ?_
                  refine wl_nil ?_
                  refine wq_block_normal ?_
                  refine wq_round (_, _, _) (Sub.cons rfl (Sub.cons rfl (Sub.cons rfl (Sub.nil _)))) (Sub.cons rfl (Sub.cons rfl (Sub.nil _))) (by (try dsimp only); exact by first | exact ⟨rs_end hrs hkl (by assumption) (by assumption), H3⟩ | exact ⟨rs_one hrs hkl (by assumption) (by assumption), H3⟩ | exact ⟨rs_two hrs hkl (by assumption) (by omega), H3⟩ | exact ⟨rs_back hrs (by omega) (by assumption) (by assumption), H3⟩ | exact ⟨rs_stay hrs hkl (by omega) (by omega) (by omega), H3⟩) ?_
                  · (try dsimp only); omega
            · (try simp only [beq_iff_eq, bne_iff_ne, ne_eq, decide_eq_true_eq, decide_eq_false_iff_not, beq_eq_false_iff_ne, bne_eq_false_iff_eq, Bool.not_eq_true', Bool.not_eq_false', Bool.not_eq_eq_eq_not, Bool.not_true, Bool.not_false, gt_iff_lt, ge_iff_le, Int.not_lt, Int.not_le] at h31)
              refine wl_no rfl rfl rfl (ltn rfl) ?_
              refine wl_no rfl rfl rfl (ltn rfl) ?_
              refine wl_no rfl rfl rfl (ltn rfl) ?_
              refine wl_nou rfl rfl (ltn rfl) ?_
              refine wl_nou rfl rfl (ltn rfl) ?_
              refine wl_no rfl rfl rfl (ltn rfl) ?_
              refine wl_val (r_pick_f rfl rfl) (ltn rfl) ?_
              refine wl_val (r_assign rfl) (ltn rfl) ?_
              refine wl_nil ?_
              refine wq_seq ?_
              refine wc_cond_f rfl ?_
              refine wc_skip ?_
              refine wq_block_normal ?_
              refine wq_seq ?_
              refine wc_region ?_
              refine wl_val (r_move rfl) (ltn rfl) ?_
              refine wl_val (r_as (r_add rfl rfl (by omega)) ((by first | exact (show Value.int .i64 ((k : Int) + 1) = .int .i64 ((k + 1 : Nat) : Int) from by rw [Int.natCast_add]; rfl) | exact (show Value.int .i64 (((k + 1 : Nat) : Int) + 1) = .int .i64 ((k + 1 + 1 : Nat) : Int) from by rw [Int.natCast_add (k + 1)]; rfl)))) (ltn rfl) ?_
              refine wl_val (r_assign rfl) (ltn rfl) ?_
              refine wl_nil ?_
              refine wq_block_normal ?_
              refine wq_round (_, _, _) (Sub.cons rfl (Sub.cons rfl (Sub.cons rfl (Sub.nil _)))) (Sub.cons rfl (Sub.cons rfl (Sub.nil _))) (by (try dsimp only); exact by first | exact ⟨rs_end hrs hkl (by assumption) (by assumption), H3⟩ | exact ⟨rs_one hrs hkl (by assumption) (by assumption), H3⟩ | exact ⟨rs_two hrs hkl (by assumption) (by omega), H3⟩ | exact ⟨rs_back hrs (by omega) (by assumption) (by assumption), H3⟩ | exact ⟨rs_stay hrs hkl (by omega) (by omega) (by omega), H3⟩) ?_
              · (try dsimp only); omega
      · (try simp only [beq_iff_eq, bne_iff_ne, ne_eq, decide_eq_true_eq, decide_eq_false_iff_not, beq_eq_false_iff_ne, bne_eq_false_iff_eq, Bool.not_eq_true', Bool.not_eq_false', Bool.not_eq_eq_eq_not, Bool.not_true, Bool.not_false, gt_iff_lt, ge_iff_le, Int.not_lt, Int.not_le] at h23)
        refine wl_no rfl rfl rfl (ltn rfl) ?_
        refine wl_no rfl rfl rfl (ltn rfl) ?_
        refine wl_val (r_pick_f rfl rfl) (ltn rfl) ?_
        refine wl_val (r_assign rfl) (ltn rfl) ?_
        refine wl_nil ?_
        refine wq_seq ?_
        refine wc_cond_f rfl ?_
        refine wc_seq ?_
        refine wc_region ?_
        refine wl_val (r_move rfl) (ltn rfl) ?_
        refine wl_val (r_eql rfl rfl) (ltn rfl) ?_
        refine wl_split rfl (ltn rfl) (fun h34 => ?_) (fun h34 => ?_)
        · (try simp only [beq_iff_eq, bne_iff_ne, ne_eq, decide_eq_true_eq, decide_eq_false_iff_not, beq_eq_false_iff_ne, bne_eq_false_iff_eq, Bool.not_eq_true', Bool.not_eq_false', Bool.not_eq_eq_eq_not, Bool.not_true, Bool.not_false, gt_iff_lt, ge_iff_le, Int.not_lt, Int.not_le] at h34)
          refine wl_yes rfl rfl ?_
          refine wl_val (r_move rfl) (ltn rfl) ?_
          refine wl_yes rfl rfl ?_
          refine wl_val (r_eql rfl rfl) (ltn rfl) ?_
          refine wl_val (r_pick_t rfl rfl) (ltn rfl) ?_
          refine wl_val (r_assign rfl) (ltn rfl) ?_
          refine wl_nil ?_
          refine wq_seq ?_
          refine wc_cond rfl (fun h35 => ?_) (fun h35 => ?_)
          · (try simp only [beq_iff_eq, bne_iff_ne, ne_eq, decide_eq_true_eq, decide_eq_false_iff_not, beq_eq_false_iff_ne, bne_eq_false_iff_eq, Bool.not_eq_true', Bool.not_eq_false', Bool.not_eq_eq_eq_not, Bool.not_true, Bool.not_false, gt_iff_lt, ge_iff_le, Int.not_lt, Int.not_le] at h35)
            
            refine wc_seq ?_
            refine wc_region ?_
            refine wl_val (r_assign rfl) (ltn rfl) ?_
            refine wl_nil ?_
            refine wq_seq ?_
            refine wc_region ?_
            refine wl_val (r_move rfl) (ltn rfl) ?_
            refine wl_val (r_assign rfl) (ltn rfl) ?_
            refine wl_nil ?_
            refine wq_block_normal ?_
            refine wq_seq ?_
            refine wc_region ?_
            refine wl_val (r_move rfl) (ltn rfl) ?_
            refine wl_val (r_as (r_add rfl rfl (by omega)) ((by first | exact (show Value.int .i64 ((k : Int) + 1) = .int .i64 ((k + 1 : Nat) : Int) from by rw [Int.natCast_add]; rfl) | exact (show Value.int .i64 (((k + 1 : Nat) : Int) + 1) = .int .i64 ((k + 1 + 1 : Nat) : Int) from by rw [Int.natCast_add (k + 1)]; rfl)))) (ltn rfl) ?_
            refine wl_val (r_assign rfl) (ltn rfl) ?_
            refine wl_nil ?_
            refine wq_block_normal ?_
            refine wq_round (_, _, _) (Sub.cons rfl (Sub.cons rfl (Sub.cons rfl (Sub.nil _)))) (Sub.cons rfl (Sub.cons rfl (Sub.nil _))) (by (try dsimp only); exact by first | exact ⟨rs_end hrs hkl (by assumption) (by assumption), H3⟩ | exact ⟨rs_one hrs hkl (by assumption) (by assumption), H3⟩ | exact ⟨rs_two hrs hkl (by assumption) (by omega), H3⟩ | exact ⟨rs_back hrs (by omega) (by assumption) (by assumption), H3⟩ | exact ⟨rs_stay hrs hkl (by omega) (by omega) (by omega), H3⟩) ?_
            · (try dsimp only); omega
          · (try simp only [beq_iff_eq, bne_iff_ne, ne_eq, decide_eq_true_eq, decide_eq_false_iff_not, beq_eq_false_iff_ne, bne_eq_false_iff_eq, Bool.not_eq_true', Bool.not_eq_false', Bool.not_eq_eq_eq_not, Bool.not_true, Bool.not_false, gt_iff_lt, ge_iff_le, Int.not_lt, Int.not_le] at h35)
            
            refine wc_seq ?_
            refine wc_region ?_
            refine wl_val (r_move rfl) (ltn rfl) ?_
            refine wl_val (r_eql rfl rfl) (ltn rfl) ?_
            refine wl_split rfl (ltn rfl) (fun h36 => ?_) (fun h36 => ?_)
            · (try simp only [beq_iff_eq, bne_iff_ne, ne_eq, decide_eq_true_eq, decide_eq_false_iff_not, beq_eq_false_iff_ne, bne_eq_false_iff_eq, Bool.not_eq_true', Bool.not_eq_false', Bool.not_eq_eq_eq_not, Bool.not_true, Bool.not_false, gt_iff_lt, ge_iff_le, Int.not_lt, Int.not_le] at h36)
              refine wl_yes rfl rfl ?_
              refine wl_val (r_move rfl) (ltn rfl) ?_
              refine wl_yes rfl rfl ?_
              refine wl_val (r_eql rfl rfl) (ltn rfl) ?_
              refine wl_yes rfl rfl ?_
              refine wl_split rfl (ltn rfl) (fun h37 => ?_) (fun h37 => ?_)
              · (try simp only [beq_iff_eq, bne_iff_ne, ne_eq, decide_eq_true_eq, decide_eq_false_iff_not, beq_eq_false_iff_ne, bne_eq_false_iff_eq, Bool.not_eq_true', Bool.not_eq_false', Bool.not_eq_eq_eq_not, Bool.not_true, Bool.not_false, gt_iff_lt, ge_iff_le, Int.not_lt, Int.not_le] at h37)
                refine wl_no rfl rfl rfl (ltn rfl) ?_
                refine wl_no rfl rfl rfl (ltn rfl) ?_
                refine wl_yes rfl rfl ?_
                refine wl_val (r_pick_t rfl rfl) (ltn rfl) ?_
                refine wl_val (r_pick_t rfl rfl) (ltn rfl) ?_
                refine wl_val (r_assign rfl) (ltn rfl) ?_
                refine wl_nil ?_
                refine wq_seq ?_
                refine wc_cond_t rfl ?_
                refine wc_seq ?_
                refine wc_region ?_
                refine wl_val (r_assign rfl) (ltn rfl) ?_
                refine wl_nil ?_
                refine wq_seq ?_
                refine wc_region ?_
                refine wl_val (r_move rfl) (ltn rfl) ?_
                refine wl_val (r_assign rfl) (ltn rfl) ?_
                refine wl_nil ?_
                refine wq_block_normal ?_
                refine wq_seq ?_
                refine wc_region ?_
                refine wl_val (r_move rfl) (ltn rfl) ?_
                refine wl_val (r_as (r_add rfl rfl (by omega)) ((by first | exact (show Value.int .i64 ((k : Int) + 1) = .int .i64 ((k + 1 : Nat) : Int) from by rw [Int.natCast_add]; rfl) | exact (show Value.int .i64 (((k + 1 : Nat) : Int) + 1) = .int .i64 ((k + 1 + 1 : Nat) : Int) from by rw [Int.natCast_add (k + 1)]; rfl)))) (ltn rfl) ?_
                refine wl_val (r_assign rfl) (ltn rfl) ?_
                refine wl_nil ?_
                refine wq_block_normal ?_
                refine wq_round (_, _, _) (Sub.cons rfl (Sub.cons rfl (Sub.cons rfl (Sub.nil _)))) (Sub.cons rfl (Sub.cons rfl (Sub.nil _))) (by (try dsimp only); exact by first | exact ⟨rs_end hrs hkl (by assumption) (by assumption), H3⟩ | exact ⟨rs_one hrs hkl (by assumption) (by assumption), H3⟩ | exact ⟨rs_two hrs hkl (by assumption) (by omega), H3⟩ | exact ⟨rs_back hrs (by omega) (by assumption) (by assumption), H3⟩ | exact ⟨rs_stay hrs hkl (by omega) (by omega) (by omega), H3⟩) ?_
                · (try dsimp only); omega
              · (try simp only [beq_iff_eq, bne_iff_ne, ne_eq, decide_eq_true_eq, decide_eq_false_iff_not, beq_eq_false_iff_ne, bne_eq_false_iff_eq, Bool.not_eq_true', Bool.not_eq_false', Bool.not_eq_eq_eq_not, Bool.not_true, Bool.not_false, gt_iff_lt, ge_iff_le, Int.not_lt, Int.not_le] at h37)
                refine wl_yes rfl rfl ?_
                refine wl_val (r_move rfl) (ltn rfl) ?_
                refine wl_yes rfl rfl ?_
                refine wl_val (r_eql rfl rfl) (ltn rfl) ?_
                refine wl_yes rfl rfl ?_
                refine wl_val (r_pick_f rfl rfl) (ltn rfl) ?_
                refine wl_val (r_pick_t rfl rfl) (ltn rfl) ?_
                refine wl_val (r_assign rfl) (ltn rfl) ?_
                refine wl_nil ?_
                refine wq_seq ?_
                refine wc_cond rfl (fun h38 => ?_) (fun h38 => ?_)
                · (try simp only [beq_iff_eq, bne_iff_ne, ne_eq, decide_eq_true_eq, decide_eq_false_iff_not, beq_eq_false_iff_ne, bne_eq_false_iff_eq, Bool.not_eq_true', Bool.not_eq_false', Bool.not_eq_eq_eq_not, Bool.not_true, Bool.not_false, gt_iff_lt, ge_iff_le, Int.not_lt, Int.not_le] at h38)
                  
                  refine wc_seq ?_
                  refine wc_region ?_
                  refine wl_val (r_assign rfl) (ltn rfl) ?_
                  refine wl_nil ?_
                  refine wq_seq ?_
                  refine wc_region ?_
                  refine wl_val (r_move rfl) (ltn rfl) ?_
                  refine wl_val (r_assign rfl) (ltn rfl) ?_
                  refine wl_nil ?_
                  refine wq_block_normal ?_
                  refine wq_seq ?_
                  refine wc_region ?_
                  refine wl_val (r_move rfl) (ltn rfl) ?_
                  refine wl_val (r_as (r_add rfl rfl (by omega)) ((by first | exact (show Value.int .i64 ((k : Int) + 1) = .int .i64 ((k + 1 : Nat) : Int) from by rw [Int.natCast_add]; rfl) | exact (show Value.int .i64 (((k + 1 : Nat) : Int) + 1) = .int .i64 ((k + 1 + 1 : Nat) : Int) from by rw [Int.natCast_add (k + 1)]; rfl)))) (ltn rfl) ?_
                  refine wl_val (r_assign rfl) (ltn rfl) ?_
                  refine wl_nil ?_
                  refine wq_block_normal ?_
                  refine wq_round (_, _, _) (Sub.cons rfl (Sub.cons rfl (Sub.cons rfl (Sub.nil _)))) (Sub.cons rfl (Sub.cons rfl (Sub.nil _))) (by (try dsimp only); exact by first | exact ⟨rs_end hrs hkl (by assumption) (by assumption), H3⟩ | exact ⟨rs_one hrs hkl (by assumption) (by assumption), H3⟩ | exact ⟨rs_two hrs hkl (by assumption) (by omega), H3⟩ | exact ⟨rs_back hrs (by omega) (by assumption) (by assumption), H3⟩ | exact ⟨rs_stay hrs hkl (by omega) (by omega) (by omega), H3⟩) ?_
                  · (try dsimp only); omega
                · (try simp only [beq_iff_eq, bne_iff_ne, ne_eq, decide_eq_true_eq, decide_eq_false_iff_not, beq_eq_false_iff_ne, bne_eq_false_iff_eq, Bool.not_eq_true', Bool.not_eq_false', Bool.not_eq_eq_eq_not, Bool.not_true, Bool.not_false, gt_iff_lt, ge_iff_le, Int.not_lt, Int.not_le] at h38)
                  
                  refine wc_skip ?_
                  refine wq_block_normal ?_
                  refine wq_seq ?_
                  refine wc_region ?_
                  refine wl_val (r_move rfl) (ltn rfl) ?_
                  refine wl_val (r_as (r_add rfl rfl (by omega)) ((by first | exact (show Value.int .i64 ((k : Int) + 1) = .int .i64 ((k + 1 : Nat) : Int) from by rw [Int.natCast_add]; rfl) | exact (show Value.int .i64 (((k + 1 : Nat) : Int) + 1) = .int .i64 ((k + 1 + 1 : Nat) : Int) from by rw [Int.natCast_add (k + 1)]; rfl)))) (ltn rfl) ?_
                  refine wl_val (r_assign rfl) (ltn rfl) ?_
                  refine wl_nil ?_
                  refine wq_block_normal ?_
                  refine wq_round (_, _, _) (Sub.cons rfl (Sub.cons rfl (Sub.cons rfl (Sub.nil _)))) (Sub.cons rfl (Sub.cons rfl (Sub.nil _))) (by (try dsimp only); exact by first | exact ⟨rs_end hrs hkl (by assumption) (by assumption), H3⟩ | exact ⟨rs_one hrs hkl (by assumption) (by assumption), H3⟩ | exact ⟨rs_two hrs hkl (by assumption) (by omega), H3⟩ | exact ⟨rs_back hrs (by omega) (by assumption) (by assumption), H3⟩ | exact ⟨rs_stay hrs hkl (by omega) (by omega) (by omega), H3⟩) ?_
                  · (try dsimp only); omega
            · (try simp only [beq_iff_eq, bne_iff_ne, ne_eq, decide_eq_true_eq, decide_eq_false_iff_not, beq_eq_false_iff_ne, bne_eq_false_iff_eq, Bool.not_eq_true', Bool.not_eq_false', Bool.not_eq_eq_eq_not, Bool.not_true, Bool.not_false, gt_iff_lt, ge_iff_le, Int.not_lt, Int.not_le] at h36)
              refine wl_no rfl rfl rfl (ltn rfl) ?_
              refine wl_no rfl rfl rfl (ltn rfl) ?_
              refine wl_no rfl rfl rfl (ltn rfl) ?_
              refine wl_nou rfl rfl (ltn rfl) ?_
              refine wl_nou rfl rfl (ltn rfl) ?_
              refine wl_no rfl rfl rfl (ltn rfl) ?_
              refine wl_val (r_pick_f rfl rfl) (ltn rfl) ?_
              refine wl_val (r_assign rfl) (ltn rfl) ?_
              refine wl_nil ?_
              refine wq_seq ?_
              refine wc_cond_f rfl ?_
              refine wc_skip ?_
              refine wq_block_normal ?_
              refine wq_seq ?_
              refine wc_region ?_
              refine wl_val (r_move rfl) (ltn rfl) ?_
              refine wl_val (r_as (r_add rfl rfl (by omega)) ((by first | exact (show Value.int .i64 ((k : Int) + 1) = .int .i64 ((k + 1 : Nat) : Int) from by rw [Int.natCast_add]; rfl) | exact (show Value.int .i64 (((k + 1 : Nat) : Int) + 1) = .int .i64 ((k + 1 + 1 : Nat) : Int) from by rw [Int.natCast_add (k + 1)]; rfl)))) (ltn rfl) ?_
              refine wl_val (r_assign rfl) (ltn rfl) ?_
              refine wl_nil ?_
              refine wq_block_normal ?_
              refine wq_round (_, _, _) (Sub.cons rfl (Sub.cons rfl (Sub.cons rfl (Sub.nil _)))) (Sub.cons rfl (Sub.cons rfl (Sub.nil _))) (by (try dsimp only); exact by first | exact ⟨rs_end hrs hkl (by assumption) (by assumption), H3⟩ | exact ⟨rs_one hrs hkl (by assumption) (by assumption), H3⟩ | exact ⟨rs_two hrs hkl (by assumption) (by omega), H3⟩ | exact ⟨rs_back hrs (by omega) (by assumption) (by assumption), H3⟩ | exact ⟨rs_stay hrs hkl (by omega) (by omega) (by omega), H3⟩) ?_
              · (try dsimp only); omega
        · (try simp only [beq_iff_eq, bne_iff_ne, ne_eq, decide_eq_true_eq, decide_eq_false_iff_not, beq_eq_false_iff_ne, bne_eq_false_iff_eq, Bool.not_eq_true', Bool.not_eq_false', Bool.not_eq_eq_eq_not, Bool.not_true, Bool.not_false, gt_iff_lt, ge_iff_le, Int.not_lt, Int.not_le] at h34)
          refine wl_no rfl rfl rfl (ltn rfl) ?_
          refine wl_no rfl rfl rfl (ltn rfl) ?_
          refine wl_val (r_pick_f rfl rfl) (ltn rfl) ?_
          refine wl_val (r_assign rfl) (ltn rfl) ?_
          refine wl_nil ?_
          refine wq_seq ?_
          refine wc_cond_f rfl ?_
          refine wc_seq ?_
          refine wc_region ?_
          refine wl_val (r_move rfl) (ltn rfl) ?_
          refine wl_val (r_eql rfl rfl) (ltn rfl) ?_
          refine wl_split rfl (ltn rfl) (fun h39 => ?_) (fun h39 => ?_)
          · (try simp only [beq_iff_eq, bne_iff_ne, ne_eq, decide_eq_true_eq, decide_eq_false_iff_not, beq_eq_false_iff_ne, bne_eq_false_iff_eq, Bool.not_eq_true', Bool.not_eq_false', Bool.not_eq_eq_eq_not, Bool.not_true, Bool.not_false, gt_iff_lt, ge_iff_le, Int.not_lt, Int.not_le] at h39)
            refine wl_yes rfl rfl ?_
            refine wl_val (r_move rfl) (ltn rfl) ?_
            refine wl_yes rfl rfl ?_
            refine wl_val (r_eql rfl rfl) (ltn rfl) ?_
            refine wl_yes rfl rfl ?_
            refine wl_split rfl (ltn rfl) (fun h40 => ?_) (fun h40 => ?_)
            · (try simp only [beq_iff_eq, bne_iff_ne, ne_eq, decide_eq_true_eq, decide_eq_false_iff_not, beq_eq_false_iff_ne, bne_eq_false_iff_eq, Bool.not_eq_true', Bool.not_eq_false', Bool.not_eq_eq_eq_not, Bool.not_true, Bool.not_false, gt_iff_lt, ge_iff_le, Int.not_lt, Int.not_le] at h40)
              refine wl_no rfl rfl rfl (ltn rfl) ?_
              refine wl_no rfl rfl rfl (ltn rfl) ?_
              refine wl_yes rfl rfl ?_
              refine wl_val (r_pick_t rfl rfl) (ltn rfl) ?_
              refine wl_val (r_pick_t rfl rfl) (ltn rfl) ?_
              refine wl_val (r_assign rfl) (ltn rfl) ?_
              refine wl_nil ?_
              refine wq_seq ?_
              refine wc_cond_t rfl ?_
              refine wc_seq ?_
              refine wc_region ?_
              refine wl_val (r_assign rfl) (ltn rfl) ?_
              refine wl_nil ?_
              refine wq_seq ?_
              refine wc_region ?_
              refine wl_val (r_move rfl) (ltn rfl) ?_
              refine wl_val (r_assign rfl) (ltn rfl) ?_
              refine wl_nil ?_
              refine wq_block_normal ?_
              refine wq_seq ?_
              refine wc_region ?_
              refine wl_val (r_move rfl) (ltn rfl) ?_
              refine wl_val (r_as (r_add rfl rfl (by omega)) ((by first | exact (show Value.int .i64 ((k : Int) + 1) = .int .i64 ((k + 1 : Nat) : Int) from by rw [Int.natCast_add]; rfl) | exact (show Value.int .i64 (((k + 1 : Nat) : Int) + 1) = .int .i64 ((k + 1 + 1 : Nat) : Int) from by rw [Int.natCast_add (k + 1)]; rfl)))) (ltn rfl) ?_
              refine wl_val (r_assign rfl) (ltn rfl) ?_
              refine wl_nil ?_
              refine wq_block_normal ?_
              refine wq_round (_, _, _) (Sub.cons rfl (Sub.cons rfl (Sub.cons rfl (Sub.nil _)))) (Sub.cons rfl (Sub.cons rfl (Sub.nil _))) (by (try dsimp only); exact by first | exact ⟨rs_end hrs hkl (by assumption) (by assumption), H3⟩ | exact ⟨rs_one hrs hkl (by assumption) (by assumption), H3⟩ | exact ⟨rs_two hrs hkl (by assumption) (by omega), H3⟩ | exact ⟨rs_back hrs (by omega) (by assumption) (by assumption), H3⟩ | exact ⟨rs_stay hrs hkl (by omega) (by omega) (by omega), H3⟩) ?_
              · (try dsimp only); omega
            · (try simp only [beq_iff_eq, bne_iff_ne, ne_eq, decide_eq_true_eq, decide_eq_false_iff_not, beq_eq_false_iff_ne, bne_eq_false_iff_eq, Bool.not_eq_true', Bool.not_eq_false', Bool.not_eq_eq_eq_not, Bool.not_true, Bool.not_false, gt_iff_lt, ge_iff_le, Int.not_lt, Int.not_le] at h40)
              refine wl_yes rfl rfl ?_
              refine wl_val (r_move rfl) (ltn rfl) ?_
              refine wl_yes rfl rfl ?_
              refine wl_val (r_eql rfl rfl) (ltn rfl) ?_
              refine wl_yes rfl rfl ?_
              refine wl_val (r_pick_f rfl rfl) (ltn rfl) ?_
              refine wl_val (r_pick_t rfl rfl) (ltn rfl) ?_
              refine wl_val (r_assign rfl) (ltn rfl) ?_
              refine wl_nil ?_
              refine wq_seq ?_
              refine wc_cond rfl (fun h41 => ?_) (fun h41 => ?_)
              · (try simp only [beq_iff_eq, bne_iff_ne, ne_eq, decide_eq_true_eq, decide_eq_false_iff_not, beq_eq_false_iff_ne, bne_eq_false_iff_eq, Bool.not_eq_true', Bool.not_eq_false', Bool.not_eq_eq_eq_not, Bool.not_true, Bool.not_false, gt_iff_lt, ge_iff_le, Int.not_lt, Int.not_le] at h41)
                
                refine wc_seq ?_
                refine wc_region ?_
                refine wl_val (r_assign rfl) (ltn rfl) ?_
                refine wl_nil ?_
                refine wq_seq ?_
                refine wc_region ?_
                refine wl_val (r_move rfl) (ltn rfl) ?_
                refine wl_val (r_assign rfl) (ltn rfl) ?_
                refine wl_nil ?_
                refine wq_block_normal ?_
                refine wq_seq ?_
                refine wc_region ?_
                refine wl_val (r_move rfl) (ltn rfl) ?_
                refine wl_val (r_as (r_add rfl rfl (by omega)) ((by first | exact (show Value.int .i64 ((k : Int) + 1) = .int .i64 ((k + 1 : Nat) : Int) from by rw [Int.natCast_add]; rfl) | exact (show Value.int .i64 (((k + 1 : Nat) : Int) + 1) = .int .i64 ((k + 1 + 1 : Nat) : Int) from by rw [Int.natCast_add (k + 1)]; rfl)))) (ltn rfl) ?_
                refine wl_val (r_assign rfl) (ltn rfl) ?_
                refine wl_nil ?_
                refine wq_block_normal ?_
                refine wq_round (_, _, _) (Sub.cons rfl (Sub.cons rfl (Sub.cons rfl (Sub.nil _)))) (Sub.cons rfl (Sub.cons rfl (Sub.nil _))) (by (try dsimp only); exact by first | exact ⟨rs_end hrs hkl (by assumption) (by assumption), H3⟩ | exact ⟨rs_one hrs hkl (by assumption) (by assumption), H3⟩ | exact ⟨rs_two hrs hkl (by assumption) (by omega), H3⟩ | exact ⟨rs_back hrs (by omega) (by assumption) (by assumption), H3⟩ | exact ⟨rs_stay hrs hkl (by omega) (by omega) (by omega), H3⟩) ?_
                · (try dsimp only); omega
              · (try simp only [beq_iff_eq, bne_iff_ne, ne_eq, decide_eq_true_eq, decide_eq_false_iff_not, beq_eq_false_iff_ne, bne_eq_false_iff_eq, Bool.not_eq_true', Bool.not_eq_false', Bool.not_eq_eq_eq_not, Bool.not_true, Bool.not_false, gt_iff_lt, ge_iff_le, Int.not_lt, Int.not_le] at h41)
                
                refine wc_skip ?_
                refine wq_block_normal ?_
                refine wq_seq ?_
                refine wc_region ?_
                refine wl_val (r_move rfl) (ltn rfl) ?_
                refine wl_val (r_as (r_add rfl rfl (by omega)) ((by first | exact (show Value.int .i64 ((k : Int) + 1) = .int .i64 ((k + 1 : Nat) : Int) from by rw [Int.natCast_add]; rfl) | exact (show Value.int .i64 (((k + 1 : Nat) : Int) + 1) = .int .i64 ((k + 1 + 1 : Nat) : Int) from by rw [Int.natCast_add (k + 1)]; rfl)))) (ltn rfl) ?_
                refine wl_val (r_assign rfl) (ltn rfl) ?_
                refine wl_nil ?_
                refine wq_block_normal ?_
                refine wq_round (_, _, _) (Sub.cons rfl (Sub.cons rfl (Sub.cons rfl (Sub.nil _)))) (Sub.cons rfl (Sub.cons rfl (Sub.nil _))) (by (try dsimp only); exact by first | exact ⟨rs_end hrs hkl (by assumption) (by assumption), H3⟩ | exact ⟨rs_one hrs hkl (by assumption) (by assumption), H3⟩ | exact ⟨rs_two hrs hkl (by assumption) (by omega), H3⟩ | exact ⟨rs_back hrs (by omega) (by assumption) (by assumption), H3⟩ | exact ⟨rs_stay hrs hkl (by omega) (by omega) (by omega), H3⟩) ?_
                · (try dsimp only); omega
          · (try simp only [beq_iff_eq, bne_iff_ne, ne_eq, decide_eq_true_eq, decide_eq_false_iff_not, beq_eq_false_iff_ne, bne_eq_false_iff_eq, Bool.not_eq_true', Bool.not_eq_false', Bool.not_eq_eq_eq_not, Bool.not_true, Bool.not_false, gt_iff_lt, ge_iff_le, Int.not_lt, Int.not_le] at h39)
            refine wl_no rfl rfl rfl (ltn rfl) ?_
            refine wl_no rfl rfl rfl (ltn rfl) ?_
            refine wl_no rfl rfl rfl (ltn rfl) ?_
            refine wl_nou rfl rfl (ltn rfl) ?_
            refine wl_nou rfl rfl (ltn rfl) ?_
            refine wl_no rfl rfl rfl (ltn rfl) ?_
            refine wl_val (r_pick_f rfl rfl) (ltn rfl) ?_
            refine wl_val (r_assign rfl) (ltn rfl) ?_
            refine wl_nil ?_
            refine wq_seq ?_
            refine wc_cond_f rfl ?_
            refine wc_skip ?_
            refine wq_block_normal ?_
            refine wq_seq ?_
            refine wc_region ?_
            refine wl_val (r_move rfl) (ltn rfl) ?_
            refine wl_val (r_as (r_add rfl rfl (by omega)) ((by first | exact (show Value.int .i64 ((k : Int) + 1) = .int .i64 ((k + 1 : Nat) : Int) from by rw [Int.natCast_add]; rfl) | exact (show Value.int .i64 (((k + 1 : Nat) : Int) + 1) = .int .i64 ((k + 1 + 1 : Nat) : Int) from by rw [Int.natCast_add (k + 1)]; rfl)))) (ltn rfl) ?_
            refine wl_val (r_assign rfl) (ltn rfl) ?_
            refine wl_nil ?_
            refine wq_block_normal ?_
            refine wq_round (_, _, _) (Sub.cons rfl (Sub.cons rfl (Sub.cons rfl (Sub.nil _)))) (Sub.cons rfl (Sub.cons rfl (Sub.nil _))) (by (try dsimp only); exact by first | exact ⟨rs_end hrs hkl (by assumption) (by assumption), H3⟩ | exact ⟨rs_one hrs hkl (by assumption) (by assumption), H3⟩ | exact ⟨rs_two hrs hkl (by assumption) (by omega), H3⟩ | exact ⟨rs_back hrs (by omega) (by assumption) (by assumption), H3⟩ | exact ⟨rs_stay hrs hkl (by omega) (by omega) (by omega), H3⟩) ?_
            · (try dsimp only); omega
  · (try simp only [beq_iff_eq, bne_iff_ne, ne_eq, decide_eq_true_eq, decide_eq_false_iff_not, beq_eq_false_iff_ne, bne_eq_false_iff_eq, Bool.not_eq_true', Bool.not_eq_false', Bool.not_eq_eq_eq_not, Bool.not_true, Bool.not_false, gt_iff_lt, ge_iff_le, Int.not_lt, Int.not_le] at h1)
    
    refine wc_exit ?_
    refine wq_then_exit ?_
    refine wq_then_exit ?_
    refine wq_block_hit ?_
    refine wq_seq ?_
    refine wc_seq ?_
    refine wc_region ?_
    refine wl_val (r_move rfl) (ltn rfl) ?_
    refine wl_val (r_move rfl) (ltn rfl) ?_
    refine wl_val (r_assign rfl) (ltn rfl) ?_
    refine wl_val (r_assign rfl) (ltn rfl) ?_
    refine wl_nil ?_
    refine wq_seq ?_
    refine wc_ret ?_
    refine wq_end2 (.inl rfl) Try.results41 rfl rfl ?_
    have hle := hrs.le
    obtain rfl : k = l.length := by omega
    refine ⟨_, by rw [show openS l = sv from hrs.kind.symm], ?_⟩
    rw [← partS_all]; exact HL
theorem ref_quoted_ret (H : Holds w0 w F) (hv : FRdI w0 F .i32 v l) (hL : l.length ≤ 4294967296) : Ret Try.prog 20 #[v, .int .i64 at_] w fun v' w' => v' = .int .i64 (quotedS l at_) ∧ Holds w0 w' F := by
  have hsl := statesS_len l
  refine ret_enter Try.func20 rfl Try.ntmps20 (Nat.le_of_ble_eq_true rfl) ?_
  dsimp only [slots0, Nat.reduceAdd]
  refine wc_seq ?_
  refine wc_region ?_
  refine wl_val (r_assign rfl) (ltn rfl) ?_
  refine wl_nil ?_
  refine wq_seq ?_
  refine wc_seq ?_
  refine wc_seq ?_
  refine wc_region ?_
  refine wl_val (r_move rfl) (ltn rfl) ?_
  refine wl_val (r_lss rfl rfl) (ltn rfl) ?_
  refine wl_split rfl (ltn rfl) (fun h1 => ?_) (fun h1 => ?_)
  · (try simp only [beq_iff_eq, bne_iff_ne, ne_eq, decide_eq_true_eq, decide_eq_false_iff_not, beq_eq_false_iff_ne, bne_eq_false_iff_eq, Bool.not_eq_true', Bool.not_eq_false', Bool.not_eq_eq_eq_not, Bool.not_true, Bool.not_false, gt_iff_lt, ge_iff_le, Int.not_lt, Int.not_le] at h1)
    refine wl_no rfl rfl rfl (ltn rfl) ?_
    refine wl_no rfl rfl rfl (ltn rfl) ?_
    refine wl_no rfl rfl rfl (ltn rfl) ?_
    refine wl_no rfl rfl rfl (ltn rfl) ?_
    refine wl_val (r_pick_t rfl rfl) (ltn rfl) ?_
    refine wl_nil ?_
    refine wq_seq ?_
    refine wc_cond_t rfl ?_
    refine wc_seq ?_
    refine wc_region ?_
    refine wl_val (r_assign rfl) (ltn rfl) ?_
    refine wl_nil ?_
    refine wq_seq ?_
    refine wc_ret ?_
    refine wq_then_ret ?_
    refine wq_end1 (.inl rfl) Try.results20 rfl ?_
    refine ⟨?_, H⟩; unfold quotedS; rw [if_neg (by omega)]
  · (try simp only [beq_iff_eq, bne_iff_ne, ne_eq, decide_eq_true_eq, decide_eq_false_iff_not, beq_eq_false_iff_ne, bne_eq_false_iff_eq, Bool.not_eq_true', Bool.not_eq_false', Bool.not_eq_eq_eq_not, Bool.not_true, Bool.not_false, gt_iff_lt, ge_iff_le, Int.not_lt, Int.not_le] at h1)
    refine wl_yes rfl rfl ?_
    refine wl_val (r_move rfl) (ltn rfl) ?_
    refine wl_yes rfl rfl ?_
    refine wl_val (r_move rfl) (ltn rfl) ?_
    refine wl_yes rfl rfl ?_
    refine wl_val (r_lenR (hv _ (H)) Try.underlying22 rfl) (ltn rfl) ?_
    refine wl_yes rfl rfl ?_
    refine wl_val (r_geq rfl rfl) (ltn rfl) ?_
    refine wl_val (r_pick_f rfl rfl) (ltn rfl) ?_
    refine wl_nil ?_
    refine wq_seq ?_
    refine wc_cond rfl (fun h2 => ?_) (fun h2 => ?_)
    · (try simp only [beq_iff_eq, bne_iff_ne, ne_eq, decide_eq_true_eq, decide_eq_false_iff_not, beq_eq_false_iff_ne, bne_eq_false_iff_eq, Bool.not_eq_true', Bool.not_eq_false', Bool.not_eq_eq_eq_not, Bool.not_true, Bool.not_false, gt_iff_lt, ge_iff_le, Int.not_lt, Int.not_le] at h2)
      
      refine wc_seq ?_
      refine wc_region ?_
      refine wl_val (r_assign rfl) (ltn rfl) ?_
      refine wl_nil ?_
      refine wq_seq ?_
      refine wc_ret ?_
      refine wq_then_ret ?_
      refine wq_end1 (.inl rfl) Try.results20 rfl ?_
      refine ⟨?_, H⟩; unfold quotedS; rw [if_neg (by omega)]
    · (try simp only [beq_iff_eq, bne_iff_ne, ne_eq, decide_eq_true_eq, decide_eq_false_iff_not, beq_eq_false_iff_ne, bne_eq_false_iff_eq, Bool.not_eq_true', Bool.not_eq_false', Bool.not_eq_eq_eq_not, Bool.not_true, Bool.not_false, gt_iff_lt, ge_iff_le, Int.not_lt, Int.not_le] at h2)
      
      refine wc_skip ?_
      refine wq_seq ?_
      refine wc_seq ?_
      refine wc_region ?_
      refine wl_val (r_move rfl) (ltn rfl) ?_
      refine wl_eff (e_call (r_call rfl Try.func41 rfl rfl) (ref_states_ret H (fun W HW => hv _ (HW)) (by omega))) (ltn rfl) ?_
      rintro _ w1 ⟨u1, rfl, H1⟩
      refine wl_val (r_move rfl) (ltn rfl) ?_
      refine wl_val (r_extract rfl rfl) (ltn rfl) ?_
      refine wl_val (r_extract rfl rfl) (ltn rfl) ?_
      refine wl_val (r_assign rfl) (ltn rfl) ?_
      refine wl_val (r_assign rfl) (ltn rfl) ?_
      refine wl_nil ?_
      refine wq_seq ?_
      refine wc_seq ?_
      refine wc_region ?_
      refine wl_val (r_move rfl) (ltn rfl) ?_
      refine wl_val (r_move rfl) (ltn rfl) ?_
      obtain ⟨bu1, ou1, cu1, eu1⟩ := RdI.posV ((H1).row_rd) (by omega)
      cases eu1
      refine wl_val (r_index Try.underlying47 Try.sizeOf3 rfl rfl (by omega)) (ltn rfl) ?_
      refine wl_val (r_load (plain_of Try.underlying3 rfl) rfl (by first | exact RdI.at1n ((H1).row_rd) (by omega) | exact RdI.at0 ((H1).row_rd) (by omega) | exact RdI.at1 ((H1).row_rd) (by omega))) (ltn rfl) ?_
      refine wl_val (r_assign rfl) (ltn rfl) ?_
      refine wl_nil ?_
      refine wq_seq ?_
      refine wc_ret ?_
      refine wq_end1 (.inl rfl) Try.results20 rfl ?_
      refine ⟨?_, H1.right⟩; unfold quotedS; rw [if_pos (by omega), ← statesS_at (by omega)]
theorem ref_open_ret (H : Holds w0 w F) (hv : FRdI w0 F .i32 v l) (hL : l.length ≤ 4294967296) : Ret Try.prog 21 #[v] w fun v' w' => v' = .int .i64 (openS l) ∧ Holds w0 w' F := by
  refine ret_enter Try.func21 rfl Try.ntmps21 (Nat.le_of_ble_eq_true rfl) ?_
  dsimp only [slots0, Nat.reduceAdd]
  refine wc_seq ?_
  refine wc_region ?_
  refine wl_val (r_assign rfl) (ltn rfl) ?_
  refine wl_nil ?_
  refine wq_seq ?_
  refine wc_seq ?_
  refine wc_region ?_
  refine wl_val (r_move rfl) (ltn rfl) ?_
  refine wl_eff (e_call (r_call rfl Try.func41 rfl rfl) (ref_states_ret H (fun W HW => hv _ (HW)) (by omega))) (ltn rfl) ?_
  rintro _ w1 ⟨u1, rfl, H1⟩
  refine wl_val (r_move rfl) (ltn rfl) ?_
  refine wl_val (r_extract rfl rfl) (ltn rfl) ?_
  refine wl_val (r_extract rfl rfl) (ltn rfl) ?_
  refine wl_val (r_assign rfl) (ltn rfl) ?_
  refine wl_val (r_assign rfl) (ltn rfl) ?_
  refine wl_nil ?_
  refine wq_seq ?_
  refine wc_seq ?_
  refine wc_region ?_
  refine wl_val (r_move rfl) (ltn rfl) ?_
  refine wl_val (r_assign rfl) (ltn rfl) ?_
  refine wl_nil ?_
  refine wq_seq ?_
  refine wc_ret ?_
  refine wq_end1 (.inl rfl) Try.results21 rfl ?_
  exact ⟨rfl, H1.right⟩
end
end Go.Proofs.Ytgoopiakpbcgoaa
