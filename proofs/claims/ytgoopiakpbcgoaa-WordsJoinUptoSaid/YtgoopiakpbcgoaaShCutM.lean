/- Words of a line's beginning, plainly. -/
import Derived.Test.YtgoopiakpbcgoaaShCatM
set_option linter.unusedSimpArgs false
set_option linter.unusedVariables false
namespace Go.Proofs.Ytgoopiakpbcgoaa
section
variable {l : List Int} {c : Nat}
theorem cut_len (hc : c < l.length) : (l.take c).length = c := by rw [List.length_take]; omega
theorem cut_get {j : Nat} (hj : j < c) : (l.take c).getD j 0 = l.getD j 0 := by
  rw [List.getD_eq_getElem?_getD, List.getD_eq_getElem?_getD, List.getElem?_take_of_lt hj]
theorem cut_st {j : Nat} (hj : j ≤ c) : stS (l.take c) j = stS l j := by
  unfold stS; rw [List.take_take, show min j c = j by omega]
theorem cut_quo {j : Nat} (hj : j ≤ c) : quoS (l.take c) j = quoS l j := by unfold quoS; rw [cut_st hj]
theorem cut_skip {j : Nat} (hj : j < c) : skipS (l.take c) j = skipS l j := by unfold skipS; rw [cut_get hj, cut_quo (Nat.le_of_lt hj)]
theorem cut_dig (hc : c < l.length) (h32 : l.getD c 0 = 32) : ∀ (d i : Nat), c = i + d → digN (l.take c) i = digN l i
  | 0, i, h => by
    obtain rfl : c = i := h
    rw [digN_stop, digN_stop]
    · unfold isDig; rw [decide_eq_false]; omega
    · unfold isDig; rw [decide_eq_false]; rw [cut_len hc]; omega
  | d + 1, i, h => by
    have e : isDig (l.take c) i = isDig l i := by
      unfold isDig
      rw [cut_len hc, cut_get (by omega), cut_quo (by omega)]
      exact decide_eq_decide.2 (by constructor <;> omega)
    have ih := cut_dig hc h32 d (i + 1) (by omega)
    cases hd : isDig l i with
    | true => rw [digN_step hd, digN_step (by rw [e, hd]), ih]
    | false => rw [digN_stop hd, digN_stop (by rw [e, hd])]
theorem cut_digN (hc : c < l.length) (h32 : l.getD c 0 = 32) {i : Nat} (hi : i ≤ c) : digN (l.take c) i = digN l i := cut_dig hc h32 (c - i) i (by omega)
theorem cut_digS (hc : c < l.length) (h32 : l.getD c 0 = 32) {i : Nat} (hi : i ≤ c) : digS (l.take c) i = digS l i := by
  have hn := cut_digN hc h32 hi
  have hle := digN_le (l.take c) i
  rw [cut_len hc] at hle
  have hno : noDig (l.take c) i (digN (l.take c) i) ↔ noDig l i (digN l i) := by
    rw [hn]; rw [hn] at hle
    unfold noDig
    rw [cut_len hc]
    rcases Nat.lt_or_ge (i + digN l i) c with q | q
    · rw [cut_get q, cut_quo (Nat.le_of_lt q)]
      constructor <;> (rintro (a | a | a | a) <;> first | exact .inl a | exact .inr (.inr (.inl a)) | exact .inr (.inr (.inr a)) | (exfalso; omega))
    · have e : i + digN l i = c := by omega
      rw [e, h32]
      exact ⟨fun _ => .inr (.inr (.inr (by decide))), fun _ => .inr (.inl (Nat.le_refl _))⟩
  unfold digS
  by_cases q : noDig l i (digN l i)
  · rw [if_pos q, if_pos (hno.2 q)]
  · rw [if_neg q, if_neg (fun a => q (hno.1 a)), hn]
theorem ops_no32 : ∀ o ∈ opsL, ∀ x ∈ o, x ≠ 32 := by decide
theorem cut_stands (hc : c < l.length) (h32 : l.getD c 0 = 32) {i : Nat} (hi : i < c) {o : List Int} (ho : ∀ x ∈ o, x ≠ 32) : standsS (l.take c) i o = standsS l i o := by
  rw [Bool.eq_iff_iff, stands_iff, stands_iff, cut_len hc]
  constructor
  · rintro ⟨a, b⟩
    refine ⟨by omega, fun j hj => ?_⟩
    have := b j hj
    rwa [cut_get (by omega), cut_quo (by omega)] at this
  · rintro ⟨a, b⟩
    have hle : i + o.length ≤ c := by
      rcases Nat.lt_or_ge c (i + o.length) with q | q
      · have hj : c - i < o.length := by omega
        have := (b (c - i) hj).1
        rw [show i + (c - i) = c by omega, h32] at this
        exfalso
        refine ho (o.getD (c - i) 0) ?_ this.symm
        rw [List.getD_eq_getElem?_getD, List.getElem?_eq_getElem hj]; exact List.getElem_mem hj
      · exact q
    refine ⟨hle, fun j hj => ?_⟩
    rw [cut_get (by omega), cut_quo (by omega)]
    exact b j hj
theorem cut_opIn (hc : c < l.length) (h32 : l.getD c 0 = 32) {i : Nat} (hi : i < c) : ∀ ops : List (List Int), (∀ o ∈ ops, ∀ x ∈ o, x ≠ 32) → opIn (l.take c) i ops = opIn l i ops
  | [], _ => rfl
  | o :: r, h => by
    unfold opIn
    rw [cut_stands hc h32 hi (h o (by simp)), cut_opIn hc h32 hi r (fun x hx => h x (by simp [hx]))]
theorem cut_op (hc : c < l.length) (h32 : l.getD c 0 = 32) {i : Nat} (hi : i < c) : opS (l.take c) i = opS l i := cut_opIn hc h32 hi _ ops_no32
theorem cut_isOp (hc : c < l.length) (h32 : l.getD c 0 = 32) {i n : Nat} (hn : i + n ≤ c) : isOp (l.take c) i n = isOp l i n := by
  unfold isOp
  rw [cut_len hc]
  rcases Nat.lt_or_ge (i + n) c with q | q
  · rw [cut_get q, cut_quo hn]; exact decide_eq_decide.2 ⟨fun a => ⟨by omega, a.2⟩, fun a => ⟨q, a.2⟩⟩
  · have e : i + n = c := by omega
    rw [e, h32]
    exact decide_eq_decide.2 ⟨fun a => absurd a.1 (Nat.lt_irrefl _), fun a => absurd a.2.2 (by decide)⟩
theorem cut_ends {j : Nat} (hc : c < l.length) (hj : j < c) : endsS (l.take c) j = endsS l j := by
  unfold endsS; rw [cut_len hc, cut_get hj, cut_quo (Nat.le_of_lt hj)]
  exact decide_eq_decide.2 ⟨fun a => a.elim (fun q => absurd q (by omega)) .inr, fun a => a.elim (fun q => absurd q (by omega)) .inr⟩
theorem cut_pe (hc : c < l.length) (h32 : l.getD c 0 = 32) (hq : quoS l c = 0) : ∀ (d i : Nat), c = i + d → peS (l.take c) i = peS l i
  | 0, i, h => by
    obtain rfl : c = i := h
    rw [pe_stop, pe_stop]
    · unfold endsS; rw [decide_eq_true_eq]; exact .inr ⟨hq, by rw [h32]; decide⟩
    · unfold endsS; rw [decide_eq_true_eq, cut_len hc]; exact .inl (Nat.le_refl _)
  | d + 1, i, h => by
    have e := cut_ends (l := l) (j := i) hc (by omega)
    cases he : endsS l i with
    | true => rw [pe_stop he, pe_stop (by rw [e, he])]
    | false => rw [pe_step he, pe_step (by rw [e, he]), cut_pe hc h32 hq d (i + 1) (by omega)]
/-- The words ahead of a blank that is not quoted are the beginning's. -/
theorem words_cutF (hc : c < l.length) (h32 : l.getD c 0 = 32) (hq : quoS l c = 0) : ∀ (d i : Nat), c ≤ i + d → i ≤ c → wordsAt l i = wordsAt (l.take c) i ++ wordsAt l (c + 1)
  | 0, i, h, hi => by
    obtain rfl : i = c := by omega
    rw [wordsAt_end (l := l.take i) (by rw [cut_len hc]; omega), List.nil_append]
    exact wordsAt_skip hc (by unfold skipS; rw [decide_eq_true_eq, h32]; exact ⟨by decide, hq⟩)
  | d + 1, i, h, hi => by
    rcases Nat.lt_or_ge i c with hic | hic
    · have hil : i < (l.take c).length := by rw [cut_len hc]; exact hic
      have es := cut_skip (l := l) hic
      cases hs : skipS l i with
      | true => rw [wordsAt_skip (by omega) hs, wordsAt_skip hil (by rw [es, hs]), words_cutF hc h32 hq d (i + 1) (by omega) (by omega)]
      | false =>
        have ed := cut_digS hc h32 (i := i) hi
        have hdl : i + digS l i ≤ c := by
          have h1 := digN_le (l.take c) i
          rw [cut_len hc, cut_digN hc h32 hi] at h1
          have : digS l i ≤ digN l i := by unfold digS; split <;> omega
          omega
        have eo := cut_isOp hc h32 hdl
        cases ho : isOp l i (digS l i) with
        | true =>
          have ho2 : isOp (l.take c) i (digS (l.take c) i) = true := by rw [ed, eo, ho]
          have hlt : i + digS l i < c := by
            rw [eo.trans ho |> fun q => q] at eo
            have := eo.trans ho
            unfold isOp at ho2; rw [decide_eq_true_eq, cut_len hc, ed] at ho2; exact ho2.1
          have eop := cut_op hc h32 hlt
          have hp := opS_pos l (i + digS l i)
          have hle : i + digS l i + opS l (i + digS l i) ≤ c := by
            have := opS_le (l := l.take c) (i := i + digS l i) (by rw [cut_len hc]; exact hlt)
            rwa [cut_len hc, eop] at this
          rw [wordsAt_op (by omega) hs ho, wordsAt_op hil (by rw [es, hs]) ho2, ed, eop, words_cutF hc h32 hq d _ (by omega) hle]; rfl
        | false =>
          have ho2 : isOp (l.take c) i (digS (l.take c) i) = false := by rw [ed, eo, ho]
          have ep := cut_pe hc h32 hq (c - i) i (by omega)
          have hp := peS_lt (plain_go (by omega) hs ho)
          have hle : peS l i ≤ c := by
            have := (peS_le (l := l.take c) (i := i) (by rw [cut_len hc]; exact hi)).2
            rwa [cut_len hc, ep] at this
          rw [wordsAt_plain (by omega) hs ho, wordsAt_plain hil (by rw [es, hs]) ho2, ep, words_cutF hc h32 hq d _ (by omega) hle]; rfl
    · obtain rfl : i = c := by omega
      rw [wordsAt_end (l := l.take i) (by rw [cut_len hc]; omega), List.nil_append]
      exact wordsAt_skip hc (by unfold skipS; rw [decide_eq_true_eq, h32]; exact ⟨by decide, hq⟩)
theorem sep_from (l : List Int) : ∀ (es : List Wd) (a : Nat), SepE l a es → ∀ d ∈ es, a ≤ d.2.1
  | [], _, _, d, hd => by cases hd
  | e :: r, a, ⟨h1, h2, h3, h4, h5, h6⟩, d, hd => by
    rcases List.mem_cons.1 hd with rfl | hd
    · exact h1
    · have := sep_from l r _ h6 d hd; omega
theorem words_cut (hc : c < l.length) (h32 : l.getD c 0 = 32) (hq : quoS l c = 0) : (wordsS (l.take c)).length ≤ (wordsS l).length ∧ (wordsS l).take (wordsS (l.take c)).length = wordsS (l.take c) ∧
    ((wordsS (l.take c)).length = (wordsS l).length ∨ c < ((wordsS l).getD (wordsS (l.take c)).length (0, 0, 0)).2.1) := by
  have h : wordsS l = wordsS (l.take c) ++ wordsAt l (c + 1) := words_cutF hc h32 hq c 0 (by omega) (by omega)
  refine ⟨by rw [h, List.length_append]; omega, by rw [h, List.take_left' rfl], ?_⟩
  cases hw : wordsAt l (c + 1) with
  | nil => left; rw [h, hw, List.append_nil]
  | cons d r =>
    right
    have hs := sep_at l (l.length - (c + 1)) (c + 1) (by omega) (by omega)
    have := sep_from l _ _ hs d (by rw [show wordsF l (l.length - (c + 1)) (c + 1) = d :: r from hw]; simp)
    rw [h, hw, List.getD_eq_getElem?_getD, List.getElem?_append_right (Nat.le_refl _), Nat.sub_self]
    show c < d.2.1
    omega
end
end Go.Proofs.Ytgoopiakpbcgoaa
