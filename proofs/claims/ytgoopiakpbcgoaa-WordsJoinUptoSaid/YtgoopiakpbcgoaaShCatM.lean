/- Words of joined words, words of a line's beginning, plainly. -/
import Derived.Test.YtgoopiakpbcgoaaShQM
import Derived.Test.YtgoopiakpbcgoaaShSep
import Derived.Test.YtgoopiakpbcgoaaShJoin
import Derived.Test.YtgoopiakpbcgoaaShTexts
import Derived.Test.YtgoopiakpbcgoaaShRefOp
set_option linter.unusedSimpArgs false
set_option linter.unusedVariables false
namespace Go.Proofs.Ytgoopiakpbcgoaa
theorem pe_to {l : List Int} : ∀ (d i m : Nat), m = i + d → (∀ j, i ≤ j → j < m → endsS l j = false) → endsS l m = true → peS l i = m
  | 0, i, m, h, _, h2 => by
    have e : m = i := h
    subst e; exact pe_stop h2
  | d + 1, i, m, h, h1, h2 => by
    rw [pe_step (h1 i (Nat.le_refl _) (by omega))]
    exact pe_to d (i + 1) m (by omega) (fun j a b => h1 j (by omega) b) h2
theorem cls_op' {r : Int} (h1 : operS r = true) : classS r ≠ 0 := by unfold classS; split; decide; first | decide | (rw [if_pos h1]; decide)
theorem ends_skip {l : List Int} {i : Nat} (h : endsS l i = false) : skipS l i = false := by
  unfold endsS at h; rw [decide_eq_false_iff_not] at h
  unfold skipS; rw [decide_eq_false_iff_not]
  rintro ⟨a, b⟩
  exact h (.inr ⟨b, by unfold classS; rw [if_pos a]; decide⟩)
/-- A text that is one plain word, and closed. -/
def aloneP (w : List Int) : Prop := wordsS w = [(0, 0, w.length)] ∧ openS w = 0
instance (w : List Int) : Decidable (aloneP w) := by unfold aloneP; infer_instance
theorem alone_ends {w : List Int} (h : wordsS w = [(0, 0, w.length)]) : w ≠ [] ∧ ∀ k, k < w.length → endsS w k = false := by
  have h0 : 0 < w.length := by
    rcases Nat.eq_zero_or_pos w.length with q | q
    · unfold wordsS at h; rw [wordsAt_end (by omega)] at h; cases h
    · exact q
  refine ⟨fun q => by subst q; simp at h0, ?_⟩
  have hs : skipS w 0 = false := by
    cases hq : skipS w 0 with
    | false => rfl
    | true =>
      unfold wordsS at h
      rw [wordsAt_skip h0 hq] at h
      have := sep_at w (w.length - 1) 1 (by omega) (by omega)
      unfold wordsAt at h
      rw [h] at this
      exact absurd (show (1 : Nat) ≤ 0 from this.1) (by decide)
  have ho : isOp w 0 (digS w 0) = false := by
    cases hq : isOp w 0 (digS w 0) with
    | false => rfl
    | true =>
      unfold wordsS at h
      rw [wordsAt_op h0 hs hq] at h
      simp at h
  have hp : peS w 0 = w.length := by
    unfold wordsS at h
    rw [wordsAt_plain h0 hs ho] at h
    have := (List.cons.inj h).1
    exact (Prod.mk.inj (Prod.mk.inj this).2).2
  intro k hk
  exact pe_all w (w.length - 0) 0 k (Nat.zero_le _) (by unfold peS at hp; rw [hp]; exact hk)
theorem take_mid {P w rest : List Int} {k : Nat} (hk : k ≤ w.length) : (P ++ (w ++ rest)).take (P.length + k) = P ++ w.take k := by
  rw [List.take_append, List.take_of_length_le (by omega), show P.length + k - P.length = k by omega, List.take_append_of_le_length hk]
theorem st_mid {P w rest : List Int} (hP : runS (0, false) P = (0, false)) {k : Nat} (hk : k ≤ w.length) : stS (P ++ (w ++ rest)) (P.length + k) = stS w k := by
  rw [stS_run, stS_run, take_mid hk, runS_app, hP]
theorem get_mid {P w rest : List Int} {k : Nat} (hk : k < w.length) : (P ++ (w ++ rest)).getD (P.length + k) 0 = w.getD k 0 := by
  rw [List.getD_eq_getElem?_getD, List.getD_eq_getElem?_getD, List.getElem?_append_right (by omega), show P.length + k - P.length = k by omega, List.getElem?_append_left hk]
theorem get_end {P w rest : List Int} {c : Int} : (P ++ (w ++ c :: rest)).getD (P.length + w.length) 0 = c := by
  rw [List.getD_eq_getElem?_getD, List.getElem?_append_right (by omega), show P.length + w.length - P.length = w.length by omega, List.getElem?_append_right (Nat.le_refl _), Nat.sub_self]; rfl
/-- A word of its own, behind what is closed, ahead of a blank or the end. -/
theorem words_mid {P w rest : List Int} (hP : runS (0, false) P = (0, false)) (h : aloneP w) (hr : rest = [] ∨ ∃ r, rest = 32 :: r) :
    wordsAt (P ++ (w ++ rest)) P.length = (0, P.length, P.length + w.length) :: wordsAt (P ++ (w ++ rest)) (P.length + w.length) := by
  obtain ⟨hne, hends⟩ := alone_ends h.1
  have hw0 : 0 < w.length := List.length_pos_iff.2 hne
  have hlen : (P ++ (w ++ rest)).length = P.length + w.length + rest.length := by simp [Nat.add_assoc]
  have he : ∀ k, k < w.length → endsS (P ++ (w ++ rest)) (P.length + k) = false := fun k hk => by
    have := hends k hk
    unfold endsS at this ⊢
    rw [decide_eq_false_iff_not] at this ⊢
    have hq : quoS (P ++ (w ++ rest)) (P.length + k) = quoS w k := by unfold quoS; rw [st_mid hP (by omega)]
    rw [hq, get_mid hk]
    rintro (a | a)
    · omega
    · exact this (.inr a)
  have hqe : quoS (P ++ (w ++ rest)) (P.length + w.length) = 0 := by
    have := h.2
    unfold openS at this
    unfold quoS; rw [st_mid hP (Nat.le_refl _)]; exact this
  have hend : endsS (P ++ (w ++ rest)) (P.length + w.length) = true := by
    unfold endsS; rw [decide_eq_true_eq]
    rcases hr with rfl | ⟨r, rfl⟩
    · left; rw [hlen]; simp
    · right; exact ⟨hqe, by rw [get_end]; decide⟩
  have hpe : peS (P ++ (w ++ rest)) P.length = P.length + w.length := pe_to w.length _ _ rfl (fun j a b => by
    have := he (j - P.length) (by omega)
    rwa [show P.length + (j - P.length) = j by omega] at this) hend
  have hs : skipS (P ++ (w ++ rest)) P.length = false := ends_skip (he 0 hw0)
  have ho : isOp (P ++ (w ++ rest)) P.length (digS (P ++ (w ++ rest)) P.length) = false := by
    unfold isOp; rw [decide_eq_false_iff_not]
    rintro ⟨a, b, c⟩
    have hd : digS (P ++ (w ++ rest)) P.length ≤ digN (P ++ (w ++ rest)) P.length := by unfold digS; split <;> omega
    rcases Nat.lt_or_ge (digS (P ++ (w ++ rest)) P.length) w.length with q | q
    · have := he _ q
      unfold endsS at this; rw [decide_eq_false_iff_not] at this
      exact this (.inr ⟨b, cls_op' c⟩)
    · rcases hr with rfl | ⟨r, rfl⟩
      · rw [hlen, List.length_nil] at a; omega
      · rcases Nat.lt_or_ge w.length (digS (P ++ (w ++ 32 :: r)) P.length) with q2 | q2
        · have := digN_all (l := P ++ (w ++ 32 :: r)) (i := P.length) (j := w.length) (by omega)
          unfold isDig at this; rw [decide_eq_true_eq, get_end] at this
          omega
        · rw [show P.length + digS (P ++ (w ++ 32 :: r)) P.length = P.length + w.length by omega, get_end] at c
          exact absurd c (by decide)
  rw [wordsAt_plain (by rw [hlen]; omega) hs ho, hpe]
def joinR : List (List Int) → List Int
  | [] => []
  | [w] => w
  | w :: v :: r => w ++ 32 :: joinR (v :: r)
theorem run_blank : nextS (0, false) 32 = (0, false) := rfl
theorem alone_run {w : List Int} (h : aloneP w) : runS (0, false) w = (0, false) := by
  have h1 := h.2
  rw [openS_run] at h1
  unfold kindS at h1
  have hq := stS_set w w.length
  rw [stS_run, List.take_length] at hq
  cases hb : (runS (0, false) w).2 with
  | true => rw [hb, if_pos rfl] at h1; exact absurd h1 (by decide)
  | false =>
    rw [hb, if_neg (by decide)] at h1
    refine Prod.ext ?_ hb
    show (runS (0, false) w).1 = 0
    rcases hq with q | q | q | q
    · exact q
    · rw [if_pos q] at h1; exact absurd h1 (by decide)
    · rw [if_neg (by rw [q]; decide), if_pos (by rw [q]; decide)] at h1; exact absurd h1 (by decide)
    · rw [if_neg (by rw [q]; decide), if_pos (by rw [q]; decide)] at h1; exact absurd h1 (by decide)
theorem text_mid {P w rest : List Int} : textW (P ++ (w ++ rest)) (0, P.length, P.length + w.length) = w := by
  unfold textW
  show ((P ++ (w ++ rest)).drop P.length).take (P.length + w.length - P.length) = w
  rw [List.drop_left' rfl, show P.length + w.length - P.length = w.length by omega, List.take_left' rfl]
theorem texts_joinR : ∀ (ws : List (List Int)) (P : List Int), runS (0, false) P = (0, false) → (∀ w ∈ ws, aloneP w) → (wordsAt (P ++ joinR ws) P.length).map (textW (P ++ joinR ws)) = ws
  | [], P, hP, h => by rw [joinR, List.append_nil, wordsAt_end (Nat.lt_irrefl _)]; rfl
  | [w], P, hP, h => by
    have hm := words_mid (rest := []) hP (h w (by simp)) (.inl rfl)
    rw [joinR]
    rw [List.append_nil] at hm
    rw [hm, wordsAt_end (by simp), List.map_cons, List.map_nil]
    have := text_mid (P := P) (w := w) (rest := [])
    rw [List.append_nil] at this
    rw [this]
  | w :: v :: r, P, hP, h => by
    have ha := h w (by simp)
    have hm := words_mid (rest := 32 :: joinR (v :: r)) hP ha (.inr ⟨_, rfl⟩)
    have hP2 : runS (0, false) (P ++ w ++ [32]) = (0, false) := by rw [runS_app, runS_app, hP, alone_run ha]; rfl
    have e : P ++ (w ++ 32 :: joinR (v :: r)) = (P ++ w ++ [32]) ++ joinR (v :: r) := by simp
    have hsk : skipS (P ++ (w ++ 32 :: joinR (v :: r))) (P.length + w.length) = true := by
      unfold skipS; rw [decide_eq_true_eq, get_end]
      refine ⟨by decide, ?_⟩
      have := ha.2
      unfold openS at this
      unfold quoS; rw [st_mid hP (Nat.le_refl _)]; exact this
    have hlt : P.length + w.length < (P ++ (w ++ 32 :: joinR (v :: r))).length := by simp
    have ih := texts_joinR (v :: r) (P ++ w ++ [32]) hP2 (fun x hx => h x (by simp at hx ⊢; right; exact hx))
    rw [← e] at ih
    rw [joinR, hm, wordsAt_skip hlt hsk, List.map_cons, text_mid]
    have hl : (P ++ w ++ [32]).length = P.length + w.length + 1 := by simp [Nat.add_assoc]
    rw [hl] at ih
    rw [ih]
theorem joinR_snoc (w : List Int) : ∀ ls : List (List Int), joinR (ls ++ [w]) = joinR ls ++ (if 0 < ls.length then [32] else []) ++ w
  | [] => by simp [joinR]
  | [v] => by simp [joinR]
  | v :: u :: r => by
    have := joinR_snoc w (u :: r)
    simp only [List.cons_append] at this ⊢
    rw [joinR, this]
    simp [joinR]
theorem joinK_take (ls : List (List Int)) : ∀ k, k ≤ ls.length → joinK ls k = joinR (ls.take k)
  | 0, _ => rfl
  | k + 1, h => by
    rw [joinK, joinK_take ls k (by omega), List.take_succ_eq_append_getElem (by omega), joinR_snoc, List.length_take, show min k ls.length = k by omega, List.getD_eq_getElem?_getD, List.getElem?_eq_getElem (by omega)]; rfl
theorem joinS_eq (ls : List (List Int)) : joinS ls = joinR ls := by unfold joinS; rw [joinK_take ls _ (Nat.le_refl _), List.take_length]
/-- The words of words that are joined are these. -/
theorem texts_join {ws : List (List Int)} (h : ∀ w ∈ ws, aloneP w) : textsS (joinS ws) = ws := by
  have := texts_joinR ws [] rfl h
  rw [joinS_eq]
  exact this
end Go.Proofs.Ytgoopiakpbcgoaa
