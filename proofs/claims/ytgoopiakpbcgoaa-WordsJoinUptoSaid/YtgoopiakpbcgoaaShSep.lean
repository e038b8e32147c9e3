/- Words rise, do not overlap; between them stand blanks, plainly. -/
import Derived.Test.YtgoopiakpbcgoaaShW
set_option linter.unusedSimpArgs false
set_option linter.unusedVariables false
namespace Go.Proofs.Ytgoopiakpbcgoaa
def SepE (l : List Int) : Nat → List Wd → Prop
  | _, [] => True
  | a, c :: r => a ≤ c.2.1 ∧ c.2.1 ≤ c.2.2 ∧ c.2.2 ≤ l.length ∧ (c.2.1 = c.2.2 → c.2.1 = l.length) ∧ (∀ k, a ≤ k → k < c.2.1 → skipS l k = true) ∧ SepE l c.2.2 r
theorem sep_skip {l : List Int} {i : Nat} (h : skipS l i = true) : ∀ {es : List Wd}, SepE l (i + 1) es → SepE l i es
  | [], _ => trivial
  | c :: r, ⟨h1, h2, h3, h4, h5, h6⟩ => ⟨by omega, h2, h3, h4, fun k hk hk2 => by
      by_cases e : k = i
      · rw [e]; exact h
      · exact h5 k (by omega) hk2, h6⟩
theorem sep_at (l : List Int) : ∀ (f i : Nat), l.length ≤ i + f → i ≤ l.length → SepE l i (wordsF l f i ++ [(0, l.length, l.length)])
  | 0, i, h, hi => by
    unfold wordsF
    exact ⟨hi, Nat.le_refl _, Nat.le_refl _, fun _ => rfl, fun k h1 h2 => by dsimp only at h2; omega, trivial⟩
  | f + 1, i, h, hi => by
    unfold wordsF
    by_cases hl : i < l.length
    · rw [if_pos hl]
      by_cases hs : skipS l i = true
      · rw [if_pos hs]; exact sep_skip hs (sep_at l f (i + 1) (by omega) (by omega))
      · rw [if_neg hs]
        by_cases ho : isOp l i (digS l i) = true
        · rw [if_pos ho]
          have hil : i + digS l i < l.length := by unfold isOp at ho; rw [decide_eq_true_eq] at ho; exact ho.1
          have h1 := opS_pos l (i + digS l i)
          have h2 := opS_le hil
          exact ⟨Nat.le_refl _, by dsimp only; omega, h2, fun e => by dsimp only at e; omega, fun k ha hb => by dsimp only at hb; omega, sep_at l f _ (by dsimp only; omega) h2⟩
        · rw [if_neg ho]
          have h1 := peS_lt (plain_go hl (by simpa using hs) (by simpa using ho))
          have h2 := (peS_le (l := l) (i := i) hi).2
          exact ⟨Nat.le_refl _, by dsimp only; omega, h2, fun e => by dsimp only at e; omega, fun k ha hb => by dsimp only at hb; omega, sep_at l f _ (by dsimp only; omega) h2⟩
    · rw [if_neg hl]
      exact ⟨hi, Nat.le_refl _, Nat.le_refl _, fun _ => rfl, fun k h1 h2 => by dsimp only at h2; omega, trivial⟩
theorem sep_words (l : List Int) : SepE l 0 (wordsS l ++ [(0, l.length, l.length)]) := sep_at l _ 0 (by omega) (by omega)
theorem sep_drop {l : List Int} {a k : Nat} {es : List Wd} (hk : k < es.length) (h : SepE l a (es.drop k)) :
    a ≤ (es.getD k (0, 0, 0)).2.1 ∧ (es.getD k (0, 0, 0)).2.1 ≤ (es.getD k (0, 0, 0)).2.2 ∧ (es.getD k (0, 0, 0)).2.2 ≤ l.length ∧ ((es.getD k (0, 0, 0)).2.1 = (es.getD k (0, 0, 0)).2.2 → (es.getD k (0, 0, 0)).2.1 = l.length) ∧
    (∀ j, a ≤ j → j < (es.getD k (0, 0, 0)).2.1 → skipS l j = true) ∧ SepE l (es.getD k (0, 0, 0)).2.2 (es.drop (k + 1)) := by
  rw [List.drop_eq_getElem_cons hk] at h
  rw [List.getD_eq_getElem?_getD, List.getElem?_eq_getElem hk]
  exact h
theorem skip_blank {l : List Int} {k : Nat} (h : skipS l k = true) : (l.getD k 0 = 32 ∨ l.getD k 0 = 9 ∨ l.getD k 0 = 10) ∧ quoS l k = 0 := by
  unfold skipS blankS at h
  rw [decide_eq_true_eq, decide_eq_true_eq] at h
  exact h
end Go.Proofs.Ytgoopiakpbcgoaa
