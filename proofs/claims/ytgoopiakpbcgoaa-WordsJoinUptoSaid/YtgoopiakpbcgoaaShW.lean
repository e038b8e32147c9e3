/- shwords' words, plainly. -/
import Derived.Test.YtgoopiakpbcgoaaShM
set_option linter.unusedSimpArgs false
set_option linter.unusedVariables false
namespace Go.Proofs.Ytgoopiakpbcgoaa
def isDig (l : List Int) (k : Nat) : Bool := decide (k < l.length ∧ 48 ≤ l.getD k 0 ∧ l.getD k 0 ≤ 57 ∧ quoS l k = 0)
def digF (l : List Int) : Nat → Nat → Nat
  | 0, _ => 0
  | f + 1, i => if isDig l i then digF l f (i + 1) + 1 else 0
def digN (l : List Int) (i : Nat) : Nat := digF l (l.length - i) i
theorem digN_stop {l : List Int} {i : Nat} (h : isDig l i = false) : digN l i = 0 := by
  unfold digN
  cases l.length - i with
  | zero => rfl
  | succ f => simp [digF, h]
theorem digN_step {l : List Int} {i : Nat} (h : isDig l i = true) : digN l i = digN l (i + 1) + 1 := by
  have hi : i < l.length := by unfold isDig at h; rw [decide_eq_true_eq] at h; exact h.1
  unfold digN
  rw [show l.length - i = (l.length - (i + 1)) + 1 by omega]
  simp [digF, h]
theorem digF_le (l : List Int) : ∀ f i, digF l f i ≤ f
  | 0, _ => Nat.le_refl 0
  | f + 1, i => by unfold digF; split; have := digF_le l f (i + 1); omega; omega
theorem digN_le (l : List Int) (i : Nat) : digN l i ≤ l.length - i := digF_le l _ i
theorem digF_all (l : List Int) : ∀ f i j, j < digF l f i → isDig l (i + j) = true
  | 0, _, _, h => by simp [digF] at h
  | f + 1, i, j, h => by
    unfold digF at h
    split at h
    · rename_i hd
      cases j with
      | zero => exact hd
      | succ j => have := digF_all l f (i + 1) j (by omega); rwa [show i + 1 + j = i + (j + 1) by omega] at this
    · omega
theorem digN_all {l : List Int} {i j : Nat} (h : j < digN l i) : isDig l (i + j) = true := digF_all l _ i j h
theorem digF_end (l : List Int) : ∀ f i, digF l f i < f → isDig l (i + digF l f i) = false
  | 0, _, h => by simp [digF] at h
  | f + 1, i, h => by
    unfold digF at h ⊢
    by_cases hd : isDig l i = true
    · rw [if_pos hd] at h ⊢
      have := digF_end l f (i + 1) (by omega)
      rwa [show i + (digF l f (i + 1) + 1) = i + 1 + digF l f (i + 1) by omega]
    · rw [if_neg hd]; simpa using hd
theorem digN_end (l : List Int) (i : Nat) : isDig l (i + digN l i) = false := by
  by_cases h : digN l i < l.length - i
  · exact digF_end l _ i h
  · have := digN_le l i
    unfold isDig; rw [decide_eq_false]; omega
def noDig (l : List Int) (i n : Nat) : Prop := n = 0 ∨ l.length ≤ i + n ∨ quoS l (i + n) ≠ 0 ∨ (l.getD (i + n) 0 ≠ 60 ∧ l.getD (i + n) 0 ≠ 62)
instance (l : List Int) (i n : Nat) : Decidable (noDig l i n) := by unfold noDig; infer_instance
def digS (l : List Int) (i : Nat) : Nat := if noDig l i (digN l i) then 0 else digN l i
def opsL : List (List Int) := [[60, 60, 45], [60, 60, 60], [38, 62], [60, 60], [62, 62], [62, 38], [60, 38], [60, 62], [62, 124], [38, 38], [124, 124], [59, 59], [59, 38], [124, 38]]
def standsS (l : List Int) (i : Nat) (op : List Int) : Bool := decide (i + op.length ≤ l.length ∧ (l.drop i).take op.length = op ∧ ∀ j, j < op.length → quoS l (i + j) = 0)
def opIn (l : List Int) (i : Nat) : List (List Int) → Nat
  | [] => 1
  | o :: r => if standsS l i o then o.length else opIn l i r
def opS (l : List Int) (i : Nat) : Nat := opIn l i opsL
theorem opIn_pos (l : List Int) (i : Nat) : ∀ ops : List (List Int), (∀ o ∈ ops, 1 ≤ o.length) → 1 ≤ opIn l i ops
  | [], _ => Nat.le_refl 1
  | o :: r, h => by unfold opIn; split; exact h o (by simp); exact opIn_pos l i r fun x hx => h x (by simp [hx])
theorem opS_pos (l : List Int) (i : Nat) : 1 ≤ opS l i := opIn_pos l i _ (by decide)
theorem opIn_le (l : List Int) (i : Nat) (hi : i < l.length) : ∀ ops : List (List Int), i + opIn l i ops ≤ l.length
  | [] => hi
  | o :: r => by
    unfold opIn
    split
    · rename_i h; unfold standsS at h; rw [decide_eq_true_eq] at h; exact h.1
    · exact opIn_le l i hi r
theorem opS_le {l : List Int} {i : Nat} (hi : i < l.length) : i + opS l i ≤ l.length := opIn_le l i hi _
def endsS (l : List Int) (i : Nat) : Bool := decide (l.length ≤ i ∨ (quoS l i = 0 ∧ classS (l.getD i 0) ≠ 0))
def peF (l : List Int) : Nat → Nat → Nat
  | 0, i => i
  | f + 1, i => if endsS l i then i else peF l f (i + 1)
def peS (l : List Int) (i : Nat) : Nat := peF l (l.length - i) i
theorem pe_stop {l : List Int} {i : Nat} (h : endsS l i = true) : peS l i = i := by
  unfold peS
  cases l.length - i with
  | zero => rfl
  | succ f => simp [peF, h]
theorem pe_step {l : List Int} {i : Nat} (h : endsS l i = false) : peS l i = peS l (i + 1) := by
  have hi : i < l.length := by unfold endsS at h; rw [decide_eq_false_iff_not] at h; omega
  unfold peS
  rw [show l.length - i = (l.length - (i + 1)) + 1 by omega]
  simp [peF, h]
theorem pe_le (l : List Int) : ∀ f i, i ≤ peF l f i ∧ peF l f i ≤ i + f
  | 0, i => by simp [peF]
  | f + 1, i => by unfold peF; split; omega; have := pe_le l f (i + 1); omega
theorem peS_le {l : List Int} {i : Nat} (hi : i ≤ l.length) : i ≤ peS l i ∧ peS l i ≤ l.length := by
  have := pe_le l (l.length - i) i
  unfold peS; omega
theorem peS_lt {l : List Int} {i : Nat} (h : endsS l i = false) : i < peS l i := by
  have hi : i < l.length := by unfold endsS at h; rw [decide_eq_false_iff_not] at h; omega
  rw [pe_step h]
  have := peS_le (l := l) (i := i + 1) (by omega)
  omega
theorem pe_all (l : List Int) : ∀ f i j, i ≤ j → j < peF l f i → endsS l j = false
  | 0, i, j, h1, h2 => by simp [peF] at h2; omega
  | f + 1, i, j, h1, h2 => by
    unfold peF at h2
    by_cases he : endsS l i = true
    · rw [if_pos he] at h2; omega
    · rw [if_neg he] at h2
      by_cases q : j = i
      · subst q; simpa using he
      · exact pe_all l f (i + 1) j (by omega) h2
theorem pe_end (l : List Int) : ∀ f i, l.length ≤ i + f → endsS l (peF l f i) = true
  | 0, i, h => by unfold peF endsS; rw [decide_eq_true]; omega
  | f + 1, i, h => by
    unfold peF
    by_cases he : endsS l i = true
    · rw [if_pos he]; exact he
    · rw [if_neg he]; exact pe_end l f (i + 1) (by omega)
abbrev Wd := Int × Nat × Nat
def skipS (l : List Int) (i : Nat) : Bool := decide (blankS (l.getD i 0) = true ∧ quoS l i = 0)
def isOp (l : List Int) (i n : Nat) : Bool := decide (i + n < l.length ∧ quoS l (i + n) = 0 ∧ operS (l.getD (i + n) 0) = true)
def wordsF (l : List Int) : Nat → Nat → List Wd
  | 0, _ => []
  | f + 1, i =>
    if i < l.length then
      if skipS l i then wordsF l f (i + 1)
      else if isOp l i (digS l i) then (1, i, i + digS l i + opS l (i + digS l i)) :: wordsF l f (i + digS l i + opS l (i + digS l i))
      else (0, i, peS l i) :: wordsF l f (peS l i)
    else []
def wordsAt (l : List Int) (i : Nat) : List Wd := wordsF l (l.length - i) i
def wordsS (l : List Int) : List Wd := wordsAt l 0
theorem plain_go {l : List Int} {i : Nat} (hi : i < l.length) (h1 : skipS l i = false) (h2 : isOp l i (digS l i) = false) : endsS l i = false := by
  unfold skipS at h1
  rw [decide_eq_false_iff_not] at h1
  unfold endsS
  rw [decide_eq_false]
  rintro (h | ⟨h3, h4⟩)
  · omega
  · have hc : operS (l.getD i 0) = true := by
      unfold classS at h4
      by_cases hb : blankS (l.getD i 0) = true
      · exact absurd ⟨hb, h3⟩ h1
      · rw [if_neg hb] at h4
        by_cases ho : operS (l.getD i 0) = true
        · exact ho
        · rw [if_neg ho] at h4; exact absurd rfl h4
    have hd : digN l i = 0 := digN_stop (by
      unfold isDig; rw [decide_eq_false]
      unfold operS at hc; rw [decide_eq_true_eq] at hc; omega)
    have hn : digS l i = 0 := by unfold digS; rw [if_pos]; exact .inl hd
    rw [hn] at h2
    unfold isOp at h2; rw [decide_eq_false_iff_not] at h2
    exact h2 ⟨hi, h3, hc⟩
theorem wordsF_fuel (l : List Int) : ∀ (f g i : Nat), l.length ≤ i + f → l.length ≤ i + g → wordsF l f i = wordsF l g i
  | 0, 0, _, _, _ => rfl
  | 0, g + 1, i, h, _ => by unfold wordsF; rw [if_neg (by omega)]
  | f + 1, 0, i, _, h => by unfold wordsF; rw [if_neg (by omega)]
  | f + 1, g + 1, i, h1, h2 => by
    unfold wordsF
    by_cases hi : i < l.length
    · rw [if_pos hi, if_pos hi]
      by_cases hs : skipS l i = true
      · rw [if_pos hs, if_pos hs]; exact wordsF_fuel l f g _ (by omega) (by omega)
      · rw [if_neg hs, if_neg hs]
        by_cases ho : isOp l i (digS l i) = true
        · rw [if_pos ho, if_pos ho]
          have := opS_pos l (i + digS l i)
          rw [wordsF_fuel l f g _ (by omega) (by omega)]
        · rw [if_neg ho, if_neg ho]
          have := peS_lt (plain_go hi (by simpa using hs) (by simpa using ho))
          rw [wordsF_fuel l f g _ (by omega) (by omega)]
    · rw [if_neg hi, if_neg hi]
theorem wordsAt_end {l : List Int} {i : Nat} (h : ¬ i < l.length) : wordsAt l i = [] := by
  unfold wordsAt; rw [show l.length - i = 0 by omega]; rfl
theorem wordsAt_skip {l : List Int} {i : Nat} (hi : i < l.length) (h : skipS l i = true) : wordsAt l i = wordsAt l (i + 1) := by
  unfold wordsAt
  rw [show l.length - i = (l.length - (i + 1)) + 1 by omega, wordsF, if_pos hi, if_pos h]
theorem wordsAt_op {l : List Int} {i : Nat} (hi : i < l.length) (h : skipS l i = false) (h2 : isOp l i (digS l i) = true) :
    wordsAt l i = (1, i, i + digS l i + opS l (i + digS l i)) :: wordsAt l (i + digS l i + opS l (i + digS l i)) := by
  unfold wordsAt
  rw [show l.length - i = (l.length - (i + 1)) + 1 by omega, wordsF, if_pos hi, if_neg (by simp [h]), if_pos h2]
  have := opS_pos l (i + digS l i)
  rw [wordsF_fuel l _ (l.length - (i + digS l i + opS l (i + digS l i))) _ (by omega) (by omega)]
theorem wordsAt_plain {l : List Int} {i : Nat} (hi : i < l.length) (h : skipS l i = false) (h2 : isOp l i (digS l i) = false) : wordsAt l i = (0, i, peS l i) :: wordsAt l (peS l i) := by
  unfold wordsAt
  rw [show l.length - i = (l.length - (i + 1)) + 1 by omega, wordsF, if_pos hi, if_neg (by simp [h]), if_neg (by simp [h2])]
  have := peS_lt (plain_go hi h h2)
  rw [wordsF_fuel l _ (l.length - peS l i) _ (by omega) (by omega)]
theorem wordsF_len (l : List Int) : ∀ f i, (wordsF l f i).length ≤ f
  | 0, _ => Nat.le_refl 0
  | f + 1, i => by
    unfold wordsF
    split
    · split
      · have := wordsF_len l f (i + 1); omega
      · split
        · simp only [List.length_cons]; have := wordsF_len l f (i + digS l i + opS l (i + digS l i)); omega
        · simp only [List.length_cons]; have := wordsF_len l f (peS l i); omega
    · simp
theorem wordsS_len (l : List Int) : (wordsS l).length ≤ l.length := by have := wordsF_len l (l.length - 0) 0; unfold wordsS wordsAt; omega
end Go.Proofs.Ytgoopiakpbcgoaa
