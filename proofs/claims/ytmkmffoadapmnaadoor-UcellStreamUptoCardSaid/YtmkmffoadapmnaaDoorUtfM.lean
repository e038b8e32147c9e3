/- Runes of bytes, plainly: how a form begins, what it says; piece by piece; there and back. -/
import Derived.Test.YtmkmffoadapmnaaDoorTab
import Derived.Lib.RuneBytes
set_option linter.unusedSimpArgs false
set_option linter.unusedVariables false
namespace Go.Proofs.YtmkmffoadapmnaaDoor
def needM (x : Int) : Nat := if x < 128 then 1 else if 194 ≤ x ∧ x ≤ 223 then 2 else if 224 ≤ x ∧ x ≤ 239 then 3 else if 240 ≤ x ∧ x ≤ 244 then 4 else 0
def lowM (x : Int) : Int := if x = 224 then 160 else if x = 240 then 144 else 128
def highM (x : Int) : Int := if x = 237 then 159 else if x = 244 then 143 else 191
/-- Number j of the bytes may stand there. -/
def okAt (b : List Int) (j : Nat) : Bool := j == 0 || (decide (128 ≤ b.getD j 0 ∧ b.getD j 0 ≤ 191) && (j != 1 || decide (lowM (b.getD 0 0) ≤ b.getD 1 0 ∧ b.getD 1 0 ≤ highM (b.getD 0 0))))
def goodB (b : List Int) : Nat → Bool
  | 0 => true
  | k + 1 => goodB b k && okAt b k
/-- How many bytes of a form stand there, how many it has. -/
def headM (b : List Int) : Nat × Nat := if b = [] then (0, 0) else if needM (b.getD 0 0) = 0 then (0, 0) else if goodB b (min (needM (b.getD 0 0)) b.length) then (min (needM (b.getD 0 0)) b.length, needM (b.getD 0 0)) else (0, needM (b.getD 0 0))
def valM (b : List Int) (n : Nat) : Int :=
  if n = 1 then b.getD 0 0 else if n = 2 then b.getD 0 0 % 32 * 64 + b.getD 1 0 % 64 else if n = 3 then b.getD 0 0 % 16 * 4096 + b.getD 1 0 % 64 * 64 + b.getD 2 0 % 64
  else b.getD 0 0 % 8 * 262144 + b.getD 1 0 % 64 * 4096 + b.getD 2 0 % 64 * 64 + b.getD 3 0 % 64
def wholeM (b : List Int) : Bool := decide ((headM b).1 = (headM b).2 ∧ 0 < (headM b).2)
def decM (b : List Int) : Int × Nat := if wholeM b then (valM b (headM b).2, (headM b).2) else (65533, 1)
/-- A beginning of a form, and no more. -/
def partM (b : List Int) : Bool := decide (0 < (headM b).1 ∧ (headM b).1 < (headM b).2)
def runesF : Nat → List Int → List Int
  | 0, _ => []
  | f + 1, b => if b = [] then [] else (decM b).1 :: runesF f (b.drop (decM b).2)
def runesM (b : List Int) : List Int := runesF b.length b
def putF : Nat → List Int → List Int × List Int
  | 0, b => ([], b)
  | f + 1, b => if b = [] ∨ partM b = true then ([], b) else ((decM b).1 :: (putF f (b.drop (decM b).2)).1, (putF f (b.drop (decM b).2)).2)
def putM (b : List Int) : List Int × List Int := putF b.length b
def bytesM (l : List Int) : List Int := l.flatMap Lib.encodeRuneZ
def Byts (b : List Int) : Prop := ∀ x ∈ b, 0 ≤ x ∧ x < 256

theorem needM_le (x : Int) : needM x ≤ 4 := by unfold needM; repeat' split <;> try omega
theorem goodB_mono {b : List Int} {k m : Nat} (h : goodB b k = true) (hm : m ≤ k) : goodB b m = true := by
  induction k with
  | zero => obtain rfl : m = 0 := by omega
            exact h
  | succ k ih =>
    simp only [goodB, Bool.and_eq_true] at h
    by_cases e : m = k + 1
    · subst e; simp only [goodB, Bool.and_eq_true]; exact h
    · exact ih h.1 (by omega)
theorem getD_app {b c : List Int} {j : Nat} (h : j < b.length) : (b ++ c).getD j 0 = b.getD j 0 := by rw [List.getD_eq_getElem?_getD, List.getD_eq_getElem?_getD, List.getElem?_append_left h]
theorem okAt_app {b c : List Int} {j : Nat} (h : j < b.length) : okAt (b ++ c) j = okAt b j := by
  unfold okAt
  rcases Nat.lt_or_ge 0 j with hj | hj
  · rw [getD_app h, getD_app (show 0 < b.length by omega)]
    by_cases h1 : j = 1
    · rw [getD_app (show 1 < b.length by omega)]
    · rw [show (j != 1) = true from by simpa using h1, Bool.true_or, Bool.true_or]
  · obtain rfl : j = 0 := by omega
    rfl
theorem goodB_app {b c : List Int} {k : Nat} (h : k ≤ b.length) : goodB (b ++ c) k = goodB b k := by
  induction k with
  | zero => rfl
  | succ k ih => simp only [goodB]; rw [ih (by omega), okAt_app (by omega)]
theorem headM_snd {b : List Int} (hb : b ≠ []) : (headM b).2 = needM (b.getD 0 0) := by
  unfold headM; rw [if_neg hb]; split
  · rename_i h; rw [h]
  · split <;> rfl
theorem headM_fst_le {b : List Int} : (headM b).1 ≤ b.length ∧ (headM b).1 ≤ (headM b).2 := by
  unfold headM; split
  · exact ⟨Nat.zero_le _, Nat.le_refl _⟩
  · split
    · exact ⟨Nat.zero_le _, Nat.le_refl _⟩
    · split
      · exact ⟨Nat.min_le_right _ _, Nat.min_le_left _ _⟩
      · exact ⟨Nat.zero_le _, Nat.zero_le _⟩
theorem wholeM_len {b : List Int} (h : wholeM b = true) : 1 ≤ (headM b).2 ∧ (headM b).2 ≤ b.length ∧ (headM b).2 ≤ 4 ∧ b ≠ [] := by
  unfold wholeM at h; simp only [decide_eq_true_eq] at h
  have h1 := headM_fst_le (b := b)
  have hb : b ≠ [] := by rintro rfl; exact absurd h.2 (by decide)
  refine ⟨h.2, by omega, ?_, hb⟩
  rw [headM_snd hb]; exact needM_le _
theorem decM_len {b : List Int} (hb : b ≠ []) : 1 ≤ (decM b).2 ∧ (decM b).2 ≤ b.length ∧ (decM b).2 ≤ 4 := by
  have := List.length_pos_iff.2 hb
  unfold decM; split
  · rename_i h; have := wholeM_len h; exact ⟨this.1, this.2.1, this.2.2.1⟩
  · exact ⟨Nat.le_refl _, this, by decide⟩
/-- What is no mere beginning says what it says, whatever comes behind it. -/
theorem head_app {b c : List Int} (hb : b ≠ []) (hp : partM b = false) : wholeM (b ++ c) = wholeM b ∧ (wholeM b = true → headM (b ++ c) = headM b) := by
  have hl := List.length_pos_iff.2 hb
  have hbc : b ++ c ≠ [] := by simp [hb]
  have h0 : (b ++ c).getD 0 0 = b.getD 0 0 := getD_app hl
  have key : wholeM b = true → headM (b ++ c) = headM b := fun hw => by
    have hn := wholeM_len hw
    rw [headM_snd hb] at hn
    have hg : goodB b (min (needM (b.getD 0 0)) b.length) = true := by
      unfold wholeM at hw; simp only [decide_eq_true_eq] at hw
      have h2 := headM_snd hb
      unfold headM at hw h2
      rw [if_neg hb, if_neg (show ¬ needM (b.getD 0 0) = 0 by omega)] at hw
      by_cases hg : goodB b (min (needM (b.getD 0 0)) b.length) = true
      · exact hg
      · rw [if_neg hg] at hw; simp only at hw; omega
    unfold headM
    rw [if_neg hbc, if_neg hb, h0, if_neg (show ¬ needM (b.getD 0 0) = 0 by omega), if_neg (show ¬ needM (b.getD 0 0) = 0 by omega)]
    rw [Nat.min_eq_left hn.2.1] at hg ⊢
    rw [Nat.min_eq_left (by rw [List.length_append]; omega), goodB_app hn.2.1]
  refine ⟨?_, key⟩
  by_cases hw : wholeM b = true
  · have := key hw
    unfold wholeM at hw ⊢; rw [this]
  · have hw' : wholeM b = false := by simpa using hw
    rw [hw']
    unfold wholeM at hw ⊢
    simp only [decide_eq_true_eq, decide_eq_false_iff_not] at hw ⊢
    unfold partM at hp; simp only [decide_eq_false_iff_not] at hp
    have hle := headM_fst_le (b := b)
    intro hc
    apply hw
    rw [headM_snd hbc, h0] at hc
    rw [headM_snd hb] at hp hw hle ⊢
    have hn : 0 < needM (b.getD 0 0) := hc.2
    -- a beginning of it is good as far as it goes
    have hg : goodB (b ++ c) (min (needM (b.getD 0 0)) (b ++ c).length) = true := by
      have hc1 := hc.1
      unfold headM at hc1
      rw [if_neg hbc, h0, if_neg (show ¬ needM (b.getD 0 0) = 0 by omega)] at hc1
      by_cases hg : goodB (b ++ c) (min (needM (b.getD 0 0)) (b ++ c).length) = true
      · exact hg
      · rw [if_neg hg] at hc1; simp only at hc1; omega
    have hg2 : goodB b (min (needM (b.getD 0 0)) b.length) = true := by
      rw [← goodB_app (c := c) (Nat.min_le_right _ _)]
      exact goodB_mono hg (by rw [List.length_append]; omega)
    have h1 : (headM b).1 = min (needM (b.getD 0 0)) b.length := by
      unfold headM; rw [if_neg hb, if_neg (show ¬ needM (b.getD 0 0) = 0 by omega), if_pos hg2]
    rw [h1] at hp ⊢
    refine ⟨?_, hn⟩
    rcases Nat.le_total (needM (b.getD 0 0)) b.length with h | h
    · rw [Nat.min_eq_left h]
    · rw [Nat.min_eq_right h] at hp ⊢; omega
theorem valM_app {b c : List Int} {n : Nat} (h1 : 1 ≤ n) (h : n ≤ b.length) (h4 : n ≤ 4) : valM (b ++ c) n = valM b n := by
  unfold valM
  rw [getD_app (show 0 < b.length by omega)]
  by_cases e1 : n = 1
  · simp [e1]
  · rw [if_neg e1, if_neg e1, getD_app (show 1 < b.length by omega)]
    by_cases e2 : n = 2
    · simp [e2]
    · rw [if_neg e2, if_neg e2, getD_app (show 2 < b.length by omega)]
      by_cases e3 : n = 3
      · simp [e3]
      · rw [if_neg e3, if_neg e3, getD_app (show 3 < b.length by omega)]
theorem decM_app {b c : List Int} (hb : b ≠ []) (hp : partM b = false) : decM (b ++ c) = decM b := by
  obtain ⟨h1, h2⟩ := head_app (c := c) hb hp
  unfold decM
  rw [h1]
  by_cases hw : wholeM b = true
  · have hn := wholeM_len hw
    rw [if_pos hw, if_pos hw, h2 hw, valM_app hn.1 hn.2.1 hn.2.2.1]
  · rw [if_neg hw, if_neg hw]
theorem runesF_fuel : ∀ (f g : Nat) (b : List Int), b.length ≤ f → b.length ≤ g → runesF f b = runesF g b := by
  intro f
  induction f with
  | zero => intro g b h1 h2; obtain rfl : b = [] := List.eq_nil_of_length_eq_zero (by omega); cases g <;> simp [runesF]
  | succ f ih =>
    intro g b h1 h2
    cases g with
    | zero => obtain rfl : b = [] := List.eq_nil_of_length_eq_zero (by omega); simp [runesF]
    | succ g =>
      unfold runesF
      by_cases hb : b = []
      · simp [hb]
      · rw [if_neg hb, if_neg hb]
        have := decM_len hb
        rw [ih g (b.drop (decM b).2) (by simp; omega) (by simp; omega)]
theorem runesM_nil : runesM [] = [] := rfl
theorem runesM_step {b : List Int} (hb : b ≠ []) : runesM b = (decM b).1 :: runesM (b.drop (decM b).2) := by
  have h := decM_len hb
  have hl := List.length_pos_iff.2 hb
  unfold runesM
  obtain ⟨n, hn⟩ : ∃ n, b.length = n + 1 := ⟨b.length - 1, by omega⟩
  rw [hn, show runesF (n + 1) b = if b = [] then [] else (decM b).1 :: runesF n (b.drop (decM b).2) from rfl, if_neg hb, runesF_fuel n (b.drop (decM b).2).length _ (by simp; omega) (Nat.le_refl _)]
theorem runesM_len (b : List Int) : (runesM b).length ≤ b.length := by
  induction hn : b.length using Nat.strongRecOn generalizing b with
  | _ n ih =>
    by_cases hb : b = []
    · subst hb; simp [runesM_nil]
    · have h := decM_len hb
      rw [runesM_step hb, List.length_cons]
      have := ih (b.drop (decM b).2).length (by simp; omega) _ rfl
      simp at this
      omega
theorem putF_fuel : ∀ (f g : Nat) (b : List Int), b.length ≤ f → b.length ≤ g → putF f b = putF g b := by
  intro f
  induction f with
  | zero => intro g b h1 h2; obtain rfl : b = [] := List.eq_nil_of_length_eq_zero (by omega); cases g <;> simp [putF]
  | succ f ih =>
    intro g b h1 h2
    cases g with
    | zero => obtain rfl : b = [] := List.eq_nil_of_length_eq_zero (by omega); simp [putF]
    | succ g =>
      unfold putF
      by_cases hb : b = [] ∨ partM b = true
      · rw [if_pos hb, if_pos hb]
      · rw [if_neg hb, if_neg hb]
        have := decM_len (b := b) (fun e => hb (.inl e))
        rw [ih g (b.drop (decM b).2) (by simp; omega) (by simp; omega)]
theorem putM_stop {b : List Int} (h : b = [] ∨ partM b = true) : putM b = ([], b) := by
  unfold putM
  cases hn : b.length with
  | zero => rfl
  | succ n => unfold putF; rw [if_pos h]
theorem putM_step {b : List Int} (hb : b ≠ []) (hp : partM b = false) : putM b = ((decM b).1 :: (putM (b.drop (decM b).2)).1, (putM (b.drop (decM b).2)).2) := by
  have h := decM_len hb
  have hl := List.length_pos_iff.2 hb
  unfold putM
  obtain ⟨n, hn⟩ : ∃ n, b.length = n + 1 := ⟨b.length - 1, by omega⟩
  rw [hn, show putF (n + 1) b = if b = [] ∨ partM b = true then ([], b) else ((decM b).1 :: (putF n (b.drop (decM b).2)).1, (putF n (b.drop (decM b).2)).2) from rfl, if_neg (by simp [hb, hp]), putF_fuel n (b.drop (decM b).2).length _ (by simp; omega) (Nat.le_refl _)]
theorem part_len {b : List Int} (h : partM b = true) : b.length ≤ 3 := by
  unfold partM at h; simp only [decide_eq_true_eq] at h
  have hb : b ≠ [] := by rintro rfl; exact absurd h.1 (by decide)
  have h4 := needM_le (b.getD 0 0)
  rw [headM_snd hb] at h
  unfold headM at h
  rw [if_neg hb] at h
  split at h
  · simp only at h; omega
  · split at h
    · simp only at h
      rcases Nat.le_total (needM (b.getD 0 0)) b.length with e | e
      · rw [Nat.min_eq_left e] at h; omega
      · rw [Nat.min_eq_right e] at h; omega
    · simp only at h; omega
theorem putM_end (b : List Int) : (putM b).2 = [] ∨ partM (putM b).2 = true := by
  induction hn : b.length using Nat.strongRecOn generalizing b with
  | _ n ih =>
    by_cases hs : b = [] ∨ partM b = true
    · rw [putM_stop hs]; exact hs
    · have hb : b ≠ [] := fun e => hs (.inl e)
      have hp : partM b = false := by cases h : partM b <;> simp_all
      have h := decM_len hb
      have hl := List.length_pos_iff.2 hb
      rw [putM_step hb hp]
      exact ih (b.drop (decM b).2).length (by simp; omega) _ rfl
theorem putM_held (b : List Int) : (putM b).2.length ≤ 3 := by
  rcases putM_end b with h | h
  · rw [h]; decide
  · exact part_len h
theorem putM_len (b : List Int) : (putM b).1.length + (putM b).2.length ≤ b.length := by
  induction hn : b.length using Nat.strongRecOn generalizing b with
  | _ n ih =>
    by_cases hs : b = [] ∨ partM b = true
    · rw [putM_stop hs]; simp; omega
    · have hb : b ≠ [] := fun e => hs (.inl e)
      have hp : partM b = false := by cases h : partM b <;> simp_all
      have h := decM_len hb
      have hl := List.length_pos_iff.2 hb
      have := ih (b.drop (decM b).2).length (by simp; omega) _ rfl
      rw [putM_step hb hp]
      simp at this ⊢
      omega
/-- Piece by piece it is the whole. -/
theorem runes_put (b c : List Int) : runesM (b ++ c) = (putM b).1 ++ runesM ((putM b).2 ++ c) := by
  induction hn : b.length using Nat.strongRecOn generalizing b with
  | _ n ih =>
    by_cases hs : b = [] ∨ partM b = true
    · rw [putM_stop hs]; rfl
    · have hb : b ≠ [] := fun e => hs (.inl e)
      have hp : partM b = false := by cases h : partM b <;> simp_all
      have h := decM_len hb
      have hl := List.length_pos_iff.2 hb
      rw [putM_step hb hp, runesM_step (by simp [hb]), decM_app hb hp, List.drop_append_of_le_length h.2.1, ih (b.drop (decM b).2).length (by simp; omega) _ rfl]
      rfl
theorem putM_byts {b : List Int} (h : Byts b) : Byts (putM b).2 := by
  induction hn : b.length using Nat.strongRecOn generalizing b with
  | _ n ih =>
    by_cases hs : b = [] ∨ partM b = true
    · rw [putM_stop hs]; exact h
    · have hb : b ≠ [] := fun e => hs (.inl e)
      have hp : partM b = false := by cases h : partM b <;> simp_all
      have h9 := decM_len hb
      have hl := List.length_pos_iff.2 hb
      rw [putM_step hb hp]
      exact ih (b.drop (decM b).2).length (by simp; omega) (fun x hx => h x (List.mem_of_mem_drop hx)) rfl
end Go.Proofs.YtmkmffoadapmnaaDoor
