/- There and back, plainly: runes written are read again. -/
import Derived.Test.YtmkmffoadapmnaaDoorUtf5
set_option linter.unusedSimpArgs false
set_option linter.unusedVariables false
namespace Go.Proofs.YtmkmffoadapmnaaDoor
theorem valid_iff {r : Int} : validM r = true ↔ (0 ≤ r ∧ r < 55296 ∨ 57343 < r ∧ r ≤ 1114111) := by unfold validM; rw [decide_eq_true_eq]
theorem need2 {x : Int} (h : 194 ≤ x ∧ x ≤ 223) : needM x = 2 := by unfold needM; rw [if_neg (by omega), if_pos h]
theorem need3 {x : Int} (h : 224 ≤ x ∧ x ≤ 239) : needM x = 3 := by unfold needM; rw [if_neg (by omega), if_neg (by omega), if_pos h]
theorem need4 {x : Int} (h : 240 ≤ x ∧ x ≤ 244) : needM x = 4 := by unfold needM; rw [if_neg (by omega), if_neg (by omega), if_neg (by omega), if_pos h]
theorem need_inv {x : Int} (h0 : 0 ≤ x) : (needM x = 1 ∧ x < 128) ∨ (needM x = 2 ∧ 194 ≤ x ∧ x ≤ 223) ∨ (needM x = 3 ∧ 224 ≤ x ∧ x ≤ 239) ∨ (needM x = 4 ∧ 240 ≤ x ∧ x ≤ 244) ∨ needM x = 0 := by
  unfold needM
  by_cases h1 : x < 128
  · rw [if_pos h1]; omega
  · rw [if_neg h1]
    by_cases h2 : 194 ≤ x ∧ x ≤ 223
    · rw [if_pos h2]; omega
    · rw [if_neg h2]
      by_cases h3 : 224 ≤ x ∧ x ≤ 239
      · rw [if_pos h3]; omega
      · rw [if_neg h3]
        by_cases h4 : 240 ≤ x ∧ x ≤ 244
        · rw [if_pos h4]; omega
        · rw [if_neg h4]; omega
/-- A rune's form is read as the rune, whatever stands behind it. -/
theorem dec_enc {r : Int} (h : validM r = true) (c : List Int) : decM (Lib.encodeRuneZ r ++ c) = (r, (Lib.encodeRuneZ r).length) := by
  have hv := valid_iff.1 h
  by_cases h1 : r < 128
  · rw [Lib.encodeRuneZ_one (by omega) (by omega)]
    exact decM_ascii (by simp) h1
  · by_cases h2 : r < 2048
    · rw [Lib.encodeRuneZ_two (by omega) (by omega)]
      have e : ([192 + r / 64, 128 + r % 64] ++ c : List Int) = (192 + r / 64) :: (128 + r % 64) :: c := rfl
      rw [e]
      have hl : lowM (192 + r / 64) = 128 := by unfold lowM; rw [if_neg (by omega), if_neg (by omega)]
      have hh : highM (192 + r / 64) = 191 := by unfold highM; rw [if_neg (by omega), if_neg (by omega)]
      have ho : okAt ((192 + r / 64) :: (128 + r % 64) :: c) 1 = true := ok1 (by show lowM (192 + r / 64) ≤ 128 + r % 64; omega) (by show 128 + r % 64 ≤ highM (192 + r / 64); omega)
      rw [decM_good (n := 2) (by simp) (need2 (by show 194 ≤ 192 + r / 64 ∧ 192 + r / 64 ≤ 223; omega)) (by decide) (by simp) (by simp only [goodB, ok0, ho, Bool.and_true])]
      refine Prod.ext ?_ rfl
      show valM _ 2 = r
      unfold valM
      rw [if_neg (by decide), if_pos rfl]
      show (192 + r / 64) % 32 * 64 + (128 + r % 64) % 64 = r
      omega
    · by_cases h3 : r < 65536
      · rw [Lib.encodeRuneZ_three (by omega)]
        have e : ([224 + r / 4096, 128 + r / 64 % 64, 128 + r % 64] ++ c : List Int) = (224 + r / 4096) :: (128 + r / 64 % 64) :: (128 + r % 64) :: c := rfl
        rw [e]
        have hl : lowM (224 + r / 4096) ≤ 128 + r / 64 % 64 := by unfold lowM; split <;> (try split) <;> omega
        have hh : 128 + r / 64 % 64 ≤ highM (224 + r / 4096) := by unfold highM; split <;> (try split) <;> omega
        have ho : okAt ((224 + r / 4096) :: (128 + r / 64 % 64) :: (128 + r % 64) :: c) 1 = true := ok1 hl hh
        have hp : okAt ((224 + r / 4096) :: (128 + r / 64 % 64) :: (128 + r % 64) :: c) 2 = true := okj (by decide) (by show 128 ≤ 128 + r % 64 ∧ 128 + r % 64 ≤ 191; omega)
        rw [decM_good (n := 3) (by simp) (need3 (by show 224 ≤ 224 + r / 4096 ∧ 224 + r / 4096 ≤ 239; omega)) (by decide) (by simp) (by simp only [goodB, ok0, ho, hp, Bool.and_true])]
        refine Prod.ext ?_ rfl
        show valM _ 3 = r
        unfold valM
        rw [if_neg (by decide), if_neg (by decide), if_pos rfl]
        show (224 + r / 4096) % 16 * 4096 + (128 + r / 64 % 64) % 64 * 64 + (128 + r % 64) % 64 = r
        omega
      · rw [Lib.encodeRuneZ_four (by omega) (by omega)]
        have e : ([240 + r / 262144, 128 + r / 4096 % 64, 128 + r / 64 % 64, 128 + r % 64] ++ c : List Int) = (240 + r / 262144) :: (128 + r / 4096 % 64) :: (128 + r / 64 % 64) :: (128 + r % 64) :: c := rfl
        rw [e]
        have hl : lowM (240 + r / 262144) ≤ 128 + r / 4096 % 64 := by unfold lowM; split <;> (try split) <;> omega
        have hh : 128 + r / 4096 % 64 ≤ highM (240 + r / 262144) := by unfold highM; split <;> (try split) <;> omega
        have ho : okAt ((240 + r / 262144) :: (128 + r / 4096 % 64) :: (128 + r / 64 % 64) :: (128 + r % 64) :: c) 1 = true := ok1 hl hh
        have hp : okAt ((240 + r / 262144) :: (128 + r / 4096 % 64) :: (128 + r / 64 % 64) :: (128 + r % 64) :: c) 2 = true := okj (by decide) (by show 128 ≤ 128 + r / 64 % 64 ∧ 128 + r / 64 % 64 ≤ 191; omega)
        have hq : okAt ((240 + r / 262144) :: (128 + r / 4096 % 64) :: (128 + r / 64 % 64) :: (128 + r % 64) :: c) 3 = true := okj (by decide) (by show 128 ≤ 128 + r % 64 ∧ 128 + r % 64 ≤ 191; omega)
        rw [decM_good (n := 4) (by simp) (need4 (by show 240 ≤ 240 + r / 262144 ∧ 240 + r / 262144 ≤ 244; omega)) (by decide) (by simp) (by simp only [goodB, ok0, ho, hp, hq, Bool.and_true])]
        refine Prod.ext ?_ rfl
        show valM _ 4 = r
        unfold valM
        rw [if_neg (by decide), if_neg (by decide), if_neg (by decide)]
        show (240 + r / 262144) % 8 * 262144 + (128 + r / 4096 % 64) % 64 * 4096 + (128 + r / 64 % 64) % 64 * 64 + (128 + r % 64) % 64 = r
        omega
theorem bytesM_cons (r : Int) (l : List Int) : bytesM (r :: l) = Lib.encodeRuneZ r ++ bytesM l := rfl
theorem runes_bytes {l : List Int} (h : ∀ r ∈ l, validM r = true) : runesM (bytesM l) = l := by
  induction l with
  | nil => rfl
  | cons r l ih =>
    have hl := Lib.encodeRuneZ_length r
    have hne : bytesM (r :: l) ≠ [] := by
      rw [bytesM_cons]
      intro e
      have := congrArg List.length e
      rw [List.length_append, List.length_nil] at this
      omega
    rw [runesM_step hne, bytesM_cons, dec_enc (h r (by simp)), List.drop_left' rfl, ih fun x hx => h x (by simp [hx])]
theorem goodB_at {b : List Int} {k j : Nat} (h : goodB b k = true) (hj : j < k) : okAt b j = true := by
  have := goodB_mono h (m := j + 1) (by omega)
  simp only [goodB, Bool.and_eq_true] at this
  exact this.2
theorem okAt_cont {b : List Int} {j : Nat} (h : okAt b j = true) (hj : 0 < j) : 128 ≤ b.getD j 0 ∧ b.getD j 0 ≤ 191 := by
  unfold okAt at h
  simp only [Bool.or_eq_true, Bool.and_eq_true, decide_eq_true_eq] at h
  rcases h with h | h
  · simp at h; omega
  · exact h.1
theorem okAt_sec {b : List Int} (h : okAt b 1 = true) : lowM (b.getD 0 0) ≤ b.getD 1 0 ∧ b.getD 1 0 ≤ highM (b.getD 0 0) := by
  unfold okAt at h
  simp only [Bool.or_eq_true, Bool.and_eq_true, decide_eq_true_eq] at h
  rcases h with h | ⟨_, h | h⟩
  · simp at h
  · simp at h
  · exact h
theorem whole_good {b : List Int} (h : wholeM b = true) : (headM b).2 = needM (b.getD 0 0) ∧ goodB b (needM (b.getD 0 0)) = true := by
  have hn := wholeM_len h
  have h2 := headM_snd hn.2.2.2
  refine ⟨h2, ?_⟩
  rw [h2] at hn
  unfold wholeM at h; simp only [decide_eq_true_eq] at h
  rw [h2] at h
  have h1 := h.1
  unfold headM at h1
  rw [if_neg hn.2.2.2, if_neg (show ¬ needM (b.getD 0 0) = 0 by omega)] at h1
  by_cases hg : goodB b (min (needM (b.getD 0 0)) b.length) = true
  · rwa [Nat.min_eq_left hn.2.1] at hg
  · rw [if_neg hg] at h1; simp only at h1; omega
theorem decM_valid {b : List Int} (hb : Byts b) : validM (decM b).1 = true := by
  by_cases hw : wholeM b = true
  · obtain ⟨h1, h2⟩ := whole_good hw
    have hn := wholeM_len hw
    have y0 := byt_at hb 0
    unfold decM
    rw [if_pos hw, h1]
    rw [h1] at hn
    rw [valid_iff]
    rcases need_inv y0.1 with ⟨e, h⟩ | ⟨e, h⟩ | ⟨e, h⟩ | ⟨e, h⟩ | e
    · rw [e]; unfold valM; simp only [if_true]; omega
    · rw [e] at h2 ⊢
      have k1 := okAt_cont (goodB_at h2 (show 1 < 2 by decide)) (by decide)
      unfold valM; simp only [show ¬ (2 = 1) by decide, if_false, if_true]; omega
    · rw [e] at h2 ⊢
      have k1 := okAt_cont (goodB_at h2 (show 1 < 3 by decide)) (by decide)
      have k2 := okAt_cont (goodB_at h2 (show 2 < 3 by decide)) (by decide)
      have k3 := okAt_sec (goodB_at h2 (show 1 < 3 by decide))
      have hhi : b.getD 0 0 = 237 → b.getD 1 0 ≤ 159 := fun q => by
        have := k3.2; unfold highM at this; rw [if_pos q] at this; exact this
      unfold valM; simp only [show ¬ (3 = 1) by decide, show ¬ (3 = 2) by decide, if_false, if_true]; omega
    · rw [e] at h2 ⊢
      have k1 := okAt_cont (goodB_at h2 (show 1 < 4 by decide)) (by decide)
      have k2 := okAt_cont (goodB_at h2 (show 2 < 4 by decide)) (by decide)
      have k4 := okAt_cont (goodB_at h2 (show 3 < 4 by decide)) (by decide)
      have k3 := okAt_sec (goodB_at h2 (show 1 < 4 by decide))
      have hlo : b.getD 0 0 = 240 → 144 ≤ b.getD 1 0 := fun q => by
        have := k3.1; unfold lowM at this; rw [if_neg (by omega), if_pos q] at this; exact this
      have hhi : b.getD 0 0 = 244 → b.getD 1 0 ≤ 143 := fun q => by
        have := k3.2; unfold highM at this; rw [if_neg (by omega), if_pos q] at this; exact this
      unfold valM; simp only [show ¬ (4 = 1) by decide, show ¬ (4 = 2) by decide, show ¬ (4 = 3) by decide, if_false]; omega
    · omega
  · rw [decM_not (by simpa using hw)]; rfl
theorem runesM_valid {b : List Int} (hb : Byts b) : ∀ r ∈ runesM b, validM r = true := by
  induction hn : b.length using Nat.strongRecOn generalizing b with
  | _ n ih =>
    by_cases he : b = []
    · subst he; simp [runesM_nil]
    · have h := decM_len he
      rw [runesM_step he]
      intro r hr
      rcases List.mem_cons.1 hr with rfl | hr
      · exact decM_valid hb
      · exact ih (b.drop (decM b).2).length (by simp; omega) (byts_drop hb _) rfl r hr
theorem valid_32 {r : Int} (h : validM r = true) : -2147483648 ≤ r ∧ r < 2147483648 := by have := valid_iff.1 h; omega
theorem bytesM_byts (l : List Int) : Byts (bytesM l) := fun x hx => by
  obtain ⟨r, _, hx⟩ := List.mem_flatMap.1 hx
  exact Lib.encodeRuneZ_byte r x hx
end Go.Proofs.YtmkmffoadapmnaaDoor
