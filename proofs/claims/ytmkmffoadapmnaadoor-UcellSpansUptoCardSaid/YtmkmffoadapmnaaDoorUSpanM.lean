/- Places of two lists are those of both, plainly. -/
import Derived.Test.YtmkmffoadapmnaaDoorUWideM
set_option linter.unusedSimpArgs false
set_option linter.unusedVariables false
namespace Go.Proofs.YtmkmffoadapmnaaDoor
/-- Some place has a text. -/
def NE (cs : List Cel) : Prop := ∃ j, j < cs.length ∧ 1 ≤ sAt cs j
theorem NE.app {cs ds : List Cel} (h : NE cs) : NE (cs ++ ds) := by
  obtain ⟨j, hj, hs⟩ := h
  exact ⟨j, by rw [List.length_append]; omega, by unfold sAt at *; rw [cget_app hj]; exact hs⟩
theorem NE.add {cs ds : List Cel} {c : Cel} (h : 1 ≤ c.1.size) : NE (cs ++ c :: ds) := by
  refine ⟨cs.length, by rw [List.length_append, List.length_cons]; omega, ?_⟩
  unfold sAt; rw [cget_at (j := 0) (by omega)]; exact h
theorem NE.join {s : ByteArray} : ∀ (k : Nat) {cs : List Cel}, k ≤ cs.length → (∃ j, j < k ∧ 1 ≤ sAt cs j) → (joinF k cs s).length = cs.length ∧ NE (joinF k cs s) := by
  intro k
  induction k with
  | zero => intro cs _ h; obtain ⟨j, hj, _⟩ := h; omega
  | succ k ih =>
    intro cs hk h
    obtain ⟨j, hj, hs⟩ := h
    unfold joinF
    by_cases h0 : (cs.getD k (emptyS, 0)).1.toList = []
    · rw [if_pos h0]
      refine ih (by omega) ⟨j, ?_, hs⟩
      have hz : sAt cs k = 0 := size_zero.1 h0
      rcases Nat.lt_or_ge j k with q | q
      · exact q
      · obtain rfl : j = k := by omega
        omega
    · rw [if_neg h0]
      have hn : 1 ≤ sAt cs k := by
        rcases Nat.eq_zero_or_pos (sAt cs k) with q | q
        · exact absurd (size_zero.2 q) h0
        · exact q
      by_cases h3 : (cs.getD k (emptyS, 0)).1.size ≤ 32
      · rw [if_pos h3]
        refine ⟨List.length_set .., k, by rw [List.length_set]; omega, ?_⟩
        unfold sAt at *
        rw [cget_set (by omega), if_pos rfl, ByteArray.size_append]
        omega
      · rw [if_neg h3]; exact ⟨rfl, k, by omega, hn⟩
/-- A rune that joins the place ahead of it. -/
def joinsC (r : Int) : Prop := controlM r = false ∧ validM r = true ∧ widthM r = 0
/-- How many places a rune takes behind some. -/
def dF (p : Nat) (r : Int) : Nat :=
  if r = 9 then 8 - p % 8 else if 0 ≤ r ∧ r < 32 ∨ r = 127 then 2 else if validM r = false ∨ controlM r = true then 1 else if widthM r = 0 then 0 else if widthM r = 2 then 2 else 1
theorem dF_mod (p : Nat) (r : Int) : dF (p % 8) r = dF p r := by unfold dF; rw [Nat.mod_mod]
def lenF : Nat → List Int → Nat
  | _, [] => 0
  | p, r :: l => dF p r + lenF (p + dF p r) l
theorem lenF_mod : ∀ (l : List Int) (p q : Nat), p % 8 = q % 8 → lenF p l = lenF q l := by
  intro l
  induction l with
  | nil => intros; rfl
  | cons r l ih =>
    intro p q h
    have e : dF p r = dF q r := by rw [← dF_mod p, ← dF_mod q, h]
    unfold lenF
    rw [e, ih (p + dF q r) (q + dF q r) (by omega)]
theorem step_own {cs : List Cel} (col : Nat) (r : Int) (h : NE cs ∨ ¬ joinsC r) : (stepC col cs r).length = cs.length + dF (col + cs.length) r ∧ NE (stepC col cs r) := by
  have hz := enc_size r
  unfold stepC dF
  by_cases h1 : r = 9
  · rw [if_pos h1, if_pos h1]
    refine ⟨by rw [List.length_append, List.length_replicate], ?_⟩
    obtain ⟨n, e⟩ : ∃ n, 8 - (col + cs.length) % 8 = n + 1 := ⟨7 - (col + cs.length) % 8, by omega⟩
    rw [e, List.replicate_succ]
    exact NE.add (by decide)
  · rw [if_neg h1, if_neg h1]
    by_cases h2 : 0 ≤ r ∧ r < 32 ∨ r = 127
    · rw [if_pos h2, if_pos h2]; exact ⟨by simp, NE.add (by decide)⟩
    · rw [if_neg h2, if_neg h2]
      by_cases h3 : validM r = false ∨ controlM r = true
      · rw [if_pos h3, if_pos h3]; exact ⟨by simp, NE.add (by decide)⟩
      · rw [if_neg h3, if_neg h3]
        by_cases h4 : widthM r = 0
        · rw [if_pos h4, if_pos h4]
          rcases h with h | h
          · exact NE.join _ (Nat.le_refl _) h
          · exact absurd ⟨by cases q : controlM r <;> simp_all, by cases q : validM r <;> simp_all, h4⟩ h
        · rw [if_neg h4, if_neg h4]
          by_cases h5 : widthM r = 2
          · rw [if_pos h5, if_pos h5]; exact ⟨by simp, NE.add hz.1⟩
          · rw [if_neg h5, if_neg h5]; exact ⟨by simp, NE.add hz.1⟩
theorem fold_len (col : Nat) : ∀ (l : List Int) {cs : List Cel}, NE cs → (l.foldl (stepC col) cs).length = cs.length + lenF (col + cs.length) l := by
  intro l
  induction l with
  | nil => intro cs _; rfl
  | cons r l ih =>
    intro cs h
    have hs := step_own col r (.inl h)
    rw [List.foldl_cons, ih hs.2, hs.1]
    show _ = cs.length + (dF (col + cs.length) r + lenF (col + cs.length + dF (col + cs.length) r) l)
    rw [show col + (cs.length + dF (col + cs.length) r) = col + cs.length + dF (col + cs.length) r by omega]
    omega
theorem spans_len {a b : List Int} {col : Int} (h0 : 0 ≤ col) (h : b = [] ∨ ¬ joinsC (b.getD 0 0)) : (cellsM (a ++ b) col).length = (cellsM a col).length + (cellsM b (col + ((cellsM a col).length : Nat))).length := by
  cases b with
  | nil => rw [List.append_nil]; rfl
  | cons r l =>
    have hr : ¬ joinsC r := by rcases h with h | h; cases h; simpa using h
    have e : cellsM (a ++ r :: l) col = l.foldl (stepC (colM col)) (stepC (colM col) (cellsM a col) r) := by
      unfold cellsM cellsF; rw [List.foldl_append, List.foldl_cons]
    have e2 : cellsM (r :: l) (col + ((cellsM a col).length : Nat)) = l.foldl (stepC (colM (col + ((cellsM a col).length : Nat)))) (stepC (colM (col + ((cellsM a col).length : Nat))) [] r) := by
      unfold cellsM cellsF; rw [List.foldl_cons]
    have hc : (colM col + (cellsM a col).length) % 8 = colM (col + ((cellsM a col).length : Nat)) % 8 := by unfold colM; omega
    rw [e, e2]
    have s1 := step_own (cs := cellsM a col) (colM col) r (.inr hr)
    have s2 := step_own (cs := []) (colM (col + ((cellsM a col).length : Nat))) r (.inr hr)
    rw [fold_len _ _ s1.2, fold_len _ _ s2.2, s1.1, s2.1]
    have d1 : dF (colM col + (cellsM a col).length) r = dF (colM (col + ((cellsM a col).length : Nat)) + ([] : List Cel).length) r := by
      rw [← dF_mod, hc, dF_mod, List.length_nil, Nat.add_zero]
    rw [d1, List.length_nil, Nat.zero_add, Nat.add_assoc]
    congr 1
    congr 1
    exact lenF_mod l _ _ (by rw [List.length_nil] at d1; rw [Nat.add_zero] at *; omega)
end Go.Proofs.YtmkmffoadapmnaaDoor
