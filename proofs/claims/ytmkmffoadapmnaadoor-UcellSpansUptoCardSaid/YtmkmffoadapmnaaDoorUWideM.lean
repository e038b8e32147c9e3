/- Wide places are whole, plainly. -/
import Derived.Test.YtmkmffoadapmnaaDoorCellM
set_option linter.unusedSimpArgs false
set_option linter.unusedVariables false
namespace Go.Proofs.YtmkmffoadapmnaaDoor
def wAt (cs : List Cel) (k : Nat) : Int := (cs.getD k (emptyS, 0)).2
def sAt (cs : List Cel) (k : Nat) : Nat := (cs.getD k (emptyS, 0)).1.size
def WAt (cs : List Cel) (k : Nat) : Prop := (k ≠ 0 ∧ wAt cs (k - 1) = 2 ∧ wAt cs k = 0 ∧ sAt cs k = 0) ∨ ((k = 0 ∨ wAt cs (k - 1) ≠ 2) ∧ (wAt cs k = 1 ∨ wAt cs k = 2) ∧ 1 ≤ sAt cs k ∧ sAt cs k ≤ 36)
def WOk (cs : List Cel) : Prop := (∀ k, k < cs.length → WAt cs k) ∧ (cs.length = 0 ∨ wAt cs (cs.length - 1) ≠ 2)
theorem cget_app {cs ds : List Cel} {k : Nat} (h : k < cs.length) : (cs ++ ds).getD k (emptyS, 0) = cs.getD k (emptyS, 0) := by
  rw [List.getD_eq_getElem?_getD, List.getD_eq_getElem?_getD, List.getElem?_append_left h]
theorem cget_at {cs ds : List Cel} {k j : Nat} (h : k = cs.length + j) : (cs ++ ds).getD k (emptyS, 0) = ds.getD j (emptyS, 0) := by
  rw [List.getD_eq_getElem?_getD, List.getD_eq_getElem?_getD, List.getElem?_append_right (by omega), show k - cs.length = j by omega]
theorem WAt.app {cs ds : List Cel} {k : Nat} (hk : k < cs.length) (h : WAt cs k) : WAt (cs ++ ds) k := by
  unfold WAt wAt sAt at *
  rw [cget_app hk, cget_app (show k - 1 < cs.length by omega)]
  exact h
theorem WOk.nil : WOk [] := ⟨fun k hk => absurd hk (Nat.not_lt_zero _), .inl rfl⟩
theorem WOk.one {cs : List Cel} {s : ByteArray} (h : WOk cs) (h1 : 1 ≤ s.size) (h2 : s.size ≤ 36) : WOk (cs ++ [(s, 1)]) := by
  refine ⟨fun k hk => ?_, .inr ?_⟩
  · rw [List.length_append, List.length_singleton] at hk
    by_cases hc : k < cs.length
    · exact (h.1 k hc).app hc
    · have e : (cs ++ [(s, (1 : Int))]).getD k (emptyS, 0) = (s, 1) := cget_at (j := 0) (by omega)
      refine .inr ⟨?_, .inl (by unfold wAt; rw [e]), by unfold sAt; rw [e]; exact h1, by unfold sAt; rw [e]; exact h2⟩
      rcases h.2 with h0 | h0
      · exact .inl (by omega)
      · by_cases hz : k = 0
        · exact .inl hz
        · refine .inr ?_
          unfold wAt at *
          rw [cget_app (by omega), show k - 1 = cs.length - 1 by omega]
          exact h0
  · unfold wAt
    rw [cget_at (j := 0) (by simp)]
    show (1 : Int) ≠ 2
    decide
theorem WOk.two {cs : List Cel} {s : ByteArray} (h : WOk cs) (h1 : 1 ≤ s.size) (h2 : s.size ≤ 36) : WOk (cs ++ [(s, 2), (emptyS, 0)]) := by
  refine ⟨fun k hk => ?_, .inr ?_⟩
  · rw [List.length_append] at hk
    simp only [List.length_cons, List.length_nil] at hk
    by_cases hc : k < cs.length
    · exact (h.1 k hc).app hc
    · by_cases hd : k = cs.length
      · have e : (cs ++ [(s, (2 : Int)), (emptyS, 0)]).getD k (emptyS, 0) = (s, 2) := cget_at (j := 0) (by omega)
        refine .inr ⟨?_, .inr (by unfold wAt; rw [e]), by unfold sAt; rw [e]; exact h1, by unfold sAt; rw [e]; exact h2⟩
        rcases h.2 with h0 | h0
        · exact .inl (by omega)
        · by_cases hz : k = 0
          · exact .inl hz
          · refine .inr ?_
            unfold wAt at *
            rw [cget_app (by omega), show k - 1 = cs.length - 1 by omega]
            exact h0
      · have e : (cs ++ [(s, (2 : Int)), (emptyS, 0)]).getD k (emptyS, 0) = (emptyS, 0) := cget_at (j := 1) (by omega)
        have e2 : (cs ++ [(s, (2 : Int)), (emptyS, 0)]).getD (k - 1) (emptyS, 0) = (s, 2) := cget_at (j := 0) (by omega)
        exact .inl ⟨by omega, by unfold wAt; rw [e2], by unfold wAt; rw [e], by unfold sAt; rw [e]; rfl⟩
  · unfold wAt
    rw [cget_at (j := 1) (by simp)]
    show (0 : Int) ≠ 2
    decide
theorem WOk.rep {cs : List Cel} (h : WOk cs) (n : Nat) : WOk (cs ++ List.replicate n (blankS, 1)) := by
  induction n with
  | zero => simpa using h
  | succ n ih => rw [List.replicate_succ', ← List.append_assoc]; exact ih.one (by decide) (by decide)
theorem cget_set {cs : List Cel} {k j : Nat} {c : Cel} (hk : k < cs.length) : (cs.set k c).getD j (emptyS, 0) = if j = k then c else cs.getD j (emptyS, 0) := by
  rw [List.getD_eq_getElem?_getD, List.getD_eq_getElem?_getD, List.getElem?_set]
  by_cases h : k = j
  · subst h; simp [hk]
  · rw [if_neg h, if_neg (fun q => h q.symm)]
theorem WOk.set {cs : List Cel} {k : Nat} {s : ByteArray} (h : WOk cs) (hk : k < cs.length) (h0 : 1 ≤ sAt cs k) (h1 : 1 ≤ s.size) (h2 : s.size ≤ 36) : WOk (cs.set k (s, (cs.getD k (emptyS, 0)).2)) := by
  have hw : ∀ j, wAt (cs.set k (s, (cs.getD k (emptyS, 0)).2)) j = wAt cs j := fun j => by
    unfold wAt; rw [cget_set hk]; split
    · next q => rw [q]
    · rfl
  have hs : ∀ j, j ≠ k → sAt (cs.set k (s, (cs.getD k (emptyS, 0)).2)) j = sAt cs j := fun j hj => by
    unfold sAt; rw [cget_set hk, if_neg hj]
  have hsk : sAt (cs.set k (s, (cs.getD k (emptyS, 0)).2)) k = s.size := by unfold sAt; rw [cget_set hk, if_pos rfl]
  refine ⟨fun j hj => ?_, ?_⟩
  · rw [List.length_set] at hj
    unfold WAt
    rw [hw, hw]
    by_cases hjk : j = k
    · subst hjk
      rw [hsk]
      rcases h.1 j hj with ⟨_, _, _, q⟩ | ⟨q1, q2, _⟩
      · omega
      · exact .inr ⟨q1, q2, h1, h2⟩
    · rw [hs j hjk]; exact h.1 j hj
  · rw [List.length_set, hw]; exact h.2
theorem size_zero {s : ByteArray} : s.toList = [] ↔ s.size = 0 := by
  rw [ByteArray.toList_eq, Array.toList_eq_nil_iff]
  exact ⟨fun h => by rw [ByteArray.size, h]; rfl, fun h => Array.eq_empty_of_size_eq_zero h⟩
theorem WOk.join {s : ByteArray} (h1 : 1 ≤ s.size) (h4 : s.size ≤ 4) : ∀ (k : Nat) {cs : List Cel}, k ≤ cs.length → WOk cs → WOk (joinF k cs s) := by
  intro k
  induction k with
  | zero => intro cs _ h; exact h.one (by rw [ByteArray.size_append]; omega) (by rw [ByteArray.size_append]; have : blankS.size = 1 := rfl; omega)
  | succ k ih =>
    intro cs hk h
    unfold joinF
    by_cases h0 : (cs.getD k (emptyS, 0)).1.toList = []
    · rw [if_pos h0]; exact ih (by omega) h
    · rw [if_neg h0]
      have hn : 1 ≤ sAt cs k := by
        rcases Nat.eq_zero_or_pos (sAt cs k) with q | q
        · exact absurd (size_zero.2 q) h0
        · exact q
      by_cases h3 : (cs.getD k (emptyS, 0)).1.size ≤ 32
      · rw [if_pos h3]; exact h.set (by omega) hn (by rw [ByteArray.size_append]; omega) (by rw [ByteArray.size_append]; omega)
      · rw [if_neg h3]; exact h
theorem WOk.step {cs : List Cel} (h : WOk cs) (col : Nat) (r : Int) : WOk (stepC col cs r) := by
  have hz := enc_size r
  unfold stepC
  split
  · exact h.rep _
  · split
    · have hy := enc_size (bits .xor .i32 r 64)
      have := (h.one (s := hatS) (by decide) (by decide)).one (s := Utf8.encode (bits .xor .i32 r 64)) (by omega) (by omega)
      rwa [List.append_assoc] at this
    · split
      · exact h.one (by decide) (by decide)
      · split
        · exact WOk.join hz.1 hz.2 _ (Nat.le_refl _) h
        · split
          · exact h.two (by omega) (by omega)
          · exact h.one (by omega) (by omega)
theorem wok_fold (col : Nat) (l : List Int) : ∀ {cs : List Cel}, WOk cs → WOk (l.foldl (stepC col) cs) := by
  induction l with
  | nil => intro cs h; exact h
  | cons r l ih => intro cs h; exact ih (h.step col r)
theorem wok_cells (l : List Int) (col : Int) : WOk (cellsM l col) := wok_fold _ _ .nil
theorem wide_a {cs : List Cel} {k : Nat} (hw : WAt cs k) (hk : 0 < k) : ((cs.getD k (emptyS, 0)).2 == 0) = ((cs.getD (k - 1) (emptyS, 0)).2 == 2) := by
  rcases hw with ⟨_, b, c, _⟩ | ⟨a, b, _⟩
  · unfold wAt at *; rw [b, c]; rfl
  · unfold wAt at *
    have e : ¬ (cs.getD (k - 1) (emptyS, 0)).2 = 2 := by rcases a with a | a; omega; exact a
    rw [beq_eq_false_iff_ne.2 e, beq_eq_false_iff_ne.2 (by omega)]
theorem wide_a0 {cs : List Cel} {k : Nat} (hw : WAt cs k) (hk : ¬ 0 < k) : ((cs.getD k (emptyS, 0)).2 == 0) = false := by
  rcases hw with ⟨a, _⟩ | ⟨_, b, _⟩
  · omega
  · unfold wAt at *; exact beq_eq_false_iff_ne.2 (by omega)
theorem wide_b {cs : List Cel} {k : Nat} (hw : WAt cs k) (hk : 0 < k) : ((cs.getD k (emptyS, 0)).1.toList == []) = ((cs.getD (k - 1) (emptyS, 0)).2 == 2) := by
  rcases hw with ⟨_, b, _, d⟩ | ⟨a, _, b, _⟩
  · unfold wAt sAt at *; rw [b, size_zero.2 d]; rfl
  · unfold wAt sAt at *
    have e : ¬ (cs.getD (k - 1) (emptyS, 0)).2 = 2 := by rcases a with a | a; omega; exact a
    rw [beq_eq_false_iff_ne.2 e, beq_eq_false_iff_ne.2 (fun q => by have := size_zero.1 q; omega)]
theorem wide_b0 {cs : List Cel} {k : Nat} (hw : WAt cs k) (hk : ¬ 0 < k) : ((cs.getD k (emptyS, 0)).1.toList == []) = false := by
  rcases hw with ⟨a, _⟩ | ⟨_, _, b, _⟩
  · omega
  · unfold sAt at *; exact beq_eq_false_iff_ne.2 (fun q => by have := size_zero.1 q; omega)
theorem wide_in {cs : List Cel} {k : Nat} (hw : WAt cs k) : 0 ≤ (cs.getD k (emptyS, 0)).2 ∧ (cs.getD k (emptyS, 0)).2 ≤ 2 ∧ (cs.getD k (emptyS, 0)).1.size ≤ 36 := by
  rcases hw with ⟨_, _, b, d⟩ | ⟨_, b, _, d⟩ <;> (unfold wAt at *; unfold sAt at *; omega)
end Go.Proofs.YtmkmffoadapmnaaDoor
