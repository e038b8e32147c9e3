/- Lists of lists of numbers, the inner ones in memory that is never written any more. -/
import Derived.Test.YtgoopiakpbcgoaaImm
import Derived.Test.YtgoopiakpbcgoaaMore
set_option linter.unusedSimpArgs false
set_option linter.unusedVariables false
namespace Go.Proofs.Ytgoopiakpbcgoaa
open Go.RowKit
/-- Each of these slices reads so. -/
def ImmsI (I : Hp) (k : IntKind) (vs : List Value) (ls : List (List Int)) : Prop := vs.length = ls.length ∧ ∀ j, j < ls.length → ImmI I k (vs.getD j undef) (ls.getD j [])
def immsI (k : IntKind) (vs : List Value) (ls : List (List Int)) : HP := know (fun I => ImmsI I k vs ls) fun _ _ hl h => ⟨h.1, fun j hj => (h.2 j hj).mono hl⟩
/-- A slice of one's own of such slices. -/
def LL (e : TypeId) (k : IntKind) (v : Value) (ls : List (List Int)) : HP := exHP fun vs => Row e 1 v ls.length vs • immsI k vs ls
theorem getD_app_left {α : Type _} {l m : List α} {j : Nat} {d : α} (h : j < l.length) : (l ++ m).getD j d = l.getD j d := by simp [List.getD_eq_getElem?_getD, List.getElem?_append_left h]
theorem getD_app_right {α : Type _} {l m : List α} {j : Nat} {d : α} (h : l.length ≤ j) : (l ++ m).getD j d = m.getD (j - l.length) d := by simp [List.getD_eq_getElem?_getD, List.getElem?_append_right h]
theorem getD_drop {α : Type _} {l : List α} {i j : Nat} {d : α} : (l.drop i).getD j d = l.getD (i + j) d := by simp [List.getD_eq_getElem?_getD]
theorem getD_take {α : Type _} {l : List α} {i j : Nat} {d : α} (h : j < i) : (l.take i).getD j d = l.getD j d := by simp [List.getD_eq_getElem?_getD, List.getElem?_take, h]
theorem getD_mem' {α : Type _} {l : List α} {j : Nat} {d : α} (h : j < l.length) : l.getD j d ∈ l := by rw [List.getD_eq_getElem?_getD, List.getElem?_eq_getElem h]; exact List.getElem_mem h
theorem ImmsI.app {I : Hp} {k : IntKind} {vs us : List Value} {ls ms : List (List Int)} (h : ImmsI I k vs ls) (g : ImmsI I k us ms) : ImmsI I k (vs ++ us) (ls ++ ms) := by
  refine ⟨by simp [h.1, g.1], fun j hj => ?_⟩
  by_cases hl : j < ls.length
  · rw [getD_app_left (by rw [h.1]; exact hl), getD_app_left hl]; exact h.2 j hl
  · have hj' : j - ls.length < ms.length := by simp at hj; omega
    rw [getD_app_right (by rw [h.1]; omega), getD_app_right (by omega), h.1]; exact g.2 _ hj'
theorem ImmsI.drop {I : Hp} {k : IntKind} {vs : List Value} {ls : List (List Int)} (h : ImmsI I k vs ls) (i : Nat) : ImmsI I k (vs.drop i) (ls.drop i) := by
  refine ⟨by simp [h.1], fun j hj => ?_⟩
  rw [getD_drop, getD_drop]
  exact h.2 _ (by simp at hj; omega)
theorem ImmsI.take {I : Hp} {k : IntKind} {vs : List Value} {ls : List (List Int)} (h : ImmsI I k vs ls) (i : Nat) : ImmsI I k (vs.take i) (ls.take i) := by
  refine ⟨by simp [h.1], fun j hj => ?_⟩
  simp at hj
  rw [getD_take (by omega), getD_take (by omega)]
  exact h.2 _ (by omega)
theorem ImmI.one {I : Hp} {k : IntKind} {v : Value} {l : List Int} (h : ImmI I k v l) : ImmsI I k [v] [l] := ⟨rfl, fun j hj => by
  obtain rfl : j = 0 := by simp at hj; omega
  exact h⟩
theorem ImmI.cell1 {I : Hp} {k : IntKind} {v : Value} {l : List Int} (h : ImmI I k v l) : v.oneCell' = true := by obtain ⟨a, c, rfl, _⟩ := h; rfl
section
variable {w0 w : World} {F : HP} {e : TypeId} {k : IntKind} {v : Value} {vs us : List Value} {ls ms : List (List Int)} {l : List Int}
theorem Holds.imms_rd (H : Holds w0 w (immsI k vs ls • F)) {j : Nat} (hj : j < ls.length) : RdI w k (vs.getD j undef) (ls.getD j []) := let ⟨I, h, hI⟩ := H.of_know; (h.2 j hj).rd hI
theorem Holds.imms_len (H : Holds w0 w (immsI k vs ls • F)) : vs.length = ls.length := let ⟨I, h, hI⟩ := H.of_know; h.1
theorem Holds.imms_ones (H : Holds w0 w (immsI k vs ls • F)) : ∀ u ∈ vs, u.oneCell' = true := by
  obtain ⟨I, h, hI⟩ := H.of_know
  intro u hu
  obtain ⟨j, hj, rfl⟩ := List.getElem_of_mem hu
  have := (h.2 j (by rw [← h.1]; exact hj)).cell1
  rwa [List.getD_eq_getElem?_getD, List.getElem?_eq_getElem hj] at this
theorem Holds.imms_nil (H : Holds w0 w F) : Holds w0 w (immsI k [] [] • F) := H.mk_know fun I => ⟨rfl, fun j hj => by simp at hj⟩
theorem Holds.imms_dup (H : Holds w0 w (immsI k vs ls • F)) : Holds w0 w (immsI k vs ls • immsI k vs ls • F) := H.dup_know
theorem Holds.imms_app (H : Holds w0 w (immsI k vs ls • immsI k us ms • F)) : Holds w0 w (immsI k (vs ++ us) (ls ++ ms) • F) := H.ent (know_two (fun I h g => h.app g) F)
theorem Holds.imms_snoc (H : Holds w0 w (immsI k vs ls • immI k v l • F)) : Holds w0 w (immsI k (vs ++ [v]) (ls ++ [l]) • F) := H.ent (know_two (fun I h g => h.app g.one) F)
theorem Holds.imms_cons (H : Holds w0 w (immI k v l • immsI k vs ls • F)) : Holds w0 w (immsI k (v :: vs) (l :: ls) • F) := H.ent (know_two (fun I h g => h.one.app g) F)
theorem Holds.imms_one (H : Holds w0 w (immI k v l • F)) : Holds w0 w (immsI k [v] [l] • F) := H.ent (know_ent (fun I h => h.one) F)
theorem Holds.imms_drop (H : Holds w0 w (immsI k vs ls • F)) (i : Nat) : Holds w0 w (immsI k (vs.drop i) (ls.drop i) • F) := H.ent (know_ent (fun I h => h.drop i) F)
theorem Holds.imms_take (H : Holds w0 w (immsI k vs ls • F)) (i : Nat) : Holds w0 w (immsI k (vs.take i) (ls.take i) • F) := H.ent (know_ent (fun I h => h.take i) F)
theorem Holds.ll (H : Holds w0 w (LL e k v ls • F)) : ∃ vs, Holds w0 w (Row e 1 v ls.length vs • immsI k vs ls • F) := let ⟨vs, h⟩ := H.ex_sep; ⟨vs, h.flat⟩
theorem Holds.mk_ll (H : Holds w0 w (Row e 1 v ls.length vs • immsI k vs ls • F)) : Holds w0 w (LL e k v ls • F) := Holds.mk_ex_sep vs H.deep
theorem Holds.mk_ll' {n : Nat} (H : Holds w0 w (Row e 1 v n vs • immsI k vs ls • F)) : Holds w0 w (LL e k v ls • F) := by
  have h1 := H.row_len
  have h2 := H.swap.imms_len
  obtain rfl : n = ls.length := by omega
  exact H.mk_ll
theorem Holds.ll_nil (H : Holds w0 w F) (a : Option Addr) : Holds w0 w (LL e k (.slice a 0 0) [] • F) := (H.imms_nil.row_nil a).mk_ll
/-- An owned row, the end left off at both sides. -/
theorem Holds.ll_cut0 (H : Holds w0 w (LL e k v ls • F)) {n : Nat} (h : n ≤ ls.length) : Holds w0 w (LL e k (cutV 1 0 n v) (ls.take n) • F) := by
  obtain ⟨vs, H⟩ := H.ll
  have H1 := (H.row_cut0 h).swap.imms_take n |>.swap
  rw [Nat.mul_one] at H1
  exact Holds.mk_ll' H1
theorem Rd.upto1 {n : Nat} {xs : List Value} (hr : Rd w 1 v n xs) {i : Nat} (h : i ≤ n) : Rd w 1 (cutV 1 0 i v) i (xs.take i) := by
  have h1 := hr.cut (Nat.zero_le i) h
  simpa using h1
theorem Rd.from1 {n : Nat} {xs : List Value} (hr : Rd w 1 v n xs) {i : Nat} (h : i ≤ n) : Rd w 1 (cutV 1 i n v) (n - i) (xs.drop i) := by
  have h1 := hr.cut h (Nat.le_refl _)
  rwa [Nat.mul_one, Nat.mul_one, List.take_of_length_le (by simp [hr.len])] at h1
end
end Go.Proofs.Ytgoopiakpbcgoaa
