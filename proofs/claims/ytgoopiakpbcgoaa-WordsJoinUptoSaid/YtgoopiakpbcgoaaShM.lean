/- shwords, plainly: how a place is quoted, what stands there. -/
import Derived.Test.YtgoopiakpbcgoaaStrF
set_option linter.unusedSimpArgs false
set_option linter.unusedVariables false
namespace Go.Proofs.Ytgoopiakpbcgoaa
open Go.Lib
def blankS (r : Int) : Bool := decide (r = 32 ∨ r = 9 ∨ r = 10)
def operS (r : Int) : Bool := decide (r = 40 ∨ r = 41 ∨ r = 60 ∨ r = 62 ∨ r = 59 ∨ r = 38 ∨ r = 124)
def classS (r : Int) : Int := if blankS r then 1 else if operS r then 2 else 0
abbrev St := Int × Bool
def nextS (s : St) (r : Int) : St :=
  if s.2 = true then (s.1, false) else if r = 92 ∧ s.1 ≠ 39 then (s.1, true) else if s.1 = 0 ∧ (r = 39 ∨ r = 34 ∨ r = 96) then (r, false) else if s.1 ≠ 0 ∧ r = s.1 then (0, false) else (s.1, false)
def kindS (s : St) : Int := if s.2 = true then 3 else if s.1 = 39 then 1 else if s.1 ≠ 0 then 2 else 0
def stS (l : List Int) (k : Nat) : St := (l.take k).foldl nextS (0, false)
def quoS (l : List Int) (k : Nat) : Int := kindS (stS l k)
def statesS (l : List Int) : List Int := (List.range l.length).map (quoS l)
def openS (l : List Int) : Int := kindS (stS l l.length)
theorem stS_zero (l : List Int) : stS l 0 = (0, false) := by simp [stS]
theorem stS_succ {l : List Int} {k : Nat} (h : k < l.length) : stS l (k + 1) = nextS (stS l k) (l.getD k 0) := by
  unfold stS
  rw [List.take_succ_eq_append_getElem h, List.foldl_append, List.getD_eq_getElem?_getD, List.getElem?_eq_getElem h]
  rfl
theorem statesS_len (l : List Int) : (statesS l).length = l.length := by simp [statesS]
theorem statesS_at {l : List Int} {k : Nat} (h : k < l.length) : (statesS l).getD k 0 = quoS l k := by
  unfold statesS
  rw [List.getD_eq_getElem?_getD, List.getElem?_map, List.getElem?_range h]; rfl
/-- The states of the first k places, zeros behind. -/
def partS (l : List Int) (k : Nat) : List Int := (List.range l.length).map fun j => if j < k then quoS l j else 0
theorem partS_zero (l : List Int) : partS l 0 = List.replicate l.length 0 := by
  unfold partS
  refine List.ext_getElem (by simp) fun j h1 h2 => by simp
theorem partS_len (l : List Int) (k : Nat) : (partS l k).length = l.length := by simp [partS]
theorem partS_set {l : List Int} {k : Nat} (h : k < l.length) : (partS l k).set k (quoS l k) = partS l (k + 1) := by
  unfold partS
  refine List.ext_getElem (by simp) fun j h1 h2 => ?_
  rw [List.getElem_set]
  simp only [List.getElem_map, List.getElem_range]
  by_cases e : k = j
  · subst e; simp
  · rw [if_neg e]
    by_cases q : j < k
    · rw [if_pos q, if_pos (by omega)]
    · rw [if_neg q, if_neg (by omega)]
theorem partS_all (l : List Int) : partS l l.length = statesS l := by
  unfold partS statesS
  refine List.ext_getElem (by simp) fun j h1 h2 => by
    simp only [List.length_map, List.length_range] at h1
    simp [h1]
abbrev opsB : ByteArray := ⟨#[40, 41, 60, 62, 59, 38, 124]⟩
theorem ops_all : ∀ n, n < 128 → decide (0 ≤ indexByte opsB.data.toList (n : Nat).toUInt8) = operS (n : Int) := by decide +kernel
theorem ops_idx (r : Int) : decide (0 ≤ idxR opsB r) = operS r := by
  unfold idxR
  by_cases h : 0 ≤ r ∧ r < 128
  · rw [if_pos h, ops_all r.toNat (by omega), show ((r.toNat : Nat) : Int) = r by omega]
  · rw [if_neg h]
    have : operS r = false := by unfold operS; rw [decide_eq_false]; omega
    rw [this]; rfl
end Go.Proofs.Ytgoopiakpbcgoaa
