/- Many slices of one's own. -/
import Derived.Test.YtaabgcfeghcmnaaLL
set_option linter.unusedSimpArgs false
set_option linter.unusedVariables false
namespace Go.Proofs.Ytaabgcfeghcmnaa
open Go.RowKit
/-- Each of these slices is one's own. -/
def Owns (e : TypeId) (k : IntKind) : List Value → List (List Int) → HP
  | [], [] => emp
  | v :: vs, l :: ls => RowI e k v l • Owns e k vs ls
  | _, _ => fact False
section
variable {w0 w : World} {F : HP} {e : TypeId} {k : IntKind} {v : Value} {l : List Int}
theorem Holds.owns_nil (H : Holds w0 w F) : Holds w0 w (Owns e k [] [] • F) := H.add_emp
theorem Holds.owns_len : ∀ {vs : List Value} {ls : List (List Int)} {F : HP}, Holds w0 w (Owns e k vs ls • F) → vs.length = ls.length
  | [], [], _, _ => rfl
  | v :: vs, l :: ls, _, H => by simpa using Holds.owns_len (Holds.right (Holds.flat H))
  | [], _ :: _, _, H => absurd H.fact.1 id
  | _ :: _, [], _, H => absurd H.fact.1 id
theorem owns_snoc : ∀ (vs : List Value) (ls : List (List Int)), (Owns e k vs ls • RowI e k v l) = Owns e k (vs ++ [v]) (ls ++ [l])
  | [], [] => by show (emp • RowI e k v l) = (RowI e k v l • emp); rw [sep_comm]
  | u :: vs, m :: ls => by
    show ((RowI e k u m • Owns e k vs ls) • RowI e k v l) = (RowI e k u m • Owns e k (vs ++ [v]) (ls ++ [l]))
    rw [sep_assoc, owns_snoc vs ls]
  | [], m :: ls => by
    apply HP.ext; funext I h; apply propext
    constructor
    · intro hp; exact absurd ((fact_sep _ _ _ _).1 hp).1 id
    · intro hp
      cases ls with
      | nil => exact absurd (show False by obtain ⟨_, _, _, _, _, hb⟩ := hp; exact hb.1) id
      | cons x y => exact absurd (show False by obtain ⟨_, _, _, _, _, hb⟩ := hp; exact hb.1) id
  | u :: vs, [] => by
    apply HP.ext; funext I h; apply propext
    constructor
    · intro hp; exact absurd ((fact_sep _ _ _ _).1 hp).1 id
    · intro hp
      cases vs with
      | nil => exact absurd (show False by obtain ⟨_, _, _, _, _, hb⟩ := hp; exact hb.1) id
      | cons x y => exact absurd (show False by obtain ⟨_, _, _, _, _, hb⟩ := hp; exact hb.1) id
theorem Holds.owns_snoc {vs : List Value} {ls : List (List Int)} (H : Holds w0 w (Owns e k vs ls • RowI e k v l • F)) : Holds w0 w (Owns e k (vs ++ [v]) (ls ++ [l]) • F) := H.deep.of_eq (by rw [Go.Proofs.Ytaabgcfeghcmnaa.owns_snoc])
/-- Number j is taken out, and put back, turned. -/
theorem Holds.owns_take : ∀ {vs : List Value} {ls : List (List Int)} {F : HP} {j : Nat}, Holds w0 w (Owns e k vs ls • F) → j < ls.length →
    ∃ R : HP, Holds w0 w (RowI e k (vs.getD j undef) (ls.getD j []) • R • F) ∧ ∀ l' w' F', Holds w0 w' (RowI e k (vs.getD j undef) l' • R • F') → Holds w0 w' (Owns e k vs (ls.set j l') • F')
  | [], [], _, j, _, hj => by simp at hj
  | v :: vs, l :: ls, F, 0, H, _ => ⟨Owns e k vs ls, H.flat, fun l' w' F' H' => H'.deep⟩
  | v :: vs, l :: ls, F, j + 1, H, hj => by
    obtain ⟨R, h1, h2⟩ := Holds.owns_take (j := j) H.flat.swap (by simpa using hj)
    refine ⟨R • RowI e k v l, by simpa [sep_assoc] using h1, fun l' w' F' H' => ?_⟩
    have := h2 l' w' (RowI e k v l • F') (H'.of_eq (by simp only [List.getD_cons_succ]; ac_rfl))
    exact this.swap.deep
  | [], _ :: _, _, _, H, _ => absurd H.fact.1 id
  | _ :: _, [], _, _, H, _ => absurd H.fact.1 id
theorem Holds.owns_rd {vs : List Value} {ls : List (List Int)} {j : Nat} (H : Holds w0 w (Owns e k vs ls • F)) (hj : j < ls.length) : RdI w k (vs.getD j undef) (ls.getD j []) := by
  obtain ⟨R, h, _⟩ := H.owns_take hj
  exact h.row_rd
theorem Holds.owns_ones {vs : List Value} {ls : List (List Int)} (H : Holds w0 w (Owns e k vs ls • F)) : ∀ u ∈ vs, u.oneCell' = true := by
  intro u hu
  obtain ⟨j, hj, rfl⟩ := List.getElem_of_mem hu
  have := (H.owns_rd (j := j) (by rw [← H.owns_len]; exact hj)).one
  rwa [List.getD_eq_getElem?_getD, List.getElem?_eq_getElem hj] at this
end
end Go.Proofs.Ytaabgcfeghcmnaa
