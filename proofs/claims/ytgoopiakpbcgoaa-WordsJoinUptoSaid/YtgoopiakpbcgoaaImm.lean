/- Memory that is never written any more: slices of numbers in it. -/
import Derived.Test.YtgoopiakpbcgoaaLit
set_option linter.unusedSimpArgs false
set_option linter.unusedVariables false
namespace Go.Proofs.Ytgoopiakpbcgoaa
open Go.RowKit

/-- In what is never written any more the slice v reads as whole numbers. -/
def ImmI (I : Hp) (k : IntKind) (v : Value) (l : List Int) : Prop := ∃ a c, v = .slice a l.length c ∧ l.length ≤ c ∧ (c : Int) ≤ 9223372036854775807 ∧
  (0 < l.length → ∃ b o cs e fr, a = some ⟨b, o, none⟩ ∧ I b = some (.cells cs e fr) ∧ ∀ j, j < l.length → cs[o + j]? = some (.int k (l.getD j 0)))
theorem ImmI.mono {I I' : Hp} {k : IntKind} {v : Value} {l : List Int} (hl : Hp.le I I') (h : ImmI I k v l) : ImmI I' k v l := by
  obtain ⟨a, c, h1, h2, h3, h4⟩ := h
  exact ⟨a, c, h1, h2, h3, fun hp => let ⟨b, o, cs, e, fr, e1, e2, e3⟩ := h4 hp; ⟨b, o, cs, e, fr, e1, hl _ _ e2, e3⟩⟩
def immI (k : IntKind) (v : Value) (l : List Int) : HP := know (fun I => ImmI I k v l) fun _ _ hl h => h.mono hl

theorem RdI.mk {w : World} {k : IntKind} {v : Value} {l : List Int} {a : Option Addr} {c : Nat} (h1 : v = .slice a l.length c) (h2 : l.length ≤ c) (h3 : (c : Int) ≤ 9223372036854775807)
    (h4 : 0 < l.length → ∃ b o, a = some ⟨b, o, none⟩ ∧ ∀ j, j < l.length → w.cell? ⟨b, o + j, none⟩ = some (.int k (l.getD j 0))) : RdI w k v l := by
  refine ⟨by simp, a, c, h1, h2, h3, fun hp => ?_⟩
  obtain ⟨b, o, e, hc⟩ := h4 hp
  refine ⟨b, o, e, fun j hj => ?_⟩
  rw [hc j (by omega)]
  simp [List.getD_eq_getElem?_getD, show j < l.length by omega]
theorem ImmI.rd {w : World} {n : Nat} {I : Hp} {k : IntKind} {v : Value} {l : List Int} (h : ImmI I k v l) (hI : ∀ k o, I k = some o → n ≤ k ∧ w.heap[k]? = some o) : RdI w k v l := by
  obtain ⟨a, c, h1, h2, h3, h4⟩ := h
  exact RdI.mk h1 h2 h3 fun hp => let ⟨b, o, cs, e, fr, e1, e2, e3⟩ := h4 hp; ⟨b, o, e1, fun j hj => cell_of_blk (hI _ _ e2).2 (e3 j hj)⟩
section
variable {w0 w : World} {F : HP} {e : TypeId} {k : IntKind} {v : Value} {l : List Int}
theorem Holds.imm_rd (H : Holds w0 w (immI k v l • F)) : RdI w k v l := let ⟨I, h, hI⟩ := H.of_know; h.rd hI
theorem Holds.of_imm {b : Nat} {o : Obj} (H : Holds w0 w (imm b o • F)) : ∃ I : Hp, I b = some o ∧ True := let ⟨I, h, _⟩ := H.of_know; ⟨I, h, trivial⟩
theorem know_ent {K K' : Hp → Prop} {hK : ∀ I I', Hp.le I I' → K I → K I'} {hK' : ∀ I I', Hp.le I I' → K' I → K' I'} (h : ∀ I, K I → K' I) (B : HP) : Ent (know K hK • B) (know K' hK' • B) := fun I x ha =>
  (know_sep K' hK' B I x).2 ⟨h I ((know_sep K hK B I x).1 ha).1, ((know_sep K hK B I x).1 ha).2⟩
theorem know_two {K K' M : Hp → Prop} {hK : ∀ I I', Hp.le I I' → K I → K I'} {hK' : ∀ I I', Hp.le I I' → K' I → K' I'} {hM : ∀ I I', Hp.le I I' → M I → M I'} (h : ∀ I, K I → K' I → M I) (B : HP) : Ent (know K hK • know K' hK' • B) (know M hM • B) := fun I x ha => by
  have h1 := (know_sep K hK _ I x).1 ha
  have h2 := (know_sep K' hK' _ I x).1 h1.2
  exact (know_sep M hM B I x).2 ⟨h I h1.1 h2.1, h2.2⟩
theorem Holds.mk_know {K : Hp → Prop} {hK : ∀ I I', Hp.le I I' → K I → K I'} (h : ∀ I, K I) (H : Holds w0 w F) : Holds w0 w (know K hK • F) := H.ent fun I x ha => (know_sep K hK F I x).2 ⟨h I, ha⟩
/-- A row of one's own is never written any more. -/
theorem Holds.freezeI (H : Holds w0 w (RowI e k v l • F)) : Holds w0 w (immI k v l • F) := by
  rcases H.row_open with ⟨a, rfl, h1, h2, H1⟩ | ⟨g, o, c, cur, rfl, h2, h3, h4, h5, H1⟩
  · have hl : l = [] := by simpa using h2
    subst hl
    exact H1.add_emp.ent fun I x ha => (know_sep _ _ F I x).2 ⟨⟨a, 0, rfl, by simp, by decide, fun h => by simp at h⟩, by rw [Go.Proofs.Ytgoopiakpbcgoaa.emp_sep] at ha; exact ha⟩
  · refine H1.freeze.ent (know_ent (fun I hI => ⟨_, c, rfl, h2, h3, fun _ => ⟨g, o, cur, e, (0, 0), rfl, hI, fun j hj => ?_⟩⟩) F)
    rw [h5 j (by omega)]
    simp [List.getD_eq_getElem?_getD, hj]
end
end Go.Proofs.Ytgoopiakpbcgoaa
