/- Slices: what one reads, what one owns. -/
import Derived.Test.YtgoopiakpbcgoaaBase
namespace Go.Proofs.Ytgoopiakpbcgoaa
open Go.RowKit

theorem add_at (b o j : Nat) : (⟨b, o, none⟩ : Addr).add j = ⟨b, o + j, none⟩ := by unfold Addr.add; split <;> simp_all

/-- The slice v reads, in w: n elements of sz cells each, the cells xs. -/
structure Rd (w : World) (sz : Nat) (v : Value) (n : Nat) (xs : List Value) : Prop where
  len : xs.length = n * sz
  form : ∃ a c, v = .slice a n c ∧ n ≤ c ∧ (c : Int) ≤ 9223372036854775807 ∧ (0 < n → ∃ b o, a = some ⟨b, o, none⟩ ∧ ∀ j, j < n * sz → w.cell? ⟨b, o + j, none⟩ = some (xs.getD j undef))

/-- The slice v reads as whole numbers of one kind. -/
def RdI (w : World) (k : IntKind) (v : Value) (l : List Int) : Prop := Rd w 1 v l.length (l.map (Value.int k))

theorem RdI.open {w : World} {k : IntKind} {v : Value} {l : List Int} (h : RdI w k v l) :
    ∃ a c, v = .slice a l.length c ∧ l.length ≤ c ∧ (c : Int) ≤ 9223372036854775807 ∧ (0 < l.length → ∃ b o, a = some ⟨b, o, none⟩ ∧ ∀ j, j < l.length → w.cell? ⟨b, o + j, none⟩ = some (.int k (l.getD j 0))) := by
  obtain ⟨a, c, h1, h2, h3, h4⟩ := h.form
  refine ⟨a, c, h1, h2, h3, fun hp => ?_⟩
  obtain ⟨b, o, ha, hc⟩ := h4 hp
  refine ⟨b, o, ha, fun j hj => ?_⟩
  rw [hc j (by omega)]
  simp [List.getD_eq_getElem?_getD, hj]

theorem Rd.drewN {w : World} {sz : Nat} {v : Value} {n : Nat} {xs : List Value} (h : Rd w sz v n xs) (m : Nat) : Rd (w.drewN m) sz v n xs := ⟨h.len, h.form⟩
theorem RdI.drewN {w : World} {k : IntKind} {v : Value} {l : List Int} (h : RdI w k v l) (m : Nat) : RdI (w.drewN m) k v l := Rd.drewN h m

theorem Rd.below {w w' : World} {sz : Nat} {v : Value} {n : Nat} {xs : List Value} (h : Rd w sz v n xs) (hb : Below w.heap.size w w') : Rd w' sz v n xs := by
  refine ⟨h.len, ?_⟩
  obtain ⟨a, c, h1, h2, h3, h4⟩ := h.form
  refine ⟨a, c, h1, h2, h3, fun hp => ?_⟩
  obtain ⟨b, o, ha, hc⟩ := h4 hp
  exact ⟨b, o, ha, fun j hj => (hb.cell (World.block_lt_of_cell? _ _ (hc j hj))).trans (hc j hj)⟩
theorem RdI.below {w w' : World} {k : IntKind} {v : Value} {l : List Int} (h : RdI w k v l) (hb : Below w.heap.size w w') : RdI w' k v l := Rd.below h hb
/-- What came in reads on. -/
theorem Holds.rd {w0 w : World} {A : HP} (h : Holds w0 w A) {sz : Nat} {v : Value} {n : Nat} {xs : List Value} (hr : Rd w0 sz v n xs) : Rd w sz v n xs := hr.below h.base

/-- A world that has only drawn. -/
def Drew (w w' : World) : Prop := ∃ n, w' = w.drewN n
theorem Drew.refl (w : World) : Drew w w := ⟨0, rfl⟩
theorem Drew.step {w w' : World} (h : Drew w w') (n : Nat) : Drew w (w'.drewN n) := by obtain ⟨m, rfl⟩ := h; exact ⟨m + n, World.drewN_drewN ..⟩
theorem Drew.drew {w w' : World} (h : Drew w w') : Drew w w'.drew := h.step 1
theorem Drew.trans {a b c : World} (h : Drew a b) (k : Drew b c) : Drew a c := by obtain ⟨m, rfl⟩ := k; exact h.step m
theorem Drew.heap {w w' : World} (h : Drew w w') : w'.heap = w.heap := by obtain ⟨n, rfl⟩ := h; rfl
theorem cell_heap {w w' : World} (h : w'.heap = w.heap) (a : Addr) : w'.cell? a = w.cell? a := by simp [World.cell?, h]
theorem Holds.drewn {w0 w w' : World} {A : HP} (h : Holds w0 w A) (k : Drew w w') : Holds w0 w' A := by obtain ⟨n, rfl⟩ := k; exact h.drewN n
theorem RdI.heap {w w' : World} {k : IntKind} {v : Value} {l : List Int} (h : RdI w k v l) (e : w'.heap = w.heap) : RdI w' k v l := by
  obtain ⟨h1, a, c, h2, h3, h4, h5⟩ := h
  exact ⟨h1, a, c, h2, h3, h4, fun hp => let ⟨b, o, e1, e2⟩ := h5 hp; ⟨b, o, e1, fun j hj => (cell_heap e _).trans (e2 j hj)⟩⟩
end Go.Proofs.Ytgoopiakpbcgoaa
