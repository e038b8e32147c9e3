/- ucell: what the rows' inputs are. -/
import Derived.Test.YtmkmffoadapmnaaDoorULaid
import Derived.Test.YtmkmffoadapmnaaDoorUtf5
import Derived.Test.YtmkmffoadapmnaaDoorFlat
set_option linter.unusedVariables false
namespace Go.Proofs.YtmkmffoadapmnaaDoor
theorem uwf_i64 {n : Int} (h : (Lit.int .i64 n).wf = true) : -9223372036854775808 ≤ n ∧ n ≤ 9223372036854775807 := by
  simp [Lit.wf, IntKind.min, IntKind.max, IntKind.signed, IntKind.bits] at h
  omega
theorem uwf_i32 {l : List Int} (h : ∀ n ∈ l, (Lit.int .i32 n).wf = true) : Runs32 l := fun n hn => by
  have h := h n hn
  simp [Lit.wf, IntKind.min, IntKind.max, IntKind.signed, IntKind.bits] at h
  omega
theorem uwf_u8 {l : List Int} (h : ∀ n ∈ l, (Lit.int .u8 n).wf = true) : Byts l := fun n hn => by
  have h := h n hn
  simp [Lit.wf, IntKind.min, IntKind.max, IntKind.signed, IntKind.bits] at h
  omega
theorem bools_flat (bs : List Bool) : (bs.flatMap fun b => [Value.bool b]) = bs.map Value.bool := by induction bs with | nil => rfl | cons b bs ih => simp [ih]
theorem ubools {H : Type} {B : Nat} {enc : TypeId × Value → H} {P : Program} {W : World} {t e : TypeId} {cs : List Value} (ht : P.underlying t = some (.slice e)) (he : P.underlying e = some .bool) (hc : P.cellsOf e = 1) (h : InB B enc P W t cs) :
    ∃ (v : Value) (bs : List Bool), cs = [v] ∧ Rd W 1 v bs.length (bs.map Value.bool) := by
  obtain ⟨v, n, xs, e1, h1, h2, h3⟩ := h.slice ht (by omega)
  rw [hc] at h1 h3
  obtain ⟨bs, rfl, k2, -⟩ := rows_of (enc := fun b => [Value.bool b]) (p := fun _ => True) h1.len (fun k hk => by
    obtain ⟨b, e2⟩ := (h3 k hk).bool he
    exact ⟨b, e2, trivial⟩)
  rw [bools_flat] at k2
  subst k2
  exact ⟨v, bs, e1, h1⟩
end Go.Proofs.YtmkmffoadapmnaaDoor
