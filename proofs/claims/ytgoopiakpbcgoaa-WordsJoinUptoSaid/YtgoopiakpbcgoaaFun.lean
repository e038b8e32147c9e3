/- Function values; a slice of a whole array. -/
import Derived.Test.YtgoopiakpbcgoaaMore
set_option linter.unusedSimpArgs false
set_option linter.unusedVariables false
namespace Go.Proofs.Ytgoopiakpbcgoaa
open Go.RowKit
section
variable {P : Program} {L : List (Nat × Value)} {w0 w : World} {F : HP} {ty : TypeId}
/-- What a function value does, called with these. -/
def FnRet (P : Program) (fv : Value) (vs : List Value) (w : World) (T : Value → World → Prop) : Prop :=
  ∃ f first cap fn c, fv = .func (.func f) (List.toArray first) (List.toArray cap) ∧ P.funcs[f]? = some fn ∧ (fn.name == "runtime.NumGoroutine") = false ∧ fn.body = some c ∧ Ret P f (first ++ vs ++ cap).toArray w T
theorem e_call_fn {x : Operand} {args : List Operand} {ts : Array TypeId} {fv : Value} {vs : List Value} {T : Value → World → Prop} (hx : ev L x = some fv) (ha : evl L args = some vs) (h : FnRet P fv vs w T) :
    Eff P L (.call ⟨.value x, args.toArray, ts⟩) ty w T := by
  obtain ⟨f, first, cap, fn, c, rfl, hf, hn, hb, hr⟩ := h
  exact e_call (r_call_val hx ha hf hn hb) hr
/-- It tells, of each number, whether it holds; what one holds is left. -/
def Tells (P : Program) (w0 : World) (F : HP) (fv : Value) (g : Int → Bool) : Prop :=
  fv.oneCell' = true ∧ ∀ (G : HP) (W : World), Holds w0 W (G • F) → ∀ r, FnRet P fv [.int .i32 r] W fun v W' => v = .bool (g r) ∧ Holds w0 W' (G • F)
theorem r_slice_arr {t e s n : Nat} {x : Operand} {b o : Nat} (ht : P.underlying t = some (.array n e)) (hs : ∀ w, (sizeOf e).run P w = .ok s w) (hx : ev L x = some (.pointer (some ⟨b, o, none⟩))) :
    Val P L (.slice t x none none none) ty w (.slice (some ⟨b, o, none⟩) n n) w := fun ρ hρ d pos aft g => by
  simp [execOp, hρ _ _ hx, Instr.sliceAt, run_underlying ht, Instr.sliceBounds, Instr.sureAddr, hs, Addr.add]
end
end Go.Proofs.Ytgoopiakpbcgoaa
