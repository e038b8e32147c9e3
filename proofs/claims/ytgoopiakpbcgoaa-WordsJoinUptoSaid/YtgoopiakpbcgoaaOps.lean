/- What each form of operation comes to. -/
import Derived.Test.YtgoopiakpbcgoaaEng
set_option linter.unusedSimpArgs false
set_option linter.unusedVariables false
namespace Go.Proofs.Ytgoopiakpbcgoaa
open Go.RowKit

theorem wrap_i64 {x : Int} (h : -9223372036854775808 ≤ x ∧ x ≤ 9223372036854775807) : IntKind.i64.wrap x = x := IntWalk.i64_in x h
section
variable {P : Program} {L : List (Nat × Value)} {w : World} {ty : TypeId} {x y c : Operand} {v u : Value}

theorem r_known_t {op : Op} {b : Bool} {w' : World} (h : Val P L op ty w (.bool b) w') (hb : b = true) : Val P L op ty w (.bool true) w' := hb ▸ h
theorem r_known_f {op : Op} {b : Bool} {w' : World} (h : Val P L op ty w (.bool b) w') (hb : b = false) : Val P L op ty w (.bool false) w' := hb ▸ h
theorem r_move (hx : ev L x = some v) : Val P L (.move x) ty w v w := fun ρ hρ _ _ _ _ => by simp [execOp, hρ _ _ hx]
theorem r_assign (hx : ev L x = some v) : Val P L (.assign x) ty w v w := fun ρ hρ _ _ _ _ => by simp [execOp, hρ _ _ hx]
theorem r_pick_t {a b : Operand} (hc : ev L c = some (.bool true)) (ha : ev L a = some v) : Val P L (.pick c a b) ty w v w := fun ρ hρ _ _ _ _ => by
  simp [execOp, hρ _ _ hc, hρ _ _ ha, asBool]
theorem r_pick_f {a b : Operand} (hc : ev L c = some (.bool false)) (hb : ev L b = some v) : Val P L (.pick c a b) ty w v w := fun ρ hρ _ _ _ _ => by
  simp [execOp, hρ _ _ hc, hρ _ _ hb, asBool]
theorem r_nil {a : Addr} (hx : ev L x = some (.pointer (some a))) : Val P L (.nilCheck x) ty w (.pointer (some a)) w := fun ρ hρ _ _ _ _ => by
  simp [execOp, hρ _ _ hx]
theorem r_extract {vs : Array Value} {i : Nat} (hx : ev L x = some (.tuple vs)) (hi : vs[i]? = some v) : Val P L (.extract x i) ty w v w := fun ρ hρ _ _ _ _ => by
  simp [execOp, hρ _ _ hx, Instr.extract, hi]
theorem r_not {b : Bool} {t : TypeId} (hx : ev L x = some (.bool b)) : Val P L (.unOp .not t x) ty w (.bool (!b)) w := fun ρ hρ _ _ _ _ => by
  simp [execOp, hρ _ _ hx, Op.unary]
theorem r_neg {n : Int} {t : TypeId} (hx : ev L x = some (.int .i64 n)) (hb : -9223372036854775808 ≤ 0 - n ∧ 0 - n ≤ 9223372036854775807) : Val P L (.unOp .neg t x) ty w (.int .i64 (-n)) w := fun ρ hρ _ _ _ _ => by
  simp only [execOp, hρ _ _ hx, Op.unary, Op.intArith, wrap_i64 hb]; simp
/-- The values of some operands. -/
def evl (L : List (Nat × Value)) : List Operand → Option (List Value)
  | [] => some []
  | x :: r => match ev L x with
    | some v => match evl L r with
      | some vs => some (v :: vs)
      | none => none
    | none => none
theorem evs {ρ : Operand → Value} (hρ : ∀ x u, ev L x = some u → ρ x = u) : ∀ (xs : List Operand) (vs : List Value), evl L xs = some vs → xs.map ρ = vs
  | [], vs, h => by simp [evl] at h; simp [h]
  | x :: xs, vs, h => by
    simp only [evl] at h
    cases h1 : ev L x with
    | none => simp [h1] at h
    | some v =>
      cases h2 : evl L xs with
      | none => simp [h1, h2] at h
      | some us =>
        simp [h1, h2] at h
        subst h
        simp [hρ _ _ h1, evs hρ xs us h2]
theorem evsA {ρ : Operand → Value} (hρ : ∀ x u, ev L x = some u → ρ x = u) (xs : List Operand) (vs : List Value) (h : evl L xs = some vs) : xs.toArray.map ρ = vs.toArray := by
  apply Array.ext'
  simpa using evs hρ _ _ h
theorem r_makeFunc {fn : Fn} {first cap : List Operand} {f c : List Value} (hf : evl L first = some f) (hc : evl L cap = some c) : Val P L (.makeFunc fn first.toArray cap.toArray) ty w (.func fn f.toArray c.toArray) w := fun ρ hρ _ _ _ _ => by
  simp only [execOp, Instr.makeFunc, evsA hρ _ _ hf, evsA hρ _ _ hc]; rfl

/-! ### numbers -/
section
variable {k : IntKind} {m n : Int} {t t' : TypeId}
theorem r_int (o : BinOp) {r : Value} (hx : ev L x = some (.int k m)) (hy : ev L y = some (.int k n)) (ho : o ≠ .shl ∧ o ≠ .shr)
    (h : (binOp o t (.int k m) (.int k n)).run P w = .ok r w) : Val P L (.binOp o t x y t') ty w r w := fun ρ hρ _ _ _ _ => by
  simp only [execOp, hρ _ _ hx, hρ _ _ hy]
  have : (eqGuard o t x y (.int k m) (.int k n)).run P w = .ok () w := by unfold eqGuard; split <;> rfl
  simp [this, h]
theorem r_add (hx : ev L x = some (.int .i64 m)) (hy : ev L y = some (.int .i64 n)) (hb : -9223372036854775808 ≤ m + n ∧ m + n ≤ 9223372036854775807) : Val P L (.binOp .add t x y t') ty w (.int .i64 (m + n)) w :=
  r_int .add hx hy (by decide) (by simp only [binOp, ne_eq, not_true_eq_false, if_false, Op.intArith, wrap_i64 hb]; rfl)
theorem r_sub (hx : ev L x = some (.int .i64 m)) (hy : ev L y = some (.int .i64 n)) (hb : -9223372036854775808 ≤ m - n ∧ m - n ≤ 9223372036854775807) : Val P L (.binOp .sub t x y t') ty w (.int .i64 (m - n)) w :=
  r_int .sub hx hy (by decide) (by simp only [binOp, ne_eq, not_true_eq_false, if_false, Op.intArith, wrap_i64 hb]; rfl)
theorem r_mul (hx : ev L x = some (.int .i64 m)) (hy : ev L y = some (.int .i64 n)) (hb : -9223372036854775808 ≤ m * n ∧ m * n ≤ 9223372036854775807) : Val P L (.binOp .mul t x y t') ty w (.int .i64 (m * n)) w :=
  r_int .mul hx hy (by decide) (by simp only [binOp, ne_eq, not_true_eq_false, if_false, Op.intArith, wrap_i64 hb]; rfl)
theorem r_addK (hx : ev L x = some (.int k m)) (hy : ev L y = some (.int k n)) : Val P L (.binOp .add t x y t') ty w (.int k (k.wrap (m + n))) w :=
  r_int .add hx hy (by decide) (by simp only [binOp, ne_eq, not_true_eq_false, if_false, Op.intArith]; rfl)
theorem r_subK (hx : ev L x = some (.int k m)) (hy : ev L y = some (.int k n)) : Val P L (.binOp .sub t x y t') ty w (.int k (k.wrap (m - n))) w :=
  r_int .sub hx hy (by decide) (by simp only [binOp, ne_eq, not_true_eq_false, if_false, Op.intArith]; rfl)
theorem r_mulK (hx : ev L x = some (.int k m)) (hy : ev L y = some (.int k n)) : Val P L (.binOp .mul t x y t') ty w (.int k (k.wrap (m * n))) w :=
  r_int .mul hx hy (by decide) (by simp only [binOp, ne_eq, not_true_eq_false, if_false, Op.intArith]; rfl)
/-- '%', both sides not negative. -/
theorem r_rem (hx : ev L x = some (.int k m)) (hy : ev L y = some (.int k n)) (hm : 0 ≤ m) (hn : 0 < n) : Val P L (.binOp .rem t x y t') ty w (.int k (m % n)) w :=
  r_int .rem hx hy (by decide) (by
    simp only [binOp, ne_eq, not_true_eq_false, if_false, Op.intDiv]
    rw [if_neg (by omega), Int.tmod_eq_emod_of_nonneg hm]; rfl)
theorem r_trem (hx : ev L x = some (.int k m)) (hy : ev L y = some (.int k n)) (hn : n ≠ 0) : Val P L (.binOp .rem t x y t') ty w (.int k (m.tmod n)) w :=
  r_int .rem hx hy (by decide) (by
    simp only [binOp, ne_eq, not_true_eq_false, if_false, Op.intDiv]
    rw [if_neg hn]; rfl)
theorem r_quo (hx : ev L x = some (.int .i64 m)) (hy : ev L y = some (.int .i64 n)) (hm : 0 ≤ m) (hm' : m ≤ 9223372036854775807) (hn : 0 < n) : Val P L (.binOp .quo t x y t') ty w (.int .i64 (m / n)) w :=
  r_int .quo hx hy (by decide) (by
    have h1 : 0 ≤ m / n := Int.ediv_nonneg hm (by omega)
    have h2 : m / n ≤ m := Int.ediv_le_self n hm
    simp only [binOp, ne_eq, not_true_eq_false, if_false, Op.intDiv]
    rw [if_neg (by omega), Int.tdiv_eq_ediv_of_nonneg hm, wrap_i64 (by omega)]; rfl)
theorem r_eql (hx : ev L x = some (.int k m)) (hy : ev L y = some (.int k n)) : Val P L (.binOp .eql t x y t') ty w (.bool (m == n)) w :=
  r_int .eql hx hy (by decide) (by simp only [binOp, ne_eq, not_true_eq_false, if_false, Op.intCmp]; rfl)
theorem r_neq (hx : ev L x = some (.int k m)) (hy : ev L y = some (.int k n)) : Val P L (.binOp .neq t x y t') ty w (.bool (m != n)) w :=
  r_int .neq hx hy (by decide) (by simp only [binOp, ne_eq, not_true_eq_false, if_false, Op.intCmp]; rfl)
theorem r_lss (hx : ev L x = some (.int k m)) (hy : ev L y = some (.int k n)) : Val P L (.binOp .lss t x y t') ty w (.bool (decide (m < n))) w :=
  r_int .lss hx hy (by decide) (by simp only [binOp, ne_eq, not_true_eq_false, if_false, Op.intCmp]; rfl)
theorem r_leq (hx : ev L x = some (.int k m)) (hy : ev L y = some (.int k n)) : Val P L (.binOp .leq t x y t') ty w (.bool (decide (m ≤ n))) w :=
  r_int .leq hx hy (by decide) (by simp only [binOp, ne_eq, not_true_eq_false, if_false, Op.intCmp]; rfl)
theorem r_gtr (hx : ev L x = some (.int k m)) (hy : ev L y = some (.int k n)) : Val P L (.binOp .gtr t x y t') ty w (.bool (decide (m > n))) w :=
  r_int .gtr hx hy (by decide) (by simp only [binOp, ne_eq, not_true_eq_false, if_false, Op.intCmp]; rfl)
theorem r_geq (hx : ev L x = some (.int k m)) (hy : ev L y = some (.int k n)) : Val P L (.binOp .geq t x y t') ty w (.bool (decide (m ≥ n))) w :=
  r_int .geq hx hy (by decide) (by simp only [binOp, ne_eq, not_true_eq_false, if_false, Op.intCmp]; rfl)
/-- &, |, ^, &^: as the model has it. -/
theorem r_bits (o : BinOp) {r : Int} (hx : ev L x = some (.int k m)) (hy : ev L y = some (.int k n)) (ho : o = .and ∨ o = .or ∨ o = .xor ∨ o = .andNot) (hr : (Op.intBits o k m n).run P w = .ok (.int k r) w) : Val P L (.binOp o t x y t') ty w (.int k r) w :=
  r_int o hx hy (by rcases ho with rfl | rfl | rfl | rfl <;> decide) (by rcases ho with rfl | rfl | rfl | rfl <;> simp [binOp, hr])
theorem r_conv_int {src dst : TypeId} {k k' : IntKind} {n : Int} (hx : ev L x = some (.int k n)) (hs : (P.underlying src).isSome = true) (hd : P.underlying dst = some (.int k')) (hw : k'.wrap n = n) : Val P L (.convert src dst x) ty w (.int k' n) w := fun ρ hρ _ _ _ _ => by
  obtain ⟨ds, hs'⟩ := Option.isSome_iff_exists.1 hs
  simp only [execOp, hρ _ _ hx]
  simp [convert, run_underlying hs', run_underlying hd, Conv.intToInt, hw]
end
theorem r_eql_bool {t t' : TypeId} {a b : Bool} (ht : P.underlying t = some .bool) (hx : ev L x = some (.bool a)) (hy : ev L y = some (.bool b)) : Val P L (.binOp .eql t x y t') ty w (.bool (a == b)) w := fun ρ hρ _ _ _ _ => by
  simp only [execOp, hρ _ _ hx, hρ _ _ hy]
  have : (eqGuard .eql t x y (.bool a) (.bool b)).run P w = .ok () w := by unfold eqGuard; rfl
  simp [this, run_eql_bool w t a b ht]
theorem r_neq_bool {t t' : TypeId} {a b : Bool} (ht : P.underlying t = some .bool) (hx : ev L x = some (.bool a)) (hy : ev L y = some (.bool b)) : Val P L (.binOp .neq t x y t') ty w (.bool (!(a == b))) w := fun ρ hρ _ _ _ _ => by
  simp only [execOp, hρ _ _ hx, hρ _ _ hy]
  have : (eqGuard .neq t x y (.bool a) (.bool b)).run P w = .ok () w := by unfold eqGuard; rfl
  simp [this, run_neq_bool w t a b ht]
theorem run_equal {t : TypeId} {a b : Value} {r : Result Bool} (h : ∀ d, (Op.equalIn (d + 1) t a b).run P w = r) : (Op.equal t a b).run P w = r := h 9999
/-- a pointer against nil -/
theorem r_ptr_nil {t t' e : TypeId} {p : Option Addr} (ht : P.underlying t = some (.pointer e)) (hx : ev L x = some (.pointer p)) (hy : ev L y = some (.pointer none)) : Val P L (.binOp .eql t x y t') ty w (.bool p.isNone) w := fun ρ hρ _ _ _ _ => by
  simp only [execOp, hρ _ _ hx, hρ _ _ hy]
  have h1 : (eqGuard .eql t x y (.pointer p) (.pointer none)).run P w = .ok () w := by unfold eqGuard; rfl
  have h2 : (Op.equal t (.pointer p) (.pointer none)).run P w = .ok p.isNone w := run_equal fun d => by cases p <;> simp [Op.equalIn, run_underlying ht]
  have h3 : binOp .eql t (.pointer p) (.pointer none) = (do pure (.bool (← Op.equal t (.pointer p) (.pointer none)))) := by cases p <;> rfl
  simp only [Sem.run_bind, h1, Result.andThen, h3, h2]
  simp
theorem r_ptr_nnil {t t' e : TypeId} {p : Option Addr} (ht : P.underlying t = some (.pointer e)) (hx : ev L x = some (.pointer p)) (hy : ev L y = some (.pointer none)) : Val P L (.binOp .neq t x y t') ty w (.bool p.isSome) w := fun ρ hρ _ _ _ _ => by
  simp only [execOp, hρ _ _ hx, hρ _ _ hy]
  have h1 : (eqGuard .neq t x y (.pointer p) (.pointer none)).run P w = .ok () w := by unfold eqGuard; rfl
  have h2 : (Op.equal t (.pointer p) (.pointer none)).run P w = .ok p.isNone w := run_equal fun d => by cases p <;> simp [Op.equalIn, run_underlying ht]
  have h3 : binOp .neq t (.pointer p) (.pointer none) = (do pure (.bool (!(← Op.equal t (.pointer p) (.pointer none))))) := by cases p <;> rfl
  simp only [Sem.run_bind, h1, Result.andThen, h3, h2]
  cases p <;> simp
theorem r_slice_nil {t t' e : TypeId} {a : Option Addr} {n c : Nat} (ht : P.underlying t = some (.slice e)) (hx : ev L x = some (.slice a n c)) (hy : ev L y = some (.slice none 0 0)) : Val P L (.binOp .eql t x y t') ty w (.bool a.isNone) w := fun ρ hρ _ _ _ _ => by
  simp only [execOp, hρ _ _ hx, hρ _ _ hy]
  have h1 : (eqGuard .eql t x y (.slice a n c) (.slice none 0 0)).run P w = .ok () w := by unfold eqGuard; rfl
  have h2 : (Op.equal t (.slice a n c) (.slice none 0 0)).run P w = .ok a.isNone w := run_equal fun d => by cases a <;> simp [Op.equalIn, run_underlying ht]
  have h3 : binOp .eql t (.slice a n c) (.slice none 0 0) = (do pure (.bool (← Op.equal t (.slice a n c) (.slice none 0 0)))) := by rfl
  simp only [Sem.run_bind, h1, Result.andThen, h3, h2]
  simp
theorem r_str (o : BinOp) {t t' : TypeId} {a b : ByteArray} {r : Value} (hx : ev L x = some (.string a)) (hy : ev L y = some (.string b)) (h : (Op.stringOp o a b).run P w = .ok r w) (ho : o ≠ .shl ∧ o ≠ .shr) : Val P L (.binOp o t x y t') ty w r w := fun ρ hρ _ _ _ _ => by
  simp only [execOp, hρ _ _ hx, hρ _ _ hy]
  have : (eqGuard o t x y (.string a) (.string b)).run P w = .ok () w := by unfold eqGuard; split <;> rfl
  simp only [Sem.run_bind, this, Result.andThen]
  rw [show binOp o t (.string a) (.string b) = Op.stringOp o a b from by cases o <;> rfl, h]
  rfl
theorem r_str_eql {t t' : TypeId} {a b : ByteArray} (hx : ev L x = some (.string a)) (hy : ev L y = some (.string b)) : Val P L (.binOp .eql t x y t') ty w (.bool (a.toList == b.toList)) w := r_str .eql hx hy rfl (by decide)
theorem r_str_neq {t t' : TypeId} {a b : ByteArray} (hx : ev L x = some (.string a)) (hy : ev L y = some (.string b)) : Val P L (.binOp .neq t x y t') ty w (.bool (!(a.toList == b.toList))) w := r_str .neq hx hy rfl (by decide)
theorem r_str_add {t t' : TypeId} {a b : ByteArray} (hx : ev L x = some (.string a)) (hy : ev L y = some (.string b)) (h : ((a.size + b.size : Nat) : Int) ≤ 9223372036854775807) : Val P L (.binOp .add t x y t') ty w (.string (a ++ b)) w :=
  r_str .add hx hy (by simp only [Op.stringOp]; rw [if_neg (by simp only [IntKind.max]; simp [IntKind.signed, IntKind.bits]; omega)]; rfl) (by decide)

/-! ### built-ins on slices and numbers -/
theorem run_call {P : Program} {w : World} {ty : TypeId} {b : Builtin} {args : List Operand} {ts : Array TypeId} {vs : List Value} {r : Result Next} (ha : evl L args = some vs)
    (h : ∀ consts, (builtin b ts ty consts vs.toArray).run P w = r) : Runs P L (.call ⟨.builtin b, args.toArray, ts⟩) ty w r := fun ρ hρ _ _ _ _ => by
  simp only [execOp, resolve, Sem.run_bind, Sem.run_pure, Result.andThen_ok, invoke, evsA hρ _ _ ha]
  exact h _
theorem r_len {t e : TypeId} {a : Option Addr} {n c : Nat} (ht : P.underlying t = some (.slice e)) (hx : ev L x = some (.slice a n c)) : Val P L (.call ⟨.builtin .len, #[x], #[t]⟩) ty w (.int .i64 n) w :=
  run_call (vs := [.slice a n c]) (by simp [evl, hx]) fun _ => by simp [builtin, Builtin.len_, run_underlying ht, goInt]
theorem r_len_str {t : TypeId} {s : ByteArray} (ht : P.underlying t = some .string) (hx : ev L x = some (.string s)) : Val P L (.call ⟨.builtin .len, #[x], #[t]⟩) ty w (.int .i64 s.size) w :=
  run_call (vs := [.string s]) (by simp [evl, hx]) fun _ => by simp [builtin, Builtin.len_, run_underlying ht, goInt]
theorem r_cap {t e : TypeId} {a : Option Addr} {n c : Nat} (ht : P.underlying t = some (.slice e)) (hx : ev L x = some (.slice a n c)) : Val P L (.call ⟨.builtin .cap, #[x], #[t]⟩) ty w (.int .i64 c) w :=
  run_call (vs := [.slice a n c]) (by simp [evl, hx]) fun _ => by simp [builtin, Builtin.cap_, run_underlying ht, goInt]
theorem r_min {k : IntKind} {m n : Int} {ts : Array TypeId} (hx : ev L x = some (.int k m)) (hy : ev L y = some (.int k n)) : Val P L (.call ⟨.builtin .min, #[x, y], ts⟩) ty w (.int k (min m n)) w :=
  run_call (vs := [.int k m, .int k n]) (by simp [evl, hx, hy]) fun _ => by
    simp only [builtin, Sem.run_bind]
    rw [run_min_int2]
    have : (if n < m then n else m) = min m n := by omega
    simp [this]
theorem r_max {k : IntKind} {m n : Int} {ts : Array TypeId} (hx : ev L x = some (.int k m)) (hy : ev L y = some (.int k n)) : Val P L (.call ⟨.builtin .max, #[x, y], ts⟩) ty w (.int k (max m n)) w :=
  run_call (vs := [.int k m, .int k n]) (by simp [evl, hx, hy]) fun _ => by
    simp only [builtin, Sem.run_bind]
    rw [run_max_int2]
    have : (if n > m then n else m) = max m n := by omega
    simp [this]

/-! ### calls -/
/-- A function of the program's. -/
theorem r_call {f : FuncId} {args : List Operand} {ts : Array TypeId} {vs : List Value} {fn : Func} {c : Code} (ha : evl L args = some vs)
    (hf : P.funcs[f]? = some fn) (hn : (fn.name == "runtime.NumGoroutine") = false) (hb : fn.body = some c) : Runs P L (.call ⟨.value (.func f), args.toArray, ts⟩) ty w (.ok (.enter f vs.toArray) w) := fun ρ hρ _ _ _ _ => by
  have hg : ρ (.func f) = .func (.func f) #[] #[] := hρ _ _ rfl
  simp [execOp, resolve, invoke, evs hρ _ _ ha, hg, Deferred.ofValue, callFunc, hf, hb]; simpa using hn
/-- A function value's. -/
theorem r_call_val {f : FuncId} {x : Operand} {args : List Operand} {ts : Array TypeId} {vs first cap : List Value} {fn : Func} {c : Code} (hx : ev L x = some (.func (.func f) first.toArray cap.toArray)) (ha : evl L args = some vs)
    (hf : P.funcs[f]? = some fn) (hn : (fn.name == "runtime.NumGoroutine") = false) (hb : fn.body = some c) : Runs P L (.call ⟨.value x, args.toArray, ts⟩) ty w (.ok (.enter f (first ++ vs ++ cap).toArray) w) := fun ρ hρ _ _ _ _ => by
  have hg := hρ _ _ hx
  simp [execOp, resolve, invoke, evs hρ _ _ ha, hg, Deferred.ofValue, callFunc, hf, hb]; simpa using hn

/-! ### memory -/
theorem r_field {t : TypeId} {fs : Array Field} {f : Field} {i b o : Nat} (off : Nat) (ht : P.underlying t = some (.struct fs)) (hf : fs[i]? = some f) (ho : f.offset = off) {n : Nat} (hs : ∀ w, (sizeOf f.type).run P w = .ok n w) (hn : n ≠ 0)
    (hx : ev L x = some (.pointer (some ⟨b, o, none⟩))) : Val P L (.fieldAddr t x i) ty w (.pointer (some ⟨b, o + off, none⟩)) w := fun ρ hρ _ _ _ _ => by
  simp [execOp, hρ _ _ hx, Instr.fieldAt, run_underlying ht, hf, Instr.sureAddr, fieldPlace, hs, hn, add_at, ho]
theorem r_field0 {t : TypeId} {fs : Array Field} {f : Field} {i b : Nat} (off : Nat) (ht : P.underlying t = some (.struct fs)) (hf : fs[i]? = some f) (ho : f.offset = off) {n : Nat} (hs : ∀ w, (sizeOf f.type).run P w = .ok n w) (hn : n ≠ 0)
    (hx : ev L x = some (.pointer (some ⟨b, 0, none⟩))) : Val P L (.fieldAddr t x i) ty w (.pointer (some ⟨b, off, none⟩)) w := by
  have := r_field (ty := ty) (w := w) off ht hf ho hs hn hx
  rwa [Nat.zero_add] at this
theorem r_index {t e : TypeId} {b o n c s : Nat} {k : IntKind} {i : Int} (ht : P.underlying t = some (.slice e)) (hs : ∀ w, (sizeOf e).run P w = .ok s w)
    (hx : ev L x = some (.slice (some ⟨b, o, none⟩) n c)) (hy : ev L y = some (.int k i)) (hi : 0 ≤ i ∧ i < n) : Val P L (.indexAddr t x y) ty w (.pointer (some ⟨b, o + i.toNat * s, none⟩)) w := fun ρ hρ _ _ _ _ => by
  simp [execOp, hρ _ _ hx, hρ _ _ hy, Instr.indexAt, asIntOf, run_underlying ht, hi, hs, add_at]
theorem r_index_arr {t e : TypeId} {b o m s : Nat} {k : IntKind} {i : Int} (ht : P.underlying t = some (.array m e)) (hs : ∀ w, (sizeOf e).run P w = .ok s w)
    (hx : ev L x = some (.pointer (some ⟨b, o, none⟩))) (hy : ev L y = some (.int k i)) (hi : 0 ≤ i ∧ i < m) : Val P L (.indexAddr t x y) ty w (.pointer (some ⟨b, o + i.toNat * s, none⟩)) w := fun ρ hρ _ _ _ _ => by
  simp [execOp, hρ _ _ hx, hρ _ _ hy, Instr.indexAt, asIntOf, run_underlying ht, hi, hs, add_at, Instr.sureAddr]

/-- What type is no struct and no array. -/
def plainTy (P : Program) (t : TypeId) : Bool := match P.underlying t with | some (.struct _) | some (.array _ _) => false | some _ => true | none => false
theorem plain_of {P : Program} {t : TypeId} {d : TypeDesc} (h : P.underlying t = some d) (hd : (match d with | .struct _ => false | .array _ _ => false | _ => true) = true) : plainTy P t = true := by
  unfold plainTy; rw [h]; cases d <;> simp_all
theorem plain_no {P : Program} {t : TypeId} {d : TypeDesc} (h : P.underlying t = some d) (hd : (match d with | .struct _ => false | .array _ _ => false | _ => true) = false) : plainTy P t = false := by
  unfold plainTy; rw [h]; cases d <;> simp_all
theorem run_isAgg_no {t : TypeId} (h : plainTy P t = true) (w : World) : (isAgg t).run P w = .ok false w := by
  unfold plainTy at h
  unfold isAgg
  cases hu : P.underlying t with
  | none => simp [hu] at h
  | some d => cases d <;> simp [hu] at h <;> simp [run_underlying hu]
theorem run_isAgg_yes {t : TypeId} (hs : (P.underlying t).isSome = true) (h : plainTy P t = false) (w : World) : (isAgg t).run P w = .ok true w := by
  unfold plainTy at h
  unfold isAgg
  cases hu : P.underlying t with
  | none => simp [hu] at hs
  | some d => cases d <;> simp [hu] at h <;> simp [run_underlying hu]
theorem r_load {t : TypeId} {a : Addr} (ht : plainTy P t = true) (hx : ev L x = some (.pointer (some a))) (hc : w.cell? a = some v) : Val P L (.load t x) ty w v w := fun ρ hρ _ _ _ _ => by
  simp [execOp, hρ _ _ hx, Instr.loadAt, Instr.sureAddr, loadVar, run_isAgg_no ht, hc]
/-- A struct or an array is read whole. -/
theorem r_load_agg {t : TypeId} {b o n : Nat} {cs : List Value} (hu : (P.underlying t).isSome = true) (ht : plainTy P t = false) (hs : ∀ w, (sizeOf t).run P w = .ok n w) (hn : cs.length = n)
    (hx : ev L x = some (.pointer (some ⟨b, o, none⟩))) (hc : ∀ j u, cs[j]? = some u → w.cell? ⟨b, o + j, none⟩ = some u) : Val P L (.load t x) ty w (.agg cs.toArray) w := fun ρ hρ _ _ _ _ => by
  have h1 := run_loadCells_list (P := P) (w := w) ⟨b, o, none⟩ cs (fun j u hj => by rw [add_at]; exact hc j u hj)
  rw [hn] at h1
  simp [execOp, hρ _ _ hx, Instr.loadAt, Instr.sureAddr, loadVar, run_isAgg_yes hu ht, hs, h1]
theorem cell_of_blk {b o : Nat} {cs : Array Value} {t : TypeId} {fr : Nat × Nat} (hb : w.heap[b]? = some (.cells cs t fr)) (hi : cs[o]? = some v) : w.cell? ⟨b, o, none⟩ = some v := by simp [World.cell?, hb, hi]
theorem free_of_blk {b o : Nat} {cs : Array Value} {t : TypeId} (hb : w.heap[b]? = some (.cells cs t (0, 0))) : w.frozen? ⟨b, o, none⟩ = false := by simp [World.frozen?, hb]
theorem r_store {t : TypeId} {b o : Nat} {cs : Array Value} {et : TypeId} {u : Value} (hs : ∀ w, (sizeOf t).run P w = .ok 1 w) (hx : ev L x = some (.pointer (some ⟨b, o, none⟩))) (hy : ev L y = some u) (h1 : u.oneCell' = true)
    (hb : w.heap[b]? = some (.cells cs et (0, 0))) (ho : o < cs.size) : Runs P L (.store t x y) ty w (.ok .skip (w.setCell ⟨b, o, none⟩ u)) := fun ρ hρ _ _ _ _ => by
  have hc : w.cell? ⟨b, o, none⟩ = some cs[o] := cell_of_blk hb (by simp [ho])
  have hv : u.cells = #[u] := by cases u <;> simp_all [Value.cells, Value.oneCell']
  simp only [execOp, hρ _ _ hx, hρ _ _ hy]
  simp only [Instr.storeAt, Instr.sureAddr, Sem.run_bind, Sem.run_pure, Result.andThen_ok, storeVar, hs, hv]
  simp [storeCells, run_store _ _ _ _ _ h1, hc, free_of_blk hb, Addr.add_zero']
theorem r_alloc {t : TypeId} {z : Value} (hz : ∀ w, (zeroValue t).run P w = .ok z w) : Val P L (.alloc t) ty w (.pointer (some ⟨w.heap.size, 0, none⟩)) (w.alloc (.cells z.cells t)) := fun ρ hρ _ _ _ _ => by
  simp [execOp, Instr.alloc, hz, newVar, newRow]
theorem r_box {t : TypeId} (hx : ev L x = some v) : Val P L (.box t x) ty w (.pointer (some ⟨w.heap.size, 0, none⟩)) (w.alloc (.cells v.cells t)) := fun ρ hρ _ _ _ _ => by
  simp [execOp, hρ _ _ hx, Instr.box, newVar, newRow]

/-! ### what acts on memory -/
section
variable {w0 : World} {F : HP}
theorem e_store {t : TypeId} {b o : Nat} {cs : Array Value} {et : TypeId} {u : Value} (H : Holds w0 w (blk b (.cells cs et (0, 0)) • F)) (hs : ∀ w, (sizeOf t).run P w = .ok 1 w) (hx : ev L x = some (.pointer (some ⟨b, o, none⟩))) (hy : ev L y = some u) (h1 : u.oneCell' = true)
    (ho : o < cs.size) : Eff P L (.store t x y) ty w fun _ w' => Holds w0 w' (blk b (.cells (cs.setIfInBounds o u) et (0, 0)) • F) :=
  e_skip (r_store hs hx hy h1 H.get.2 ho) (H.setCell u)
theorem e_alloc {t : TypeId} {z : Value} (H : Holds w0 w F) (hz : ∀ w, (zeroValue t).run P w = .ok z w) : Eff P L (.alloc t) ty w fun v w' => ∃ b, v = .pointer (some ⟨b, 0, none⟩) ∧ Holds w0 w' (blk b (.cells z.cells t (0, 0)) • F) :=
  e_val (r_alloc hz) ⟨_, rfl, H.alloc _⟩
theorem e_box {t : TypeId} (H : Holds w0 w F) (hx : ev L x = some v) : Eff P L (.box t x) ty w fun u w' => ∃ b, u = .pointer (some ⟨b, 0, none⟩) ∧ Holds w0 w' (blk b (.cells v.cells t (0, 0)) • F) :=
  e_val (r_box hx) ⟨_, rfl, H.alloc _⟩
end
end
end Go.Proofs.Ytgoopiakpbcgoaa
