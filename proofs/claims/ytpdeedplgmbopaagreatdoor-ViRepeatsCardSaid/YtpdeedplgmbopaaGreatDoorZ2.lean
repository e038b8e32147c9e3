import Derived.Test.YtpdeedplgmbopaaGreatDoorZ1
import Derived.OrdersIn
set_option linter.unusedSimpArgs false
set_option linter.unusedVariables false
/- Texts of mine, joined, their names in short: Ops Draw Short. -/
section
namespace Go.Proofs.YtpdeedplgmbopaaGreatDoor
open Go.RowKit
theorem wrap_i64 {x : Int} (h : -9223372036854775808 ≤ x ∧ x ≤ 9223372036854775807) : IntKind.i64.wrap x = x := IntWalk.i64_in x h
section
variable {P : Program} {L : List (Nat × Value)} {w : World} {ty : TypeId} {x y c : Operand} {v u : Value}
theorem EX {op : Op} {b : Bool} {w' : World} (h : Val P L op ty w (.bool b) w') (hb : b = true) : Val P L op ty w (.bool true) w' := hb ▸ h
theorem Po {op : Op} {b : Bool} {w' : World} (h : Val P L op ty w (.bool b) w') (hb : b = false) : Val P L op ty w (.bool false) w' := hb ▸ h
theorem Om {op : Op} {v v' : Value} (h : Val P L op ty w v w) (e : v = v') : Val P L op ty w v' w := e ▸ h
theorem Gp (hx : ev L x = some v) : Val P L (.move x) ty w v w := fun ρ hρ _ _ _ _ => by simp [execOp, hρ _ _ hx]
theorem dB (hx : ev L x = some v) : Val P L (.assign x) ty w v w := fun ρ hρ _ _ _ _ => by simp [execOp, hρ _ _ hx]
theorem G6 {a b : Operand} (hc : ev L c = some (.bool true)) (ha : ev L a = some v) : Val P L (.pick c a b) ty w v w := fun ρ hρ _ _ _ _ => by
  simp [execOp, hρ _ _ hc, hρ _ _ ha, asBool]
theorem Ac {a b : Operand} (hc : ev L c = some (.bool false)) (hb : ev L b = some v) : Val P L (.pick c a b) ty w v w := fun ρ hρ _ _ _ _ => by
  simp [execOp, hρ _ _ hc, hρ _ _ hb, asBool]
theorem SG {a : Addr} (hx : ev L x = some (.pointer (some a))) : Val P L (.nilCheck x) ty w (.pointer (some a)) w := fun ρ hρ _ _ _ _ => by
  simp [execOp, hρ _ _ hx]
theorem pJ {vs : Array Value} {i : Nat} (hx : ev L x = some (.tuple vs)) (hi : vs[i]? = some v) : Val P L (.extract x i) ty w v w := fun ρ hρ _ _ _ _ => by
  simp [execOp, hρ _ _ hx, Instr.extract, hi]
theorem kG {b : Bool} {t : TypeId} (hx : ev L x = some (.bool b)) : Val P L (.unOp .not t x) ty w (.bool (!b)) w := fun ρ hρ _ _ _ _ => by
  simp [execOp, hρ _ _ hx, Op.unary]
theorem ad1 {n : Int} {t : TypeId} (hx : ev L x = some (.int .i64 n)) (hb : -9223372036854775808 ≤ 0 - n ∧ 0 - n ≤ 9223372036854775807) : Val P L (.unOp .neg t x) ty w (.int .i64 (-n)) w := fun ρ hρ _ _ _ _ => by
  simp only [execOp, hρ _ _ hx, Op.unary, Op.intArith, wrap_i64 hb]; simp
def FV (L : List (Nat × Value)) : List Operand → Option (List Value)
  | [] => some []
  | x :: r => match ev L x with
    | some v => match FV L r with
      | some vs => some (v :: vs)
      | none => none
    | none => none
theorem evs {ρ : Operand → Value} (hρ : ∀ x u, ev L x = some u → ρ x = u) : ∀ (xs : List Operand) (vs : List Value), FV L xs = some vs → xs.map ρ = vs
  | [], vs, h => by simp [FV] at h; simp [h]
  | x :: xs, vs, h => by
    simp only [FV] at h
    cases h1 : ev L x with
    | none => simp [h1] at h
    | some v =>
      cases h2 : FV L xs with
      | none => simp [h1, h2] at h
      | some us =>
        simp [h1, h2] at h
        subst h
        simp [hρ _ _ h1, evs hρ xs us h2]
theorem aeO {ρ : Operand → Value} (hρ : ∀ x u, ev L x = some u → ρ x = u) (xs : List Operand) (vs : List Value) (h : FV L xs = some vs) : xs.toArray.map ρ = vs.toArray := by
  apply Array.ext'
  simpa using evs hρ _ _ h
theorem Ad {fn : Fn} {first cap : List Operand} {f c : List Value} (hf : FV L first = some f) (hc : FV L cap = some c) : Val P L (.makeFunc fn first.toArray cap.toArray) ty w (.func fn f.toArray c.toArray) w := fun ρ hρ _ _ _ _ => by
  simp only [execOp, Instr.makeFunc, aeO hρ _ _ hf, aeO hρ _ _ hc]; rfl
section
variable {k : IntKind} {m n : Int} {t t' : TypeId}
theorem Ae (o : BinOp) {r : Value} (hx : ev L x = some (.int k m)) (hy : ev L y = some (.int k n)) (ho : o ≠ .shl ∧ o ≠ .shr)
    (h : (binOp o t (.int k m) (.int k n)).run P w = .ok r w) : Val P L (.binOp o t x y t') ty w r w := fun ρ hρ _ _ _ _ => by
  simp only [execOp, hρ _ _ hx, hρ _ _ hy]
  have : (eqGuard o t x y (.int k m) (.int k n)).run P w = .ok () w := by unfold eqGuard; split <;> rfl
  simp [this, h]
theorem fQ (hx : ev L x = some (.int .i64 m)) (hy : ev L y = some (.int .i64 n)) (hb : -9223372036854775808 ≤ m + n ∧ m + n ≤ 9223372036854775807) : Val P L (.binOp .add t x y t') ty w (.int .i64 (m + n)) w :=
  Ae .add hx hy (by decide) (by simp only [binOp, ne_eq, not_true_eq_false, if_false, Op.intArith, wrap_i64 hb]; rfl)
theorem jk (hx : ev L x = some (.int .i64 m)) (hy : ev L y = some (.int .i64 n)) (hb : -9223372036854775808 ≤ m - n ∧ m - n ≤ 9223372036854775807) : Val P L (.binOp .sub t x y t') ty w (.int .i64 (m - n)) w :=
  Ae .sub hx hy (by decide) (by simp only [binOp, ne_eq, not_true_eq_false, if_false, Op.intArith, wrap_i64 hb]; rfl)
theorem XE (hx : ev L x = some (.int .i64 m)) (hy : ev L y = some (.int .i64 n)) (hb : -9223372036854775808 ≤ m * n ∧ m * n ≤ 9223372036854775807) : Val P L (.binOp .mul t x y t') ty w (.int .i64 (m * n)) w :=
  Ae .mul hx hy (by decide) (by simp only [binOp, ne_eq, not_true_eq_false, if_false, Op.intArith, wrap_i64 hb]; rfl)
theorem I8 (hx : ev L x = some (.int k m)) (hy : ev L y = some (.int k n)) : Val P L (.binOp .add t x y t') ty w (.int k (k.wrap (m + n))) w :=
  Ae .add hx hy (by decide) (by simp only [binOp, ne_eq, not_true_eq_false, if_false, Op.intArith]; rfl)
theorem Gq (hx : ev L x = some (.int k m)) (hy : ev L y = some (.int k n)) : Val P L (.binOp .sub t x y t') ty w (.int k (k.wrap (m - n))) w :=
  Ae .sub hx hy (by decide) (by simp only [binOp, ne_eq, not_true_eq_false, if_false, Op.intArith]; rfl)
theorem aag (hx : ev L x = some (.int k m)) (hy : ev L y = some (.int k n)) : Val P L (.binOp .mul t x y t') ty w (.int k (k.wrap (m * n))) w :=
  Ae .mul hx hy (by decide) (by simp only [binOp, ne_eq, not_true_eq_false, if_false, Op.intArith]; rfl)
theorem aah (hx : ev L x = some (.int k m)) (hy : ev L y = some (.int k n)) (hm : 0 ≤ m) (hn : 0 < n) : Val P L (.binOp .rem t x y t') ty w (.int k (m % n)) w :=
  Ae .rem hx hy (by decide) (by
    simp only [binOp, ne_eq, not_true_eq_false, if_false, Op.intDiv]
    rw [if_neg (by omega), Int.tmod_eq_emod_of_nonneg hm]; rfl)
theorem Vx (hx : ev L x = some (.int k m)) (hy : ev L y = some (.int k n)) (hn : n ≠ 0) : Val P L (.binOp .rem t x y t') ty w (.int k (m.tmod n)) w :=
  Ae .rem hx hy (by decide) (by
    simp only [binOp, ne_eq, not_true_eq_false, if_false, Op.intDiv]
    rw [if_neg hn]; rfl)
theorem eF (hx : ev L x = some (.int k m)) (hy : ev L y = some (.int k n)) : Val P L (.binOp .eql t x y t') ty w (.bool (m == n)) w :=
  Ae .eql hx hy (by decide) (by simp only [binOp, ne_eq, not_true_eq_false, if_false, Op.intCmp]; rfl)
theorem gY (hx : ev L x = some (.int k m)) (hy : ev L y = some (.int k n)) : Val P L (.binOp .neq t x y t') ty w (.bool (m != n)) w :=
  Ae .neq hx hy (by decide) (by simp only [binOp, ne_eq, not_true_eq_false, if_false, Op.intCmp]; rfl)
theorem gW (hx : ev L x = some (.int k m)) (hy : ev L y = some (.int k n)) : Val P L (.binOp .lss t x y t') ty w (.bool (decide (m < n))) w :=
  Ae .lss hx hy (by decide) (by simp only [binOp, ne_eq, not_true_eq_false, if_false, Op.intCmp]; rfl)
theorem pV (hx : ev L x = some (.int k m)) (hy : ev L y = some (.int k n)) : Val P L (.binOp .leq t x y t') ty w (.bool (decide (m ≤ n))) w :=
  Ae .leq hx hy (by decide) (by simp only [binOp, ne_eq, not_true_eq_false, if_false, Op.intCmp]; rfl)
theorem eX (hx : ev L x = some (.int k m)) (hy : ev L y = some (.int k n)) : Val P L (.binOp .gtr t x y t') ty w (.bool (decide (m > n))) w :=
  Ae .gtr hx hy (by decide) (by simp only [binOp, ne_eq, not_true_eq_false, if_false, Op.intCmp]; rfl)
theorem lI (hx : ev L x = some (.int k m)) (hy : ev L y = some (.int k n)) : Val P L (.binOp .geq t x y t') ty w (.bool (decide (m ≥ n))) w :=
  Ae .geq hx hy (by decide) (by simp only [binOp, ne_eq, not_true_eq_false, if_false, Op.intCmp]; rfl)
theorem aeP (o : BinOp) {r : Int} (hx : ev L x = some (.int k m)) (hy : ev L y = some (.int k n)) (ho : o = .and ∨ o = .or ∨ o = .xor ∨ o = .andNot) (hr : (Op.intBits o k m n).run P w = .ok (.int k r) w) : Val P L (.binOp o t x y t') ty w (.int k r) w :=
  Ae o hx hy (by rcases ho with rfl | rfl | rfl | rfl <;> decide) (by rcases ho with rfl | rfl | rfl | rfl <;> simp [binOp, hr])
theorem sU {src dst : TypeId} {k k' : IntKind} {n : Int} (hx : ev L x = some (.int k n)) (hs : (P.underlying src).isSome = true) (hd : P.underlying dst = some (.int k')) (hw : k'.wrap n = n) : Val P L (.convert src dst x) ty w (.int k' n) w := fun ρ hρ _ _ _ _ => by
  obtain ⟨ds, hs'⟩ := Option.isSome_iff_exists.1 hs
  simp only [execOp, hρ _ _ hx]
  simp [convert, run_underlying hs', run_underlying hd, Conv.intToInt, hw]
end
theorem Vy {t t' : TypeId} {a b : Bool} (ht : P.underlying t = some .bool) (hx : ev L x = some (.bool a)) (hy : ev L y = some (.bool b)) : Val P L (.binOp .neq t x y t') ty w (.bool (!(a == b))) w := fun ρ hρ _ _ _ _ => by
  simp only [execOp, hρ _ _ hx, hρ _ _ hy]
  have : (eqGuard .neq t x y (.bool a) (.bool b)).run P w = .ok () w := by unfold eqGuard; rfl
  simp [this, run_neq_bool w t a b ht]
theorem EY {t : TypeId} {a b : Value} {r : Result Bool} (h : ∀ d, (Op.equalIn (d + 1) t a b).run P w = r) : (Op.equal t a b).run P w = r := h 9999
theorem iJ {t t' e : TypeId} {p : Option Addr} (ht : P.underlying t = some (.pointer e)) (hx : ev L x = some (.pointer p)) (hy : ev L y = some (.pointer none)) : Val P L (.binOp .eql t x y t') ty w (.bool p.isNone) w := fun ρ hρ _ _ _ _ => by
  simp only [execOp, hρ _ _ hx, hρ _ _ hy]
  have h1 : (eqGuard .eql t x y (.pointer p) (.pointer none)).run P w = .ok () w := by unfold eqGuard; rfl
  have h2 : (Op.equal t (.pointer p) (.pointer none)).run P w = .ok p.isNone w := EY fun d => by cases p <;> simp [Op.equalIn, run_underlying ht]
  have h3 : binOp .eql t (.pointer p) (.pointer none) = (do pure (.bool (← Op.equal t (.pointer p) (.pointer none)))) := by cases p <;> rfl
  simp only [Sem.run_bind, h1, Result.andThen, h3, h2]
  simp
theorem Af {t t' e : TypeId} {p : Option Addr} (ht : P.underlying t = some (.pointer e)) (hx : ev L x = some (.pointer p)) (hy : ev L y = some (.pointer none)) : Val P L (.binOp .neq t x y t') ty w (.bool p.isSome) w := fun ρ hρ _ _ _ _ => by
  simp only [execOp, hρ _ _ hx, hρ _ _ hy]
  have h1 : (eqGuard .neq t x y (.pointer p) (.pointer none)).run P w = .ok () w := by unfold eqGuard; rfl
  have h2 : (Op.equal t (.pointer p) (.pointer none)).run P w = .ok p.isNone w := EY fun d => by cases p <;> simp [Op.equalIn, run_underlying ht]
  have h3 : binOp .neq t (.pointer p) (.pointer none) = (do pure (.bool (!(← Op.equal t (.pointer p) (.pointer none))))) := by cases p <;> rfl
  simp only [Sem.run_bind, h1, Result.andThen, h3, h2]
  cases p <;> simp
theorem D6 {t t' e : TypeId} {a : Option Addr} {n c : Nat} (ht : P.underlying t = some (.slice e)) (hx : ev L x = some (.slice a n c)) (hy : ev L y = some (.slice none 0 0)) : Val P L (.binOp .eql t x y t') ty w (.bool a.isNone) w := fun ρ hρ _ _ _ _ => by
  simp only [execOp, hρ _ _ hx, hρ _ _ hy]
  have h1 : (eqGuard .eql t x y (.slice a n c) (.slice none 0 0)).run P w = .ok () w := by unfold eqGuard; rfl
  have h2 : (Op.equal t (.slice a n c) (.slice none 0 0)).run P w = .ok a.isNone w := EY fun d => by cases a <;> simp [Op.equalIn, run_underlying ht]
  have h3 : binOp .eql t (.slice a n c) (.slice none 0 0) = (do pure (.bool (← Op.equal t (.slice a n c) (.slice none 0 0)))) := by rfl
  simp only [Sem.run_bind, h1, Result.andThen, h3, h2]
  simp
theorem ad2 (o : BinOp) {t t' : TypeId} {a b : ByteArray} {r : Value} (hx : ev L x = some (.string a)) (hy : ev L y = some (.string b)) (h : (Op.stringOp o a b).run P w = .ok r w) (ho : o ≠ .shl ∧ o ≠ .shr) : Val P L (.binOp o t x y t') ty w r w := fun ρ hρ _ _ _ _ => by
  simp only [execOp, hρ _ _ hx, hρ _ _ hy]
  have : (eqGuard o t x y (.string a) (.string b)).run P w = .ok () w := by unfold eqGuard; split <;> rfl
  simp only [Sem.run_bind, this, Result.andThen]
  rw [show binOp o t (.string a) (.string b) = Op.stringOp o a b from by cases o <;> rfl, h]
  rfl
theorem bY {t t' : TypeId} {a b : ByteArray} (hx : ev L x = some (.string a)) (hy : ev L y = some (.string b)) : Val P L (.binOp .eql t x y t') ty w (.bool (a.toList == b.toList)) w := ad2 .eql hx hy rfl (by decide)
theorem kM {t t' : TypeId} {a b : ByteArray} (hx : ev L x = some (.string a)) (hy : ev L y = some (.string b)) : Val P L (.binOp .neq t x y t') ty w (.bool (!(a.toList == b.toList))) w := ad2 .neq hx hy rfl (by decide)
theorem rU {P : Program} {w : World} {ty : TypeId} {b : Builtin} {args : List Operand} {ts : Array TypeId} {vs : List Value} {r : Result Next} (ha : FV L args = some vs)
    (h : ∀ consts, (builtin b ts ty consts vs.toArray).run P w = r) : Kw P L (.call ⟨.builtin b, args.toArray, ts⟩) ty w r := fun ρ hρ _ _ _ _ => by
  simp only [execOp, resolve, Sem.run_bind, Sem.run_pure, Result.andThen_ok, invoke, aeO hρ _ _ ha]
  exact h _
theorem jH {t e : TypeId} {a : Option Addr} {n c : Nat} (ht : P.underlying t = some (.slice e)) (hx : ev L x = some (.slice a n c)) : Val P L (.call ⟨.builtin .len, #[x], #[t]⟩) ty w (.int .i64 n) w :=
  rU (vs := [.slice a n c]) (by simp [FV, hx]) fun _ => by simp [builtin, Builtin.len_, run_underlying ht, goInt]
theorem ad3 {t e : TypeId} {a : Option Addr} {n c : Nat} (ht : P.underlying t = some (.slice e)) (hx : ev L x = some (.slice a n c)) : Val P L (.call ⟨.builtin .cap, #[x], #[t]⟩) ty w (.int .i64 c) w :=
  rU (vs := [.slice a n c]) (by simp [FV, hx]) fun _ => by simp [builtin, Builtin.cap_, run_underlying ht, goInt]
theorem wO {k : IntKind} {m n : Int} {ts : Array TypeId} (hx : ev L x = some (.int k m)) (hy : ev L y = some (.int k n)) : Val P L (.call ⟨.builtin .min, #[x, y], ts⟩) ty w (.int k (min m n)) w :=
  rU (vs := [.int k m, .int k n]) (by simp [FV, hx, hy]) fun _ => by
    simp only [builtin, Sem.run_bind]
    rw [run_min_int2]
    have : (if n < m then n else m) = min m n := by omega
    simp [this]
theorem SH {k : IntKind} {m n : Int} {ts : Array TypeId} (hx : ev L x = some (.int k m)) (hy : ev L y = some (.int k n)) : Val P L (.call ⟨.builtin .max, #[x, y], ts⟩) ty w (.int k (max m n)) w :=
  rU (vs := [.int k m, .int k n]) (by simp [FV, hx, hy]) fun _ => by
    simp only [builtin, Sem.run_bind]
    rw [run_max_int2]
    have : (if n > m then n else m) = max m n := by omega
    simp [this]
theorem Ag {f : FuncId} {args : List Operand} {ts : Array TypeId} {vs : List Value} {fn : Func} {c : Code} (ha : FV L args = some vs)
    (hf : P.funcs[f]? = some fn) (hn : (fn.name == "runtime.NumGoroutine") = false) (hb : fn.body = some c) : Kw P L (.call ⟨.value (.func f), args.toArray, ts⟩) ty w (.ok (.enter f vs.toArray) w) := fun ρ hρ _ _ _ _ => by
  have hg : ρ (.func f) = .func (.func f) #[] #[] := hρ _ _ rfl
  simp [execOp, resolve, invoke, evs hρ _ _ ha, hg, Deferred.ofValue, callFunc, hf, hb]; simpa using hn
theorem Vz {f : FuncId} {x : Operand} {args : List Operand} {ts : Array TypeId} {vs first cap : List Value} {fn : Func} {c : Code} (hx : ev L x = some (.func (.func f) first.toArray cap.toArray)) (ha : FV L args = some vs)
    (hf : P.funcs[f]? = some fn) (hn : (fn.name == "runtime.NumGoroutine") = false) (hb : fn.body = some c) : Kw P L (.call ⟨.value x, args.toArray, ts⟩) ty w (.ok (.enter f (first ++ vs ++ cap).toArray) w) := fun ρ hρ _ _ _ _ => by
  have hg := hρ _ _ hx
  simp [execOp, resolve, invoke, evs hρ _ _ ha, hg, Deferred.ofValue, callFunc, hf, hb]; simpa using hn
theorem acD {t : TypeId} {fs : Array Field} {f : Field} {i b o : Nat} (off : Nat) (ht : P.underlying t = some (.struct fs)) (hf : fs[i]? = some f) (ho : f.offset = off) {n : Nat} (hs : ∀ w, (sizeOf f.type).run P w = .ok n w) (hn : n ≠ 0)
    (hx : ev L x = some (.pointer (some ⟨b, o, none⟩))) : Val P L (.fieldAddr t x i) ty w (.pointer (some ⟨b, o + off, none⟩)) w := fun ρ hρ _ _ _ _ => by
  simp [execOp, hρ _ _ hx, Instr.fieldAt, run_underlying ht, hf, Instr.sureAddr, fieldPlace, hs, hn, vw, ho]
theorem G9 {t : TypeId} {fs : Array Field} {f : Field} {i b o o' : Nat} (off : Nat) (ht : P.underlying t = some (.struct fs)) (hf : fs[i]? = some f) (ho : f.offset = off) {n : Nat} (hs : ∀ w, (sizeOf f.type).run P w = .ok n w) (hn : n ≠ 0)
    (hx : ev L x = some (.pointer (some ⟨b, o, none⟩))) (he : o + off = o') : Val P L (.fieldAddr t x i) ty w (.pointer (some ⟨b, o', none⟩)) w := he ▸ acD off ht hf ho hs hn hx
theorem dM {t e : TypeId} {b o n c s : Nat} {k : IntKind} {i : Int} (ht : P.underlying t = some (.slice e)) (hs : ∀ w, (sizeOf e).run P w = .ok s w)
    (hx : ev L x = some (.slice (some ⟨b, o, none⟩) n c)) (hy : ev L y = some (.int k i)) (hi : 0 ≤ i ∧ i < n) : Val P L (.indexAddr t x y) ty w (.pointer (some ⟨b, o + i.toNat * s, none⟩)) w := fun ρ hρ _ _ _ _ => by
  simp [execOp, hρ _ _ hx, hρ _ _ hy, Instr.indexAt, asIntOf, run_underlying ht, hi, hs, vw]
theorem Bf {t e : TypeId} {b o m s : Nat} {k : IntKind} {i : Int} (ht : P.underlying t = some (.array m e)) (hs : ∀ w, (sizeOf e).run P w = .ok s w)
    (hx : ev L x = some (.pointer (some ⟨b, o, none⟩))) (hy : ev L y = some (.int k i)) (hi : 0 ≤ i ∧ i < m) : Val P L (.indexAddr t x y) ty w (.pointer (some ⟨b, o + i.toNat * s, none⟩)) w := fun ρ hρ _ _ _ _ => by
  simp [execOp, hρ _ _ hx, hρ _ _ hy, Instr.indexAt, asIntOf, run_underlying ht, hi, hs, vw, Instr.sureAddr]
def ug (P : Program) (t : TypeId) : Bool := match P.underlying t with | some (.struct _) | some (.array _ _) => false | some _ => true | none => false
theorem dA {P : Program} {t : TypeId} {d : TypeDesc} (h : P.underlying t = some d) (hd : (match d with | .struct _ => false | .array _ _ => false | _ => true) = true) : ug P t = true := by
  unfold ug; rw [h]; cases d <;> simp_all
theorem SI {P : Program} {t : TypeId} {d : TypeDesc} (h : P.underlying t = some d) (hd : (match d with | .struct _ => false | .array _ _ => false | _ => true) = false) : ug P t = false := by
  unfold ug; rw [h]; cases d <;> simp_all
theorem He {t : TypeId} (h : ug P t = true) (w : World) : (isAgg t).run P w = .ok false w := by
  unfold ug at h
  unfold isAgg
  cases hu : P.underlying t with
  | none => simp [hu] at h
  | some d => cases d <;> simp [hu] at h <;> simp [run_underlying hu]
theorem Oo {t : TypeId} (hs : (P.underlying t).isSome = true) (h : ug P t = false) (w : World) : (isAgg t).run P w = .ok true w := by
  unfold ug at h
  unfold isAgg
  cases hu : P.underlying t with
  | none => simp [hu] at hs
  | some d => cases d <;> simp [hu] at h <;> simp [run_underlying hu]
theorem fF {t : TypeId} {a : Addr} (ht : ug P t = true) (hx : ev L x = some (.pointer (some a))) (hc : w.cell? a = some v) : Val P L (.load t x) ty w v w := fun ρ hρ _ _ _ _ => by
  simp [execOp, hρ _ _ hx, Instr.loadAt, Instr.sureAddr, loadVar, He ht, hc]
theorem CZ {t : TypeId} {b o n : Nat} {cs : List Value} (hu : (P.underlying t).isSome = true) (ht : ug P t = false) (hs : ∀ w, (sizeOf t).run P w = .ok n w) (hn : cs.length = n)
    (hx : ev L x = some (.pointer (some ⟨b, o, none⟩))) (hc : ∀ j u, cs[j]? = some u → w.cell? ⟨b, o + j, none⟩ = some u) : Val P L (.load t x) ty w (.agg cs.toArray) w := fun ρ hρ _ _ _ _ => by
  have h1 := run_loadCells_list (P := P) (w := w) ⟨b, o, none⟩ cs (fun j u hj => by rw [vw]; exact hc j u hj)
  rw [hn] at h1
  simp [execOp, hρ _ _ hx, Instr.loadAt, Instr.sureAddr, loadVar, Oo hu ht, hs, h1]
theorem kS {b o : Nat} {cs : Array Value} {t : TypeId} {fr : Nat × Nat} (hb : w.heap[b]? = some (.cells cs t fr)) (hi : cs[o]? = some v) : w.cell? ⟨b, o, none⟩ = some v := by simp [World.cell?, hb, hi]
theorem D7 {b o : Nat} {cs : Array Value} {t : TypeId} (hb : w.heap[b]? = some (.cells cs t (0, 0))) : w.frozen? ⟨b, o, none⟩ = false := by simp [World.frozen?, hb]
theorem acE {t : TypeId} {b o : Nat} {cs : Array Value} {et : TypeId} {u : Value} (hs : ∀ w, (sizeOf t).run P w = .ok 1 w) (hx : ev L x = some (.pointer (some ⟨b, o, none⟩))) (hy : ev L y = some u) (h1 : u.oneCell' = true)
    (hb : w.heap[b]? = some (.cells cs et (0, 0))) (ho : o < cs.size) : Kw P L (.store t x y) ty w (.ok .skip (w.setCell ⟨b, o, none⟩ u)) := fun ρ hρ _ _ _ _ => by
  have hc : w.cell? ⟨b, o, none⟩ = some cs[o] := kS hb (by simp [ho])
  have hv : u.cells = #[u] := by cases u <;> simp_all [Value.cells, Value.oneCell']
  simp only [execOp, hρ _ _ hx, hρ _ _ hy]
  simp only [Instr.storeAt, Instr.sureAddr, Sem.run_bind, Sem.run_pure, Result.andThen_ok, storeVar, hs, hv]
  simp [storeCells, run_store _ _ _ _ _ h1, hc, D7 hb, Addr.add_zero']
theorem acF {t : TypeId} {z : Value} (hz : ∀ w, (zeroValue t).run P w = .ok z w) : Val P L (.alloc t) ty w (.pointer (some ⟨w.heap.size, 0, none⟩)) (w.alloc (.cells z.cells t)) := fun ρ hρ _ _ _ _ => by
  simp [execOp, Instr.alloc, hz, newVar, newRow]
theorem agb {t : TypeId} (hx : ev L x = some v) : Val P L (.box t x) ty w (.pointer (some ⟨w.heap.size, 0, none⟩)) (w.alloc (.cells v.cells t)) := fun ρ hρ _ _ _ _ => by
  simp [execOp, hρ _ _ hx, Instr.box, newVar, newRow]
section
variable {w0 : World} {F : HP}
theorem kH {t : TypeId} {b o : Nat} {cs : Array Value} {et : TypeId} {u : Value} (H : V w0 w (eP b (.cells cs et (0, 0)) • F)) (hs : ∀ w, (sizeOf t).run P w = .ok 1 w) (hx : ev L x = some (.pointer (some ⟨b, o, none⟩))) (hy : ev L y = some u) (h1 : u.oneCell' = true)
    (ho : o < cs.size) : xU P L (.store t x y) ty w fun _ w' => V w0 w' (eP b (.cells (cs.setIfInBounds o u) et (0, 0)) • F) :=
  LC (acE hs hx hy h1 H.get.2 ho) (H.setCell u)
theorem Bg {t : TypeId} {z : Value} (H : V w0 w F) (hz : ∀ w, (zeroValue t).run P w = .ok z w) : xU P L (.alloc t) ty w fun v w' => ∃ b, v = .pointer (some ⟨b, 0, none⟩) ∧ V w0 w' (eP b (.cells z.cells t (0, 0)) • F) :=
  vJ (acF hz) ⟨_, rfl, H.alloc _⟩
theorem XF {t : TypeId} (H : V w0 w F) (hx : ev L x = some v) : xU P L (.box t x) ty w fun u w' => ∃ b, u = .pointer (some ⟨b, 0, none⟩) ∧ V w0 w' (eP b (.cells v.cells t (0, 0)) • F) :=
  vJ (agb hx) ⟨_, rfl, H.alloc _⟩
end
end
def wP (ops : Array Oper) : Nat → Nat → Nat → Bool
  | 0, _, _ => false
  | n + 1, z, k => match ops[z]? with
    | none => false
    | some o => o.after.any fun e => Region.binds .any e && (Nat.beq e.on k || wP ops n e.on k)
def agc (ops : Array Oper) (z : Nat) : Bool := (List.range ops.size).all fun k => Nat.beq k z || wP ops 8 z k
def uH (ops : Array Oper) (qs : List Nat) (j : Nat) : Bool := qs.all fun q => Nat.beq q j || wP ops 12 j q || wP ops 12 q j
def Closed (ops : Array Oper) (listed : Array Bool) : Prop := ∀ (j : Nat) (o : Oper), ops[j]? = some o → listed.getD j false = true → ∀ e ∈ o.after, Region.binds .any e = true → listed.getD e.on false = true
def Ah (P : Program) (ops : Array Oper) (Q : Exit → Act → World → Prop) (qs : List Nat) : Nat → (World → Prop) → Array Bool → Act → World → Prop
  | 0, _, listed, a, w => Region.ready .any ops listed = [] ∧ Q .normal a w
  | fuel + 1, S, listed, a, w =>
    (Region.ready .any ops listed = [] → Q .normal a w) ∧
    ∀ i ∈ Region.ready .any ops listed, wpOpIn Fence.wide 0 P ops Q i (fun a' w' => ∃ S' : World → Prop, ((∀ W, S' W → S W) ∨ uH ops qs i = true) ∧ S' w' ∧ Ah P ops Q qs fuel S' (listed.setIfInBounds i true) a' w') a w
section
variable {P : Program} {ops : Array Oper} {Q : Exit → Act → World → Prop} {S : World → Prop} {qs : List Nat}
theorem LD : ∀ (fuel : Nat) (S : World → Prop) (listed : Array Bool) (a : Act) (w : World), Ah P ops Q qs fuel S listed a w → wpAnyIn Fence.wide 0 P .any ops Q fuel listed a w
  | 0, _, _, _, _, h => h
  | fuel + 1, _, _, _, _, h => ⟨h.1, fun i hi => wpOpIn_mono (fun a' w' ⟨S', _, _, h'⟩ => LD fuel S' _ a' w' h') (h.2 i hi)⟩
theorem acG {ro : Option Nat} (hd : pU ops.toList = true) {i : Nat} {K : Act → World → Prop} {a : Act} {w : World} (h : wpOpIn Fence.wide 0 P ops Q i K a w) : wpOpIn (fz ro) 0 P ops Q i K a w := by
  unfold wpOpIn at *
  cases ho : ops[i]? with
  | none => simpa [ho] using h
  | some o =>
    simp only [ho] at h ⊢
    have hno : ∀ c, o.op ≠ .defer c := by
      have key : ∀ (l : List Oper), pU l = true → ∀ x ∈ l, ∀ c, x.op ≠ .defer c := by
        intro l
        induction l with
        | nil => intro _ x hx; cases hx
        | cons y r ih =>
          intro h x hx
          simp only [pU, Bool.and_eq_true] at h
          rcases List.mem_cons.1 hx with rfl | hx
          · exact Lu h.1
          · exact ih h.2 x hx
      exact key _ hd o (by rw [Array.mem_toList_iff]; exact Array.mem_of_getElem? ho)
    split
    · rename_i hw; rw [if_pos hw] at h; exact Pm hno h
    · rename_i hw; rw [if_neg hw] at h; exact h
theorem SK {ro : Option Nat} (hd : pU ops.toList = true) : ∀ (fuel : Nat) (listed : Array Bool) (a : Act) (w : World), wpAnyIn Fence.wide 0 P .any ops Q fuel listed a w → wpAnyIn (fz ro) 0 P .any ops Q fuel listed a w
  | 0, _, _, _, h => h
  | fuel + 1, _, _, _, h => ⟨h.1, fun i hi => acG hd (wpOpIn_mono (fun a' w' h' => SK hd fuel _ a' w' h') (h.2 i hi))⟩
theorem FW {i : Nat} {o : Oper} {v : Value} {a : Act} (hi : ops[i]? = some o) (hy : YieldsIf P ops S o v a)
    {K : Act → World → Prop} {w : World} (hS : S w) (h : K (a.put o.dst v) w) : wpOpIn Fence.wide 0 P ops Q i K a w := by
  unfold wpOpIn
  simp only [hi]
  rcases hy with ⟨hw, hv⟩ | ⟨hw, rfl⟩
  · simp only [hw, if_true]; exact KN (by rw [hv w hS]; exact h)
  · simp only [hw, Bool.false_eq_true, if_false]; exact ⟨fun _ _ => trivial, h⟩
theorem Qx {S' : World → Prop} {o : Oper} {v : Value} {a : Act} (hs : ∀ W, S' W → S W) (hy : YieldsIf P ops S o v a) : YieldsIf P ops S' o v a := hy.imp (fun ⟨h1, h2⟩ => ⟨h1, fun w hw => h2 w (hs w hw)⟩) id
theorem VA {j : Nat} {oi oj : Oper} {v : Value} (hj : ops[j]? = some oj) (hap : oi.apart ops oj = true)
    (hsi : ∀ cs b, oi.op ≠ .select cs b) (hsj : ∀ cs b, oj.op ≠ .select cs b)
    (hQ : ∀ c a w, Q (.panic c) (a.put oi.dst v) w → Q (.panic c) a w) {K : Act → World → Prop} {a : Act} {w : World}
    (hy : YieldsIf P ops S oi v a) (h : wpOpIn Fence.wide 0 P ops Q j K (a.put oi.dst v) w) :
    wpOpIn Fence.wide 0 P ops Q j (fun a' w' => YieldsIf P ops S oi v a' ∧ K (a'.put oi.dst v) w') a w := by
  obtain ⟨h1, h2, h3⟩ := Oper.apart_spec hap
  have keep : ∀ (a : Act), YieldsIf P ops S oi v a → ∀ u, YieldsIf P ops S oi v (a.put oj.dst u) := fun a hy u =>
    hy.of_same (execOp_put oi hsi a oj.dst u h3) (wanted_put oi a oj.dst u h3)
  have keepD : ∀ d, YieldsIf P ops S oi v { a with defers := d :: a.defers } := fun d => hy.of_same rfl rfl
  unfold wpOpIn at *
  simp only [hj] at *
  rw [wanted_put oj a oi.dst v h1] at h
  split
  · rename_i hw
    simp only [hw, if_true] at h
    refine KN ?_
    have h := h.2
    change oj.uponIn Fence.wide 0 P (a.put oi.dst v) K Q ((execOp (a.put oi.dst v).eval oj).run P w) at h
    rw [execOp_put oj hsj a oi.dst v h1] at h
    generalize (execOp a.eval oj).run P w = r at *
    cases r with
    | ok n w' =>
      cases n <;> simp only [Oper.uponIn] at h ⊢
      case value u => exact ⟨keep a hy u, by rw [← Act.put_comm a v u h2]; exact h⟩
      case skip => exact ⟨keep a hy _, by rw [← Act.put_comm a v undef h2]; exact h⟩
      case defer d =>
        refine ⟨keep _ (keepD d) _, ?_⟩
        rw [← Act.put_comm _ v undef h2, ← Act.put_defers]
        exact h
      case enter f args =>
        refine ⟨h.1, CallsIn.mono h.2 fun e w'' he => ?_⟩
        cases e with
        | returned u => exact ⟨keep a hy u, by rw [← Act.put_comm a v u h2]; exact he⟩
        | panicked c => exact hQ _ _ _ he
        | outgrown => exact he
      case row row args => exact ⟨h.1, RowsIn.mono h.2 fun u w'' he => ⟨keep a hy u, by rw [← Act.put_comm a v u h2]; exact he⟩⟩
      case round l f tmps c d =>
        refine ⟨h.1, RoundIn.mono h.2 fun e w'' he => ?_⟩
        cases e with
        | returned u => exact ⟨keep a hy u, by rw [← Act.put_comm a v u h2]; exact he⟩
        | panicked c => exact hQ _ _ _ he
        | outgrown => exact he
    | halt x w' =>
      cases x <;> simp only [Oper.uponIn] at h ⊢
      case panic u => exact hQ _ _ _ h
  · rename_i hw
    simp only [hw, Bool.false_eq_true, if_false] at h
    exact ⟨fun _ _ => trivial, keep a hy _, by rw [← Act.put_comm a v undef h2]; exact h.2⟩
theorem Closed.set {listed : Array Bool} (h : Closed ops listed) {i : Nat} (hi : i ∈ Region.ready .any ops listed) : Closed ops (listed.setIfInBounds i true) := by
  obtain ⟨_, oi, hoi, hall⟩ := mem_ready.1 hi
  intro j o ho hj e he hb
  by_cases hji : j = i
  · subst hji
    rw [hoi] at ho
    cases ho
    exact getD_set_true (hall e he hb)
  · refine getD_set_true (h j o ho ?_ e he hb)
    rw [getD_set_ne false (Ne.symm hji)] at hj
    exact hj
theorem Closed.start (n : Nat) : Closed ops (Array.replicate n false) := by
  intro j o _ hj
  simp [Array.getD_eq_getD_getElem?, Array.getElem?_replicate] at hj
  split at hj <;> simp at hj
theorem DC {listed : Array Bool} (hc : Closed ops listed) : ∀ (n z k : Nat), (∀ o, ops[z]? = some o → ∀ e ∈ o.after, Region.binds .any e = true → listed.getD e.on false = true) → wP ops n z k = true → listed.getD k false = true
  | 0, _, _, _, h => by simp [wP] at h
  | n + 1, z, k, hz, h => by
    unfold wP at h
    cases ho : ops[z]? with
    | none => simp [ho] at h
    | some o =>
      rw [ho] at h
      obtain ⟨e, he, hb⟩ := Array.any_eq_true'.1 h
      simp only [Bool.and_eq_true, Bool.or_eq_true] at hb
      have hl := hz o ho e he hb.1
      rcases hb.2 with h1 | h1
      · rw [← Nat.eq_of_beq_eq_true h1]; exact hl
      · exact DC hc n e.on k (fun o' ho' => hc e.on o' ho' hl) h1
theorem Pq {i j : Nat} {n : Nat} {listed : Array Bool} (hc : Closed ops listed) (hi : i ∈ Region.ready .any ops listed) (hj : j ∈ Region.ready .any ops listed) : wP ops n j i = false := by
  obtain ⟨agd, oi, hoi, _⟩ := mem_ready.1 hi
  obtain ⟨hjun, oj, hoj, hall⟩ := mem_ready.1 hj
  cases hw : wP ops n j i with
  | false => rfl
  | true =>
    have h2 := DC hc n j i (fun o ho e he hb => by rw [hoj] at ho; cases ho; exact hall e he hb) hw
    rcases Nat.lt_or_ge i listed.size with h' | h'
    · simp [h'] at agd h2; rw [agd] at h2; cases h2
    · simp [Array.getElem?_eq_none h'] at h2
theorem VB {i j : Nat} {listed : Array Bool} (hc : Closed ops listed) (hi : i ∈ Region.ready .any ops listed) (hj : j ∈ Region.ready .any ops listed) (hne : ¬ j = i) (hq : i ∈ qs) : uH ops qs j = false := by
  cases hx : uH ops qs j with
  | false => rfl
  | true =>
    have h1 := List.all_eq_true.1 hx i hq
    rw [acz (fun e => hne e.symm), Pq hc hi hj, Pq hc hj hi] at h1
    cases h1
theorem wQ {i : Nat} {oi : Oper} {v : Value} (hi : ops[i]? = some oi) (hsel : ∀ (j : Nat) (o : Oper) cs b, ops[j]? = some o → o.op ≠ .select cs b)
    (hQ : NP Q) :
    ∀ (fuel : Nat) (S : World → Prop) (listed : Array Bool) (a : Act) (w : World), Closed ops listed →
      (∀ j oj, ops[j]? = some oj → j ≠ i → listed.getD j true = false → (∀ e ∈ oj.after, Region.binds .any e = true → e.on ≠ i) → oi.apart ops oj = true) →
      i ∈ Region.ready .any ops listed → (YieldsIf P ops (fun _ => True) oi v a ∨ i ∈ qs ∧ YieldsIf P ops S oi v a) → S w →
      Ah P ops Q qs fuel S (listed.setIfInBounds i true) (a.put oi.dst v) w → Ah P ops Q qs (fuel + 1) S listed a w := by
  intro fuel
  have self : ∀ (S : World → Prop) (a : Act) (w : World) (K : Act → World → Prop), (YieldsIf P ops (fun _ => True) oi v a ∨ i ∈ qs ∧ YieldsIf P ops S oi v a) → S w → K (a.put oi.dst v) w → wpOpIn Fence.wide 0 P ops Q i K a w := by
    rintro S a w K (hy | ⟨_, hy⟩) hS hK
    · exact FW hi hy trivial hK
    · exact FW hi hy hS hK
  induction fuel with
  | zero =>
    intro S listed a w _ _ hr hy hS H
    refine ⟨fun h => (by rw [h] at hr; cases hr), fun j hj => ?_⟩
    by_cases hji : j = i
    · subst hji; exact self S a w _ hy hS ⟨S, .inl fun _ h => h, hS, H⟩
    · have := ready_mono hj hji
      rw [H.1] at this
      cases this
  | succ fuel ih =>
    intro S listed a w hcl hfree hr hy hS H
    refine ⟨fun h => (by rw [h] at hr; cases hr), fun j hj => ?_⟩
    by_cases hji : j = i
    · subst hji; exact self S a w _ hy hS ⟨S, .inl fun _ h => h, hS, H⟩
    · have h1 := H.2 j (ready_mono hj hji)
      obtain ⟨hjun, oj, hoj, hall⟩ := mem_ready.1 hj
      have hnot : ∀ e ∈ oj.after, Region.binds .any e = true → e.on ≠ i := fun e he hb heq => by
        have h1 := hall e he hb
        have h0 := (mem_ready.1 hr).1
        rw [heq] at h1
        rcases Nat.lt_or_ge i listed.size with h' | h'
        · simp [h'] at h0 h1; rw [h0] at h1; cases h1
        · simp [Array.getElem?_eq_none h'] at h1
      have hfree' : ∀ k ok, ops[k]? = some ok → k ≠ i → (listed.setIfInBounds j true).getD k true = false →
          (∀ e ∈ ok.after, Region.binds .any e = true → e.on ≠ i) → oi.apart ops ok = true := fun k ok hk hki hun hno => by
        refine hfree k ok hk hki ?_ hno
        by_cases hjk : j = k
        · subst hjk; exact hjun
        · rw [getD_set_ne true hjk] at hun; exact hun
      have put : ∀ T : World → Prop, YieldsIf P ops T oi v a → wpOpIn Fence.wide 0 P ops Q j (fun a' w' => YieldsIf P ops T oi v a' ∧ ∃ S' : World → Prop, ((∀ W, S' W → S W) ∨ uH ops qs j = true) ∧ S' w' ∧ Ah P ops Q qs fuel S' ((listed.setIfInBounds i true).setIfInBounds j true) (a'.put oi.dst v) w') a w := fun T hyT =>
        VA hoj (hfree j oj hoj hji hjun hnot) (fun cs b => hsel i oi cs b hi) (fun cs b => hsel j oj cs b hoj) (fun c a w h => absurd h (hQ _ _ _)) hyT h1
      rcases hy with hy | ⟨hq, hy⟩
      · refine wpOpIn_mono (fun a' w' h3 => ?_) (put _ hy)
        obtain ⟨hy3, S', hsub, hS3, h4⟩ := h3
        refine ⟨S', hsub, hS3, ih S' (listed.setIfInBounds j true) a' w' (hcl.set hj) hfree' (ready_mono hr (Ne.symm hji)) (.inl hy3) hS3 ?_⟩
        rw [Array.setIfInBounds_comm _ _ hji]
        exact h4
      · have hx := VB hcl hr hj hji hq
        refine wpOpIn_mono (fun a' w' h3 => ?_) (put _ hy)
        obtain ⟨hy3, S', hsub, hS3, h4⟩ := h3
        refine ⟨S', hsub, hS3, ih S' (listed.setIfInBounds j true) a' w' (hcl.set hj) hfree' (ready_mono hr (Ne.symm hji)) (.inr ⟨hq, Qx (hsub.resolve_right (by rw [hx]; decide)) hy3⟩) hS3 ?_⟩
        rw [Array.setIfInBounds_comm _ _ hji]
        exact h4
end
def WD (P : Program) (N : Sh) (ops : Array Oper) (Q : Exit → Act → World → Prop) (qs : List Nat) (S : World → Prop) (fuel : Nat) (listed : Array Bool) (L : List (Nat × Value)) (w : World) : Prop :=
  NP Q → Region.noSelect ops = true → Closed ops listed → ∀ a, Fits N L a → Ah P ops Q qs fuel S listed a w
section
variable {P : Program} {N : Sh} {ops : Array Oper} {Q : Exit → Act → World → Prop} {qs : List Nat} {S : World → Prop} {fuel : Nat} {listed : Array Bool} {L : List (Nat × Value)} {w w' : World}
  {op : Op} {ty : TypeId} {pos : String} {qK : Array Edge} {d i : Nat} {v : Value} {g : Option (Nat × Bool)}
theorem rV {id n : Nat} (qs : List Nat) (S : World → Prop) (hm : P.follows .mixedOrders = true) (hs : Region.noSelect ops = true) (hn : ops.size = n) (h : WD P N ops Q qs S n (Array.replicate n false) L w.drew) (hd : N.ro = none ∨ pU ops.toList = true := by first | exact .inl rfl | exact .inr rfl) : WC P N (.region id ops true) Q L w := fun np a ha => by
  have h1 : wpAnyIn Fence.wide 0 P .any ops Q ops.size (Array.replicate ops.size false) a { w with drawn := w.drawn + 1 } := LD _ _ _ _ _ (by rw [hn]; exact h np hs (Closed.start n) a ha)
  rcases hd with hd | hd
  · rw [hd]; exact wpIn_region_any hm h1
  · exact wpIn_region_any hm (SK hd _ _ _ _ h1)
theorem YM {id n : Nat} (qs : List Nat) {w0 : World} {A : HP} (hS : Kp w0 A w.drew) (hm : P.follows .mixedOrders = true) (hs : Region.noSelect ops = true) (hn : ops.size = n) (h : WD P N ops Q qs (Kp w0 A) n (Array.replicate n false) L w.drew) (hd : N.ro = none ∨ pU ops.toList = true := by first | exact .inl rfl | exact .inr rfl) : WC P N (.region id ops true) Q L w := rV qs (Kp w0 A) hm hs hn h hd
theorem fD {w0 : World} {A : HP} {T : World → Prop} {q : Prop} {X : (World → Prop) → Prop} (h : Kp w0 A w) (hs : ∀ W, Kp w0 A W → T W) (x : X (Kp w0 A)) : ∃ S' : World → Prop, ((∀ W, S' W → T W) ∨ q) ∧ S' w ∧ X S' := ⟨_, .inl hs, h, x⟩
theorem iK {w0 : World} {A : HP} {T : World → Prop} {X : (World → Prop) → Prop} {i : Nat} (h : Kp w0 A w) (hs : uH ops qs i = true) (x : X (Kp w0 A)) : ∃ S' : World → Prop, ((∀ W, S' W → T W) ∨ uH ops qs i = true) ∧ S' w ∧ X S' := ⟨_, .inr hs, h, x⟩
theorem LG {T : World → Prop} {X : (World → Prop) → Prop} {i : Nat} (hs : uH ops qs i = true) (x : X fun _ => True) : ∃ S' : World → Prop, ((∀ W, S' W → T W) ∨ uH ops qs i = true) ∧ S' w ∧ X S' := ⟨_, .inr hs, trivial, x⟩
theorem Hf {T : World → Prop} {X : (World → Prop) → Prop} {q : Prop} (h : T w) (x : X T) : ∃ S' : World → Prop, ((∀ W, S' W → T W) ∨ q) ∧ S' w ∧ X S' := ⟨_, .inl fun _ h => h, h, x⟩
theorem acH (hr : Region.ready .any ops listed = []) (h : WQ N Q .normal L w) : WD P N ops Q qs S fuel listed L w := fun np _ _ a ha => by
  cases fuel with
  | zero => exact ⟨hr, h np a ha⟩
  | succ n => exact ⟨fun _ => h np a ha, by rw [hr]; simp⟩
theorem acI (i : Nat) (hi : ops[i]? = some ⟨some d, op, ty, pos, qK, none⟩) (hf : Region.free .any ops listed i = true) (hr : (Region.ready .any ops listed).contains i = true) (hS : S w)
    (hq : qs.contains i = true) (hv : ∀ w', S w' → Val P L op ty w' v w') (hd : d < N.n) (h : WD P N ops Q qs S fuel (listed.setIfInBounds i true) ((d, v) :: L) w) : WD P N ops Q qs S (fuel + 1) listed L w := fun np ns cl a ha =>
  wQ hi (Region.noSelect_spec ns) np fuel S listed a w cl (Region.free_spec hi hf) (by simpa using hr) (.inr ⟨by simpa using hq, .inl ⟨by simp [Region.wanted], fun w' hw' => hv w' hw' a.eval (fun x u hx => ha.ev hx) _ _ _ _⟩⟩) hS (h np ns (cl.set (by simpa using hr)) _ (ha.put hd v))
theorem D8 (i : Nat) {j t : Nat} {want : Bool} (hi : ops[i]? = some ⟨some d, op, ty, pos, qK, some (j, want)⟩) (hj : (ops[j]?).bind (·.dst) = some t) (hl : look L t = some (.bool want)) (hf : Region.free .any ops listed i = true) (hr : (Region.ready .any ops listed).contains i = true) (hS : S w)
    (hq : qs.contains i = true) (hv : ∀ w', S w' → Val P L op ty w' v w') (hd : d < N.n) (h : WD P N ops Q qs S fuel (listed.setIfInBounds i true) ((d, v) :: L) w) : WD P N ops Q qs S (fuel + 1) listed L w := fun np ns cl a ha =>
  wQ hi (Region.noSelect_spec ns) np fuel S listed a w cl (Region.free_spec hi hf) (by simpa using hr) (.inr ⟨by simpa using hq, .inl ⟨by simp [Region.wanted, Aa ha hj hl], fun w' hw' => hv w' hw' a.eval (fun x u hx => ha.ev hx) _ _ _ _⟩⟩) hS (h np ns (cl.set (by simpa using hr)) _ (ha.put hd v))
theorem D9 (i : Nat) (hi : ops[i]? = some ⟨some d, op, ty, pos, qK, none⟩) (hf : Region.free .any ops listed i = true) (hr : (Region.ready .any ops listed).contains i = true) (hS : S w)
    (hv : ∀ w', Val P L op ty w' v w') (hd : d < N.n) (h : WD P N ops Q qs S fuel (listed.setIfInBounds i true) ((d, v) :: L) w) : WD P N ops Q qs S (fuel + 1) listed L w := fun np ns cl a ha =>
  wQ hi (Region.noSelect_spec ns) np fuel S listed a w cl (Region.free_spec hi hf) (by simpa using hr) (.inl (.inl ⟨by simp [Region.wanted], fun w' hw' => hv w' a.eval (fun x u hx => ha.ev hx) _ _ _ _⟩)) hS (h np ns (cl.set (by simpa using hr)) _ (ha.put hd v))
theorem lg (i : Nat) {j t : Nat} {want : Bool} (hi : ops[i]? = some ⟨some d, op, ty, pos, qK, some (j, want)⟩) (hj : (ops[j]?).bind (·.dst) = some t) (hl : look L t = some (.bool want)) (hf : Region.free .any ops listed i = true) (hr : (Region.ready .any ops listed).contains i = true) (hS : S w)
    (hv : ∀ w', Val P L op ty w' v w') (hd : d < N.n) (h : WD P N ops Q qs S fuel (listed.setIfInBounds i true) ((d, v) :: L) w) : WD P N ops Q qs S (fuel + 1) listed L w := fun np ns cl a ha =>
  wQ hi (Region.noSelect_spec ns) np fuel S listed a w cl (Region.free_spec hi hf) (by simpa using hr) (.inl (.inl ⟨by simp [Region.wanted, Aa ha hj hl], fun w' hw' => hv w' a.eval (fun x u hx => ha.ev hx) _ _ _ _⟩)) hS (h np ns (cl.set (by simpa using hr)) _ (ha.put hd v))
theorem lC (i : Nat) {j t : Nat} {want b : Bool} (hi : ops[i]? = some ⟨some d, op, ty, pos, qK, some (j, want)⟩) (hj : (ops[j]?).bind (·.dst) = some t) (hl : look L t = some (.bool b)) (hb : (b == want) = false)
    (hf : Region.free .any ops listed i = true) (hr : (Region.ready .any ops listed).contains i = true) (hS : S w) (hd : d < N.n) (h : WD P N ops Q qs S fuel (listed.setIfInBounds i true) ((d, undef) :: L) w) : WD P N ops Q qs S (fuel + 1) listed L w := fun np ns cl a ha =>
  wQ hi (Region.noSelect_spec ns) np fuel S listed a w cl (Region.free_spec hi hf) (by simpa using hr) (.inl (.inr ⟨by simp [Region.wanted, Aa ha hj hl]; simpa using hb, rfl⟩)) hS (h np ns (cl.set (by simpa using hr)) _ (ha.put hd _))
theorem Hg (i : Nat) {x : Operand} {b : Bool} (hi : ops[i]? = some ⟨some d, .move x, ty, pos, qK, none⟩) (hx : ev L x = some (.bool b)) (hf : Region.free .any ops listed i = true) (hr : (Region.ready .any ops listed).contains i = true) (hS : S w) (hd : d < N.n)
    (ht : b = true → WD P N ops Q qs S fuel (listed.setIfInBounds i true) ((d, .bool true) :: L) w) (hf' : b = false → WD P N ops Q qs S fuel (listed.setIfInBounds i true) ((d, .bool false) :: L) w) : WD P N ops Q qs S (fuel + 1) listed L w := by
  refine D9 i (v := .bool b) hi hf hr hS (fun w' => Gp hx) hd ?_
  cases b
  · exact hf' rfl
  · exact ht rfl
theorem aai {i : Nat} {o : Oper} (hi : ops[i]? = some o) (hr : Region.ready .any ops listed = [i]) {a : Act}
    (h : ∀ K : Act → World → Prop, (∀ a' w', (∃ S' : World → Prop, ((∀ W, S' W → S W) ∨ uH ops qs i = true) ∧ S' w' ∧ Ah P ops Q qs fuel S' (listed.setIfInBounds i true) a' w') → K a' w') → if Region.wanted o (yielded ops a.tmps) then o.wpIn Fence.wide 0 P a w K Q else K (a.put o.dst undef) w) :
    Ah P ops Q qs (fuel + 1) S listed a w := by
  refine ⟨fun h0 => (by rw [hr] at h0; cases h0), fun j hj => ?_⟩
  rw [hr] at hj
  simp at hj
  subst hj
  unfold wpOpIn
  rw [hi]
  have := h _ (fun _ _ h => h)
  dsimp only
  split
  · rename_i hw; rw [if_pos hw] at this; exact this
  · rename_i hw; rw [if_neg hw] at this; exact ⟨fun _ _ => trivial, this⟩
theorem aeQ (i : Nat) {T : Value → World → Prop} (hi : ops[i]? = some ⟨some d, op, ty, pos, qK, none⟩) (hr : Region.ready .any ops listed = [i]) (he : xU P L op ty w T) (hd : d < N.n)
    (h : ∀ v w', T v w' → ∃ S' : World → Prop, ((∀ W, S' W → S W) ∨ uH ops qs i = true) ∧ S' w' ∧ WD P N ops Q qs S' fuel (listed.setIfInBounds i true) ((d, v) :: L) w') : WD P N ops Q qs S (fuel + 1) listed L w := fun np ns cl a ha =>
  aai hi hr fun K hK => by
    rw [if_pos (by simp [Region.wanted])]
    exact he.wp ha rfl rfl fun v w' ht => let ⟨S', h1, h2, h3⟩ := h v w' ht; hK _ _ ⟨S', h1, h2, h3 np ns (cl.set (by rw [hr]; simp)) _ (ha.put hd v)⟩
theorem iH (i : Nat) {T : Value → World → Prop} (hi : ops[i]? = some ⟨none, op, ty, pos, qK, none⟩) (hr : Region.ready .any ops listed = [i]) (he : xU P L op ty w T)
    (h : ∀ v w', T v w' → ∃ S' : World → Prop, ((∀ W, S' W → S W) ∨ uH ops qs i = true) ∧ S' w' ∧ WD P N ops Q qs S' fuel (listed.setIfInBounds i true) L w') : WD P N ops Q qs S (fuel + 1) listed L w := fun np ns cl a ha =>
  aai hi hr fun K hK => by
    rw [if_pos (by simp [Region.wanted])]
    exact he.wp ha rfl rfl fun v w' ht => let ⟨S', h1, h2, h3⟩ := h v w' ht; hK _ _ ⟨S', h1, h2, h3 np ns (cl.set (by rw [hr]; simp)) _ ha⟩
def WDi (P : Program) (N : Sh) (ops : Array Oper) (Q : Exit → Act → World → Prop) (qs : List Nat) (S : World → Prop) (fuel : Nat) (listed : Array Bool) (L : List (Nat × Value)) (w : World) (i : Nat) : Prop :=
  NP Q → Region.noSelect ops = true → Closed ops listed → ∀ a, Fits N L a → wpOpIn Fence.wide 0 P ops Q i (fun a' w' => ∃ S' : World → Prop, ((∀ W, S' W → S W) ∨ uH ops qs i = true) ∧ S' w' ∧ Ah P ops Q qs fuel S' (listed.setIfInBounds i true) a' w') a w
theorem BI {i j : Nat} (hr : Region.ready .any ops listed = [i, j]) (h1 : WDi P N ops Q qs S fuel listed L w i) (h2 : WDi P N ops Q qs S fuel listed L w j) : WD P N ops Q qs S (fuel + 1) listed L w := fun np ns cl a ha =>
  ⟨fun h0 => (by rw [hr] at h0; cases h0), fun k hk => by
    rw [hr] at hk
    simp only [List.mem_cons, List.not_mem_nil, or_false] at hk
    rcases hk with rfl | rfl
    · exact h1 np ns cl a ha
    · exact h2 np ns cl a ha⟩
theorem aaj {i j k : Nat} (hr : Region.ready .any ops listed = [i, j, k]) (h1 : WDi P N ops Q qs S fuel listed L w i) (h2 : WDi P N ops Q qs S fuel listed L w j) (h3 : WDi P N ops Q qs S fuel listed L w k) : WD P N ops Q qs S (fuel + 1) listed L w := fun np ns cl a ha =>
  ⟨fun h0 => (by rw [hr] at h0; cases h0), fun m hm => by
    rw [hr] at hm
    simp only [List.mem_cons, List.not_mem_nil, or_false] at hm
    rcases hm with rfl | rfl | rfl
    · exact h1 np ns cl a ha
    · exact h2 np ns cl a ha
    · exact h3 np ns cl a ha⟩
theorem acJ {i : Nat} {o : Oper} (hi : ops[i]? = some o) {a : Act}
    (h : ∀ K : Act → World → Prop, (∀ a' w', (∃ S' : World → Prop, ((∀ W, S' W → S W) ∨ uH ops qs i = true) ∧ S' w' ∧ Ah P ops Q qs fuel S' (listed.setIfInBounds i true) a' w') → K a' w') → if Region.wanted o (yielded ops a.tmps) then o.wpIn Fence.wide 0 P a w K Q else K (a.put o.dst undef) w) :
    wpOpIn Fence.wide 0 P ops Q i (fun a' w' => ∃ S' : World → Prop, ((∀ W, S' W → S W) ∨ uH ops qs i = true) ∧ S' w' ∧ Ah P ops Q qs fuel S' (listed.setIfInBounds i true) a' w') a w := by
  unfold wpOpIn
  rw [hi]
  have := h _ (fun _ _ h => h)
  dsimp only
  split
  · rename_i hw; rw [if_pos hw] at this; exact this
  · rename_i hw; rw [if_neg hw] at this; exact ⟨fun _ _ => trivial, this⟩
theorem lS (i : Nat) {T : Value → World → Prop} (hi : ops[i]? = some ⟨some d, op, ty, pos, qK, none⟩) (hr : (Region.ready .any ops listed).contains i = true) (he : xU P L op ty w T) (hd : d < N.n)
    (h : ∀ v w', T v w' → ∃ S' : World → Prop, ((∀ W, S' W → S W) ∨ uH ops qs i = true) ∧ S' w' ∧ WD P N ops Q qs S' fuel (listed.setIfInBounds i true) ((d, v) :: L) w') : WDi P N ops Q qs S fuel listed L w i := fun np ns cl a ha =>
  acJ hi fun K hK => by
    rw [if_pos (by simp [Region.wanted])]
    exact he.wp ha rfl rfl fun v w' ht => let ⟨S', h1, h2, h3⟩ := h v w' ht; hK _ _ ⟨S', h1, h2, h3 np ns (cl.set (by simpa using hr)) _ (ha.put hd v)⟩
end
section
variable {P : Program} {N : Sh} {Q : Exit → Act → World → Prop} {L : List (Nat × Value)} {w w' : World} {ops : Array Oper} {rest : List Oper} {op : Op} {ty : TypeId} {pos : String} {qK : Array Edge} {d : Nat} {v : Value}
theorem aQ (hr : Val P L op ty w v w') (h : WL P N ops Q rest ((d, v) :: L) w') (hd : d < N.n := by exact lN rfl) : WL P N ops Q (⟨some d, op, ty, pos, qK, none⟩ :: rest) L w := BH hr hd h
theorem bJ {x : Operand} (hx : ev L x = some v) (h : WL P N ops Q rest ((d, v) :: L) w) (hd : d < N.n := by exact lN rfl) : WL P N ops Q (⟨some d, .move x, ty, pos, qK, none⟩ :: rest) L w := BH (Gp hx) hd h
theorem gU {x : Operand} (hx : ev L x = some v) (h : WL P N ops Q rest ((d, v) :: L) w) (hd : d < N.n := by exact lN rfl) : WL P N ops Q (⟨some d, .assign x, ty, pos, qK, none⟩ :: rest) L w := BH (dB hx) hd h
theorem dK {x : Operand} {a : Addr} (hx : ev L x = some (.pointer (some a))) (h : WL P N ops Q rest ((d, .pointer (some a)) :: L) w) (hd : d < N.n := by exact lN rfl) : WL P N ops Q (⟨some d, .nilCheck x, ty, pos, qK, none⟩ :: rest) L w := BH (SG hx) hd h
theorem je {c a b : Operand} (hc : ev L c = some (.bool true)) (ha : ev L a = some v) (h : WL P N ops Q rest ((d, v) :: L) w) (hd : d < N.n := by exact lN rfl) : WL P N ops Q (⟨some d, .pick c a b, ty, pos, qK, none⟩ :: rest) L w := BH (G6 hc ha) hd h
theorem fG {c a b : Operand} (hc : ev L c = some (.bool false)) (hb : ev L b = some v) (h : WL P N ops Q rest ((d, v) :: L) w) (hd : d < N.n := by exact lN rfl) : WL P N ops Q (⟨some d, .pick c a b, ty, pos, qK, none⟩ :: rest) L w := BH (Ac hc hb) hd h
theorem pW {x : Operand} {i : Nat} {vs : Array Value} (hx : ev L x = some (.tuple vs)) (hi : vs[i]? = some v) (h : WL P N ops Q rest ((d, v) :: L) w) (hd : d < N.n := by exact lN rfl) : WL P N ops Q (⟨some d, .extract x i, ty, pos, qK, none⟩ :: rest) L w := BH (pJ hx hi) hd h
theorem xrF {t : TypeId} {fs : Array Field} {f : Field} {i b o : Nat} {x : Operand} (off : Nat) (ht : P.underlying t = some (.struct fs)) (hf : fs[i]? = some f) {n : Nat} (hs : ∀ w, (sizeOf f.type).run P w = .ok n w)
    (hx : ev L x = some (.pointer (some ⟨b, o, none⟩))) (ho : f.offset = off := by exact rfl) (hn : n ≠ 0 := by decide) : Val P L (.fieldAddr t x i) ty w (.pointer (some ⟨b, o + off, none⟩)) w := G9 off ht hf ho hs hn hx rfl
theorem bI {t : TypeId} {fs : Array Field} {f : Field} {i b o : Nat} {x : Operand} (off : Nat) (ht : P.underlying t = some (.struct fs)) (hf : fs[i]? = some f) {n : Nat} (hs : ∀ w, (sizeOf f.type).run P w = .ok n w)
    (hx : ev L x = some (.pointer (some ⟨b, o, none⟩))) (h : WL P N ops Q rest ((d, .pointer (some ⟨b, o + off, none⟩)) :: L) w) (ho : f.offset = off := by exact rfl) (hn : n ≠ 0 := by decide) (hd : d < N.n := by exact lN rfl) :
    WL P N ops Q (⟨some d, .fieldAddr t x i, ty, pos, qK, none⟩ :: rest) L w := BH (xrF off ht hf hs hx ho hn) hd h
theorem jv {t tc : TypeId} {D : TypeDesc} {b o : Nat} {cs : Array Value} {fr : Nat × Nat} {x : Operand} (hu : P.underlying t = some D) (hx : ev L x = some (.pointer (some ⟨b, o, none⟩))) (hb : w.heap[b]? = some (.cells cs tc fr)) (hc : cs[o]? = some v)
    (hd : (match D with | .struct _ => false | .array _ _ => false | _ => true) = true := by exact rfl) : Val P L (.load t x) ty w v w := fF (dA hu hd) hx (kS hb hc)
theorem fC {t tc : TypeId} {D : TypeDesc} {b o : Nat} {cs : Array Value} {fr : Nat × Nat} {x : Operand} (hu : P.underlying t = some D) (hx : ev L x = some (.pointer (some ⟨b, o, none⟩))) (hb : w.heap[b]? = some (.cells cs tc fr)) (hc : cs[o]? = some v)
    (h : WL P N ops Q rest ((d, v) :: L) w) (hD : (match D with | .struct _ => false | .array _ _ => false | _ => true) = true := by exact rfl) (hd : d < N.n := by exact lN rfl) : WL P N ops Q (⟨some d, .load t x, ty, pos, qK, none⟩ :: rest) L w := BH (jv hu hx hb hc hD) hd h
theorem bn {j t : Nat} {want b : Bool} (h : WL P N ops Q rest ((d, undef) :: L) w) (hj : (ops[j]?).bind (·.dst) = some t := by exact rfl) (hl : look L t = some (.bool b) := by exact rfl) (hb : (b == want) = false := by exact rfl) (hd : d < N.n := by exact lN rfl) :
    WL P N ops Q (⟨some d, op, ty, pos, qK, some (j, want)⟩ :: rest) L w := aga hj hl hb hd h
theorem aY {j t : Nat} {want : Bool} {o : Option Nat} (h : WL P N ops Q (⟨o, op, ty, pos, qK, none⟩ :: rest) L w) (hj : (ops[j]?).bind (·.dst) = some t := by exact rfl) (hl : look L t = some (.bool want) := by exact rfl) :
    WL P N ops Q (⟨o, op, ty, pos, qK, some (j, want)⟩ :: rest) L w := aeM hj hl h
theorem lH {j t : Nat} {want : Bool} (h : WL P N ops Q rest ((d, undef) :: L) w) (hj : (ops[j]?).bind (·.dst) = some t := by exact rfl) (hl : look L t = some undef := by exact rfl) (hd : d < N.n := by exact lN rfl) :
    WL P N ops Q (⟨some d, op, ty, pos, qK, some (j, want)⟩ :: rest) L w := aeN hj hl hd h
theorem kF {T : Value → World → Prop} (he : xU P L op ty w T) (h : ∀ v w', T v w' → WL P N ops Q rest ((d, v) :: L) w') (hd : d < N.n := by exact lN rfl) : WL P N ops Q (⟨some d, op, ty, pos, qK, none⟩ :: rest) L w := Vw he hd h
theorem dS {T : Value → World → Prop} {f : FuncId} {args : List Operand} {ts : Array TypeId} {vs : List Value} {fn : Func} {c : Code} (ha : FV L args = some vs) (hf : P.funcs[f]? = some fn) (hc : iQ P f vs.toArray w T)
    (h : ∀ v w', T v w' → WL P N ops Q rest ((d, v) :: L) w') (hn : (fn.name == "runtime.NumGoroutine") = false := by exact rfl) (hb : fn.body = some c := by exact rfl) (hd : d < N.n := by exact lN rfl) :
    WL P N ops Q (⟨some d, .call ⟨.value (.func f), args.toArray, ts⟩, ty, pos, qK, none⟩ :: rest) L w := Vw (yU (Ag ha hf hn hb) hc) hd h
theorem wR {T : Value → World → Prop} {f : FuncId} {args : List Operand} {ts : Array TypeId} {vs : List Value} {fn : Func} {c : Code} (ha : FV L args = some vs) (hf : P.funcs[f]? = some fn) (hc : iQ P f vs.toArray w T)
    (hn : (fn.name == "runtime.NumGoroutine") = false := by exact rfl) (hb : fn.body = some c := by exact rfl) : xU P L (.call ⟨.value (.func f), args.toArray, ts⟩) ty w T := yU (Ag ha hf hn hb) hc
theorem jm {x : Operand} {b : Bool} (hx : ev L x = some (.bool b)) (ht : b = true → WL P N ops Q rest ((d, .bool true) :: L) w) (hf : b = false → WL P N ops Q rest ((d, .bool false) :: L) w) (hd : d < N.n := by exact lN rfl) :
    WL P N ops Q (⟨some d, .move x, ty, pos, qK, none⟩ :: rest) L w := aaf hx hd ht hf
theorem ZY {f n : Nat} {fn : Func} {c : Code} {args : List Value} {S : Value → World → Prop} (hf : P.funcs[f]? = some fn) (hN : fn.ntmps = n) (h : WC P (Sh.of n) c (oD P fn S) (zZ 0 args) w)
    (hb : fn.body = some c := by exact rfl) (hl : args.length ≤ n := by exact Nat.le_of_ble_eq_true rfl) : iQ P f args.toArray w S := YJ hf hb hN hl h
end
section
variable {P : Program} {N : Sh} {ops : Array Oper} {Q : Exit → Act → World → Prop} {qs : List Nat} {S : World → Prop} {fuel : Nat} {listed : Array Bool} {L : List (Nat × Value)} {w w' : World} {op : Op} {ty : TypeId} {pos : String} {qK : Array Edge} {d : Nat} {v : Value}
theorem uN {id n : Nat} (qs : List Nat) {w0 : World} {A : HP} (hS : Kp w0 A w.drew) (hn : ops.size = n) (h : WD P N ops Q qs (Kp w0 A) n (Array.replicate n false) L w.drew) (hm : P.follows .mixedOrders = true := by kernel_rfl) (hs : Region.noSelect ops = true := by kernel_rfl)
    (hd : N.ro = none ∨ pU ops.toList = true := by first | exact .inl rfl | exact .inr rfl) : WC P N (.region id ops true) Q L w := YM qs hS hm hs hn h hd
theorem jf (i : Nat) (hi : ops[i]? = some ⟨some d, op, ty, pos, qK, none⟩) (hS : S w) (hv : ∀ w', S w' → Val P L op ty w' v w') (h : WD P N ops Q qs S fuel (listed.setIfInBounds i true) ((d, v) :: L) w)
    (hf : Region.free .any ops listed i = true := by kernel_rfl) (hr : (Region.ready .any ops listed).contains i = true := by kernel_rfl) (hq : qs.contains i = true := by decide) (hd : d < N.n := by exact lN rfl) : WD P N ops Q qs S (fuel + 1) listed L w := acI i hi hf hr hS hq hv hd h
theorem iI (i : Nat) (hi : ops[i]? = some ⟨some d, op, ty, pos, qK, none⟩) (hS : S w) (hv : ∀ w', Val P L op ty w' v w') (h : WD P N ops Q qs S fuel (listed.setIfInBounds i true) ((d, v) :: L) w)
    (hf : Region.free .any ops listed i = true := by kernel_rfl) (hr : (Region.ready .any ops listed).contains i = true := by kernel_rfl) (hd : d < N.n := by exact lN rfl) : WD P N ops Q qs S (fuel + 1) listed L w := D9 i hi hf hr hS hv hd h
theorem gX (i : Nat) {x : Operand} (hi : ops[i]? = some ⟨some d, .move x, ty, pos, qK, none⟩) (hS : S w) (hx : ev L x = some v) (h : WD P N ops Q qs S fuel (listed.setIfInBounds i true) ((d, v) :: L) w)
    (hf : Region.free .any ops listed i = true := by kernel_rfl) (hr : (Region.ready .any ops listed).contains i = true := by kernel_rfl) (hd : d < N.n := by exact lN rfl) : WD P N ops Q qs S (fuel + 1) listed L w := D9 i hi hf hr hS (fun _ => Gp hx) hd h
theorem jE (i : Nat) {x : Operand} {a : Addr} (hi : ops[i]? = some ⟨some d, .nilCheck x, ty, pos, qK, none⟩) (hS : S w) (hx : ev L x = some (.pointer (some a))) (h : WD P N ops Q qs S fuel (listed.setIfInBounds i true) ((d, .pointer (some a)) :: L) w)
    (hf : Region.free .any ops listed i = true := by kernel_rfl) (hr : (Region.ready .any ops listed).contains i = true := by kernel_rfl) (hd : d < N.n := by exact lN rfl) : WD P N ops Q qs S (fuel + 1) listed L w := D9 i hi hf hr hS (fun _ => SG hx) hd h
theorem gy (i : Nat) {x : Operand} {t : TypeId} {fs : Array Field} {f : Field} {k b o : Nat} (hi : ops[i]? = some ⟨some d, .fieldAddr t x k, ty, pos, qK, none⟩) (hS : S w) (off : Nat) (ht : P.underlying t = some (.struct fs)) (hfs : fs[k]? = some f) {n : Nat}
    (hs : ∀ w, (sizeOf f.type).run P w = .ok n w) (hx : ev L x = some (.pointer (some ⟨b, o, none⟩))) (h : WD P N ops Q qs S fuel (listed.setIfInBounds i true) ((d, .pointer (some ⟨b, o + off, none⟩)) :: L) w)
    (ho : f.offset = off := by exact rfl) (hn : n ≠ 0 := by decide) (hf : Region.free .any ops listed i = true := by kernel_rfl) (hr : (Region.ready .any ops listed).contains i = true := by kernel_rfl) (hd : d < N.n := by exact lN rfl) : WD P N ops Q qs S (fuel + 1) listed L w :=
  D9 i hi hf hr hS (fun _ => xrF off ht hfs hs hx ho hn) hd h
theorem mQ (i : Nat) {T : Value → World → Prop} (hi : ops[i]? = some ⟨some d, op, ty, pos, qK, none⟩) (he : xU P L op ty w T)
    (h : ∀ v w', T v w' → ∃ S' : World → Prop, ((∀ W, S' W → S W) ∨ uH ops qs i = true) ∧ S' w' ∧ WD P N ops Q qs S' fuel (listed.setIfInBounds i true) ((d, v) :: L) w') (hr : Region.ready .any ops listed = [i] := by kernel_rfl) (hd : d < N.n := by exact lN rfl) :
    WD P N ops Q qs S (fuel + 1) listed L w := aeQ i hi hr he hd h
theorem pq (h : WQ N Q .normal L w) (hr : Region.ready .any ops listed = [] := by kernel_rfl) : WD P N ops Q qs S fuel listed L w := acH hr h
end
section
variable {P : Program} {N : Sh} {Q : Exit → Act → World → Prop} {L : List (Nat × Value)} {w : World}
theorem C9 {x : Operand} {c e : Code} (h : WC P N c Q L w) (hx : ev L x = some (.bool true) := by exact rfl) : WC P N (.cond x c e) Q L w := YK hx h
theorem oh {x : Operand} {c e : Code} (h : WC P N e Q L w) (hx : ev L x = some (.bool false) := by exact rfl) : WC P N (.cond x c e) Q L w := YL hx h
theorem xc2 {x : Operand} {b : Bool} {c e : Code} (hx : ev L x = some (.bool b)) (ht : b = true → WC P N c Q L w) (hf : b = false → WC P N e Q L w) : WC P N (.cond x c e) Q L w := aZ hx ht hf
end
end Go.Proofs.YtpdeedplgmbopaaGreatDoor
end
