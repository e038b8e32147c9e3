import Derived.Test.YtgmpclifphbjkaaGreatDoorZ1
import Derived.OrdersIn
import Derived.Laws.CopyRow
/- Texts of mine, joined: Ops Draw Row. -/
section
/- What each form of operation comes to. -/
set_option linter.unusedSimpArgs false
set_option linter.unusedVariables false
namespace Go.Proofs.YtgmpclifphbjkaaGreatDoor
open Go.RowKit

theorem wrap_i64 {x : Int} (h : -9223372036854775808 ≤ x ∧ x ≤ 9223372036854775807) : IntKind.i64.wrap x = x := IntWalk.i64_in x h
section
variable {P : Program} {L : List (Nat × Value)} {w : World} {ty : TypeId} {x y c : Operand} {v u : Value}

theorem r_known_t {op : Op} {b : Bool} {w' : World} (h : Val P L op ty w (.bool b) w') (hb : b = true) : Val P L op ty w (.bool true) w' := hb ▸ h
theorem r_as {op : Op} {v v' : Value} (h : Val P L op ty w v w) (e : v = v') : Val P L op ty w v' w := e ▸ h
theorem r_move (hx : ev L x = some v) : Val P L (.move x) ty w v w := fun ρ hρ _ _ _ _ => by simp [execOp, hρ _ _ hx]
theorem r_assign (hx : ev L x = some v) : Val P L (.assign x) ty w v w := fun ρ hρ _ _ _ _ => by simp [execOp, hρ _ _ hx]
theorem r_pick_t {a b : Operand} (hc : ev L c = some (.bool true)) (ha : ev L a = some v) : Val P L (.pick c a b) ty w v w := fun ρ hρ _ _ _ _ => by
  simp [execOp, hρ _ _ hc, hρ _ _ ha, asBool]
theorem r_pick_f {a b : Operand} (hc : ev L c = some (.bool false)) (hb : ev L b = some v) : Val P L (.pick c a b) ty w v w := fun ρ hρ _ _ _ _ => by
  simp [execOp, hρ _ _ hc, hρ _ _ hb, asBool]
theorem r_nil {a : Addr} (hx : ev L x = some (.pointer (some a))) : Val P L (.nilCheck x) ty w (.pointer (some a)) w := fun ρ hρ _ _ _ _ => by
  simp [execOp, hρ _ _ hx]
theorem r_extract {vs : Array Value} {i : Nat} (hx : ev L x = some (.tuple vs)) (hi : vs[i]? = some v) : Val P L (.extract x i) ty w v w := fun ρ hρ _ _ _ _ => by
  simp [execOp, hρ _ _ hx, Instr.extract, hi]
theorem r_not {b : Bool} {t : TypeId} (hx : ev L x = some (.bool b)) : Val P L (.unOp .not t x) ty w (.bool (!b)) w := fun ρ hρ _ _ _ _ => by
  simp [execOp, hρ _ _ hx, Op.unary]
/-- The values of some operands. -/
def evl (L : List (Nat × Value)) : List Operand → Option (List Value)
  | [] => some []
  | x :: r => match ev L x with
    | some v => match evl L r with
      | some vs => some (v :: vs)
      | none => none
    | none => none
theorem evs {ρ : Operand → Value} (hρ : ∀ x u, ev L x = some u → ρ x = u) : ∀ (xs : List Operand) (vs : List Value), evl L xs = some vs → xs.map ρ = vs
  | [], vs, h => by simp [evl] at h; simp [h]
  | x :: xs, vs, h => by
    simp only [evl] at h
    cases h1 : ev L x with
    | none => simp [h1] at h
    | some v =>
      cases h2 : evl L xs with
      | none => simp [h1, h2] at h
      | some us =>
        simp [h1, h2] at h
        subst h
        simp [hρ _ _ h1, evs hρ xs us h2]
theorem evsA {ρ : Operand → Value} (hρ : ∀ x u, ev L x = some u → ρ x = u) (xs : List Operand) (vs : List Value) (h : evl L xs = some vs) : xs.toArray.map ρ = vs.toArray := by
  apply Array.ext'
  simpa using evs hρ _ _ h
theorem r_makeFunc {fn : Fn} {first cap : List Operand} {f c : List Value} (hf : evl L first = some f) (hc : evl L cap = some c) : Val P L (.makeFunc fn first.toArray cap.toArray) ty w (.func fn f.toArray c.toArray) w := fun ρ hρ _ _ _ _ => by
  simp only [execOp, Instr.makeFunc, evsA hρ _ _ hf, evsA hρ _ _ hc]; rfl

/-! ### numbers -/
section
variable {k : IntKind} {m n : Int} {t t' : TypeId}
theorem r_int (o : BinOp) {r : Value} (hx : ev L x = some (.int k m)) (hy : ev L y = some (.int k n)) (ho : o ≠ .shl ∧ o ≠ .shr)
    (h : (binOp o t (.int k m) (.int k n)).run P w = .ok r w) : Val P L (.binOp o t x y t') ty w r w := fun ρ hρ _ _ _ _ => by
  simp only [execOp, hρ _ _ hx, hρ _ _ hy]
  have : (eqGuard o t x y (.int k m) (.int k n)).run P w = .ok () w := by unfold eqGuard; split <;> rfl
  simp [this, h]
theorem r_add (hx : ev L x = some (.int .i64 m)) (hy : ev L y = some (.int .i64 n)) (hb : -9223372036854775808 ≤ m + n ∧ m + n ≤ 9223372036854775807) : Val P L (.binOp .add t x y t') ty w (.int .i64 (m + n)) w :=
  r_int .add hx hy (by decide) (by simp only [binOp, ne_eq, not_true_eq_false, if_false, Op.intArith, wrap_i64 hb]; rfl)
theorem r_sub (hx : ev L x = some (.int .i64 m)) (hy : ev L y = some (.int .i64 n)) (hb : -9223372036854775808 ≤ m - n ∧ m - n ≤ 9223372036854775807) : Val P L (.binOp .sub t x y t') ty w (.int .i64 (m - n)) w :=
  r_int .sub hx hy (by decide) (by simp only [binOp, ne_eq, not_true_eq_false, if_false, Op.intArith, wrap_i64 hb]; rfl)
/-- '%', both sides not negative. -/
theorem r_rem (hx : ev L x = some (.int k m)) (hy : ev L y = some (.int k n)) (hm : 0 ≤ m) (hn : 0 < n) : Val P L (.binOp .rem t x y t') ty w (.int k (m % n)) w :=
  r_int .rem hx hy (by decide) (by
    simp only [binOp, ne_eq, not_true_eq_false, if_false, Op.intDiv]
    rw [if_neg (by omega), Int.tmod_eq_emod_of_nonneg hm]; rfl)
theorem r_trem (hx : ev L x = some (.int k m)) (hy : ev L y = some (.int k n)) (hn : n ≠ 0) : Val P L (.binOp .rem t x y t') ty w (.int k (m.tmod n)) w :=
  r_int .rem hx hy (by decide) (by
    simp only [binOp, ne_eq, not_true_eq_false, if_false, Op.intDiv]
    rw [if_neg hn]; rfl)
theorem r_eql (hx : ev L x = some (.int k m)) (hy : ev L y = some (.int k n)) : Val P L (.binOp .eql t x y t') ty w (.bool (m == n)) w :=
  r_int .eql hx hy (by decide) (by simp only [binOp, ne_eq, not_true_eq_false, if_false, Op.intCmp]; rfl)
theorem r_neq (hx : ev L x = some (.int k m)) (hy : ev L y = some (.int k n)) : Val P L (.binOp .neq t x y t') ty w (.bool (m != n)) w :=
  r_int .neq hx hy (by decide) (by simp only [binOp, ne_eq, not_true_eq_false, if_false, Op.intCmp]; rfl)
theorem r_lss (hx : ev L x = some (.int k m)) (hy : ev L y = some (.int k n)) : Val P L (.binOp .lss t x y t') ty w (.bool (decide (m < n))) w :=
  r_int .lss hx hy (by decide) (by simp only [binOp, ne_eq, not_true_eq_false, if_false, Op.intCmp]; rfl)
theorem r_gtr (hx : ev L x = some (.int k m)) (hy : ev L y = some (.int k n)) : Val P L (.binOp .gtr t x y t') ty w (.bool (decide (m > n))) w :=
  r_int .gtr hx hy (by decide) (by simp only [binOp, ne_eq, not_true_eq_false, if_false, Op.intCmp]; rfl)
theorem r_geq (hx : ev L x = some (.int k m)) (hy : ev L y = some (.int k n)) : Val P L (.binOp .geq t x y t') ty w (.bool (decide (m ≥ n))) w :=
  r_int .geq hx hy (by decide) (by simp only [binOp, ne_eq, not_true_eq_false, if_false, Op.intCmp]; rfl)
end
theorem r_neq_bool {t t' : TypeId} {a b : Bool} (ht : P.underlying t = some .bool) (hx : ev L x = some (.bool a)) (hy : ev L y = some (.bool b)) : Val P L (.binOp .neq t x y t') ty w (.bool (!(a == b))) w := fun ρ hρ _ _ _ _ => by
  simp only [execOp, hρ _ _ hx, hρ _ _ hy]
  have : (eqGuard .neq t x y (.bool a) (.bool b)).run P w = .ok () w := by unfold eqGuard; rfl
  simp [this, run_neq_bool w t a b ht]
theorem run_equal {t : TypeId} {a b : Value} {r : Result Bool} (h : ∀ d, (Op.equalIn (d + 1) t a b).run P w = r) : (Op.equal t a b).run P w = r := h 9999
/-- a pointer against nil -/
theorem r_ptr_nil {t t' e : TypeId} {p : Option Addr} (ht : P.underlying t = some (.pointer e)) (hx : ev L x = some (.pointer p)) (hy : ev L y = some (.pointer none)) : Val P L (.binOp .eql t x y t') ty w (.bool p.isNone) w := fun ρ hρ _ _ _ _ => by
  simp only [execOp, hρ _ _ hx, hρ _ _ hy]
  have h1 : (eqGuard .eql t x y (.pointer p) (.pointer none)).run P w = .ok () w := by unfold eqGuard; rfl
  have h2 : (Op.equal t (.pointer p) (.pointer none)).run P w = .ok p.isNone w := run_equal fun d => by cases p <;> simp [Op.equalIn, run_underlying ht]
  have h3 : binOp .eql t (.pointer p) (.pointer none) = (do pure (.bool (← Op.equal t (.pointer p) (.pointer none)))) := by cases p <;> rfl
  simp only [Sem.run_bind, h1, Result.andThen, h3, h2]
  simp
theorem r_ptr_nnil {t t' e : TypeId} {p : Option Addr} (ht : P.underlying t = some (.pointer e)) (hx : ev L x = some (.pointer p)) (hy : ev L y = some (.pointer none)) : Val P L (.binOp .neq t x y t') ty w (.bool p.isSome) w := fun ρ hρ _ _ _ _ => by
  simp only [execOp, hρ _ _ hx, hρ _ _ hy]
  have h1 : (eqGuard .neq t x y (.pointer p) (.pointer none)).run P w = .ok () w := by unfold eqGuard; rfl
  have h2 : (Op.equal t (.pointer p) (.pointer none)).run P w = .ok p.isNone w := run_equal fun d => by cases p <;> simp [Op.equalIn, run_underlying ht]
  have h3 : binOp .neq t (.pointer p) (.pointer none) = (do pure (.bool (!(← Op.equal t (.pointer p) (.pointer none))))) := by cases p <;> rfl
  simp only [Sem.run_bind, h1, Result.andThen, h3, h2]
  cases p <;> simp
theorem r_slice_nil {t t' e : TypeId} {a : Option Addr} {n c : Nat} (ht : P.underlying t = some (.slice e)) (hx : ev L x = some (.slice a n c)) (hy : ev L y = some (.slice none 0 0)) : Val P L (.binOp .eql t x y t') ty w (.bool a.isNone) w := fun ρ hρ _ _ _ _ => by
  simp only [execOp, hρ _ _ hx, hρ _ _ hy]
  have h1 : (eqGuard .eql t x y (.slice a n c) (.slice none 0 0)).run P w = .ok () w := by unfold eqGuard; rfl
  have h2 : (Op.equal t (.slice a n c) (.slice none 0 0)).run P w = .ok a.isNone w := run_equal fun d => by cases a <;> simp [Op.equalIn, run_underlying ht]
  have h3 : binOp .eql t (.slice a n c) (.slice none 0 0) = (do pure (.bool (← Op.equal t (.slice a n c) (.slice none 0 0)))) := by rfl
  simp only [Sem.run_bind, h1, Result.andThen, h3, h2]
  simp
theorem r_str (o : BinOp) {t t' : TypeId} {a b : ByteArray} {r : Value} (hx : ev L x = some (.string a)) (hy : ev L y = some (.string b)) (h : (Op.stringOp o a b).run P w = .ok r w) (ho : o ≠ .shl ∧ o ≠ .shr) : Val P L (.binOp o t x y t') ty w r w := fun ρ hρ _ _ _ _ => by
  simp only [execOp, hρ _ _ hx, hρ _ _ hy]
  have : (eqGuard o t x y (.string a) (.string b)).run P w = .ok () w := by unfold eqGuard; split <;> rfl
  simp only [Sem.run_bind, this, Result.andThen]
  rw [show binOp o t (.string a) (.string b) = Op.stringOp o a b from by cases o <;> rfl, h]
  rfl
theorem r_str_eql {t t' : TypeId} {a b : ByteArray} (hx : ev L x = some (.string a)) (hy : ev L y = some (.string b)) : Val P L (.binOp .eql t x y t') ty w (.bool (a.toList == b.toList)) w := r_str .eql hx hy rfl (by decide)
theorem r_str_neq {t t' : TypeId} {a b : ByteArray} (hx : ev L x = some (.string a)) (hy : ev L y = some (.string b)) : Val P L (.binOp .neq t x y t') ty w (.bool (!(a.toList == b.toList))) w := r_str .neq hx hy rfl (by decide)
/-! ### built-ins on slices and numbers -/
theorem run_call {P : Program} {w : World} {ty : TypeId} {b : Builtin} {args : List Operand} {ts : Array TypeId} {vs : List Value} {r : Result Next} (ha : evl L args = some vs)
    (h : ∀ consts, (builtin b ts ty consts vs.toArray).run P w = r) : Runs P L (.call ⟨.builtin b, args.toArray, ts⟩) ty w r := fun ρ hρ _ _ _ _ => by
  simp only [execOp, resolve, Sem.run_bind, Sem.run_pure, Result.andThen_ok, invoke, evsA hρ _ _ ha]
  exact h _
theorem r_len {t e : TypeId} {a : Option Addr} {n c : Nat} (ht : P.underlying t = some (.slice e)) (hx : ev L x = some (.slice a n c)) : Val P L (.call ⟨.builtin .len, #[x], #[t]⟩) ty w (.int .i64 n) w :=
  run_call (vs := [.slice a n c]) (by simp [evl, hx]) fun _ => by simp [builtin, Builtin.len_, run_underlying ht, goInt]
theorem r_cap {t e : TypeId} {a : Option Addr} {n c : Nat} (ht : P.underlying t = some (.slice e)) (hx : ev L x = some (.slice a n c)) : Val P L (.call ⟨.builtin .cap, #[x], #[t]⟩) ty w (.int .i64 c) w :=
  run_call (vs := [.slice a n c]) (by simp [evl, hx]) fun _ => by simp [builtin, Builtin.cap_, run_underlying ht, goInt]
theorem r_min {k : IntKind} {m n : Int} {ts : Array TypeId} (hx : ev L x = some (.int k m)) (hy : ev L y = some (.int k n)) : Val P L (.call ⟨.builtin .min, #[x, y], ts⟩) ty w (.int k (min m n)) w :=
  run_call (vs := [.int k m, .int k n]) (by simp [evl, hx, hy]) fun _ => by
    simp only [builtin, Sem.run_bind]
    rw [run_min_int2]
    have : (if n < m then n else m) = min m n := by omega
    simp [this]
/-! ### calls -/
/-- A function of the program's. -/
theorem r_call {f : FuncId} {args : List Operand} {ts : Array TypeId} {vs : List Value} {fn : Func} {c : Code} (ha : evl L args = some vs)
    (hf : P.funcs[f]? = some fn) (hn : (fn.name == "runtime.NumGoroutine") = false) (hb : fn.body = some c) : Runs P L (.call ⟨.value (.func f), args.toArray, ts⟩) ty w (.ok (.enter f vs.toArray) w) := fun ρ hρ _ _ _ _ => by
  have hg : ρ (.func f) = .func (.func f) #[] #[] := hρ _ _ rfl
  simp [execOp, resolve, invoke, evs hρ _ _ ha, hg, Deferred.ofValue, callFunc, hf, hb]; simpa using hn
/-! ### memory -/
theorem r_field {t : TypeId} {fs : Array Field} {f : Field} {i b o : Nat} (off : Nat) (ht : P.underlying t = some (.struct fs)) (hf : fs[i]? = some f) (ho : f.offset = off) {n : Nat} (hs : ∀ w, (sizeOf f.type).run P w = .ok n w) (hn : n ≠ 0)
    (hx : ev L x = some (.pointer (some ⟨b, o, none⟩))) : Val P L (.fieldAddr t x i) ty w (.pointer (some ⟨b, o + off, none⟩)) w := fun ρ hρ _ _ _ _ => by
  simp [execOp, hρ _ _ hx, Instr.fieldAt, run_underlying ht, hf, Instr.sureAddr, fieldPlace, hs, hn, add_at, ho]
theorem r_fieldA {t : TypeId} {fs : Array Field} {f : Field} {i b o o' : Nat} (off : Nat) (ht : P.underlying t = some (.struct fs)) (hf : fs[i]? = some f) (ho : f.offset = off) {n : Nat} (hs : ∀ w, (sizeOf f.type).run P w = .ok n w) (hn : n ≠ 0)
    (hx : ev L x = some (.pointer (some ⟨b, o, none⟩))) (he : o + off = o') : Val P L (.fieldAddr t x i) ty w (.pointer (some ⟨b, o', none⟩)) w := he ▸ r_field off ht hf ho hs hn hx
theorem r_index {t e : TypeId} {b o n c s : Nat} {k : IntKind} {i : Int} (ht : P.underlying t = some (.slice e)) (hs : ∀ w, (sizeOf e).run P w = .ok s w)
    (hx : ev L x = some (.slice (some ⟨b, o, none⟩) n c)) (hy : ev L y = some (.int k i)) (hi : 0 ≤ i ∧ i < n) : Val P L (.indexAddr t x y) ty w (.pointer (some ⟨b, o + i.toNat * s, none⟩)) w := fun ρ hρ _ _ _ _ => by
  simp [execOp, hρ _ _ hx, hρ _ _ hy, Instr.indexAt, asIntOf, run_underlying ht, hi, hs, add_at]
theorem r_index_arr {t e : TypeId} {b o m s : Nat} {k : IntKind} {i : Int} (ht : P.underlying t = some (.array m e)) (hs : ∀ w, (sizeOf e).run P w = .ok s w)
    (hx : ev L x = some (.pointer (some ⟨b, o, none⟩))) (hy : ev L y = some (.int k i)) (hi : 0 ≤ i ∧ i < m) : Val P L (.indexAddr t x y) ty w (.pointer (some ⟨b, o + i.toNat * s, none⟩)) w := fun ρ hρ _ _ _ _ => by
  simp [execOp, hρ _ _ hx, hρ _ _ hy, Instr.indexAt, asIntOf, run_underlying ht, hi, hs, add_at, Instr.sureAddr]

/-- What type is no struct and no array. -/
def plainTy (P : Program) (t : TypeId) : Bool := match P.underlying t with | some (.struct _) | some (.array _ _) => false | some _ => true | none => false
theorem plain_of {P : Program} {t : TypeId} {d : TypeDesc} (h : P.underlying t = some d) (hd : (match d with | .struct _ => false | .array _ _ => false | _ => true) = true) : plainTy P t = true := by
  unfold plainTy; rw [h]; cases d <;> simp_all
theorem plain_no {P : Program} {t : TypeId} {d : TypeDesc} (h : P.underlying t = some d) (hd : (match d with | .struct _ => false | .array _ _ => false | _ => true) = false) : plainTy P t = false := by
  unfold plainTy; rw [h]; cases d <;> simp_all
theorem run_isAgg_no {t : TypeId} (h : plainTy P t = true) (w : World) : (isAgg t).run P w = .ok false w := by
  unfold plainTy at h
  unfold isAgg
  cases hu : P.underlying t with
  | none => simp [hu] at h
  | some d => cases d <;> simp [hu] at h <;> simp [run_underlying hu]
theorem run_isAgg_yes {t : TypeId} (hs : (P.underlying t).isSome = true) (h : plainTy P t = false) (w : World) : (isAgg t).run P w = .ok true w := by
  unfold plainTy at h
  unfold isAgg
  cases hu : P.underlying t with
  | none => simp [hu] at hs
  | some d => cases d <;> simp [hu] at h <;> simp [run_underlying hu]
theorem r_load {t : TypeId} {a : Addr} (ht : plainTy P t = true) (hx : ev L x = some (.pointer (some a))) (hc : w.cell? a = some v) : Val P L (.load t x) ty w v w := fun ρ hρ _ _ _ _ => by
  simp [execOp, hρ _ _ hx, Instr.loadAt, Instr.sureAddr, loadVar, run_isAgg_no ht, hc]
/-- A struct or an array is read whole. -/
theorem r_load_agg {t : TypeId} {b o n : Nat} {cs : List Value} (hu : (P.underlying t).isSome = true) (ht : plainTy P t = false) (hs : ∀ w, (sizeOf t).run P w = .ok n w) (hn : cs.length = n)
    (hx : ev L x = some (.pointer (some ⟨b, o, none⟩))) (hc : ∀ j u, cs[j]? = some u → w.cell? ⟨b, o + j, none⟩ = some u) : Val P L (.load t x) ty w (.agg cs.toArray) w := fun ρ hρ _ _ _ _ => by
  have h1 := run_loadCells_list (P := P) (w := w) ⟨b, o, none⟩ cs (fun j u hj => by rw [add_at]; exact hc j u hj)
  rw [hn] at h1
  simp [execOp, hρ _ _ hx, Instr.loadAt, Instr.sureAddr, loadVar, run_isAgg_yes hu ht, hs, h1]
theorem cell_of_blk {b o : Nat} {cs : Array Value} {t : TypeId} {fr : Nat × Nat} (hb : w.heap[b]? = some (.cells cs t fr)) (hi : cs[o]? = some v) : w.cell? ⟨b, o, none⟩ = some v := by simp [World.cell?, hb, hi]
theorem free_of_blk {b o : Nat} {cs : Array Value} {t : TypeId} (hb : w.heap[b]? = some (.cells cs t (0, 0))) : w.frozen? ⟨b, o, none⟩ = false := by simp [World.frozen?, hb]
theorem r_store {t : TypeId} {b o : Nat} {cs : Array Value} {et : TypeId} {u : Value} (hs : ∀ w, (sizeOf t).run P w = .ok 1 w) (hx : ev L x = some (.pointer (some ⟨b, o, none⟩))) (hy : ev L y = some u) (h1 : u.oneCell' = true)
    (hb : w.heap[b]? = some (.cells cs et (0, 0))) (ho : o < cs.size) : Runs P L (.store t x y) ty w (.ok .skip (w.setCell ⟨b, o, none⟩ u)) := fun ρ hρ _ _ _ _ => by
  have hc : w.cell? ⟨b, o, none⟩ = some cs[o] := cell_of_blk hb (by simp [ho])
  have hv : u.cells = #[u] := by cases u <;> simp_all [Value.cells, Value.oneCell']
  simp only [execOp, hρ _ _ hx, hρ _ _ hy]
  simp only [Instr.storeAt, Instr.sureAddr, Sem.run_bind, Sem.run_pure, Result.andThen_ok, storeVar, hs, hv]
  simp [storeCells, run_store _ _ _ _ _ h1, hc, free_of_blk hb, Addr.add_zero']
theorem r_alloc {t : TypeId} {z : Value} (hz : ∀ w, (zeroValue t).run P w = .ok z w) : Val P L (.alloc t) ty w (.pointer (some ⟨w.heap.size, 0, none⟩)) (w.alloc (.cells z.cells t)) := fun ρ hρ _ _ _ _ => by
  simp [execOp, Instr.alloc, hz, newVar, newRow]
theorem r_box {t : TypeId} (hx : ev L x = some v) : Val P L (.box t x) ty w (.pointer (some ⟨w.heap.size, 0, none⟩)) (w.alloc (.cells v.cells t)) := fun ρ hρ _ _ _ _ => by
  simp [execOp, hρ _ _ hx, Instr.box, newVar, newRow]

/-! ### what acts on memory -/
section
variable {w0 : World} {F : HP}
theorem e_store {t : TypeId} {b o : Nat} {cs : Array Value} {et : TypeId} {u : Value} (H : Holds w0 w (blk b (.cells cs et (0, 0)) • F)) (hs : ∀ w, (sizeOf t).run P w = .ok 1 w) (hx : ev L x = some (.pointer (some ⟨b, o, none⟩))) (hy : ev L y = some u) (h1 : u.oneCell' = true)
    (ho : o < cs.size) : Eff P L (.store t x y) ty w fun _ w' => Holds w0 w' (blk b (.cells (cs.setIfInBounds o u) et (0, 0)) • F) :=
  e_skip (r_store hs hx hy h1 H.get.2 ho) (H.setCell u)
theorem e_alloc {t : TypeId} {z : Value} (H : Holds w0 w F) (hz : ∀ w, (zeroValue t).run P w = .ok z w) : Eff P L (.alloc t) ty w fun v w' => ∃ b, v = .pointer (some ⟨b, 0, none⟩) ∧ Holds w0 w' (blk b (.cells z.cells t (0, 0)) • F) :=
  e_val (r_alloc hz) ⟨_, rfl, H.alloc _⟩
theorem e_box {t : TypeId} (H : Holds w0 w F) (hx : ev L x = some v) : Eff P L (.box t x) ty w fun u w' => ∃ b, u = .pointer (some ⟨b, 0, none⟩) ∧ Holds w0 w' (blk b (.cells v.cells t (0, 0)) • F) :=
  e_val (r_box hx) ⟨_, rfl, H.alloc _⟩
end
end
end Go.Proofs.YtgmpclifphbjkaaGreatDoor
end
section
/- A region that draws its order, walked once: what only reads is taken as soon as it may come up; what acts is the only one that may come up then. -/
set_option linter.unusedSimpArgs false
set_option linter.unusedVariables false
namespace Go.Proofs.YtgmpclifphbjkaaGreatDoor
open Go.RowKit

/-- Number z waits for number k, over at most so many steps. -/
def waitsFor (ops : Array Oper) : Nat → Nat → Nat → Bool
  | 0, _, _ => false
  | n + 1, z, k => match ops[z]? with
    | none => false
    | some o => o.after.any fun e => Region.binds .any e && (Nat.beq e.on k || waitsFor ops n e.on k)
/-- Number z waits for every other one. -/
def waitsAll (ops : Array Oper) (z : Nat) : Bool := (List.range ops.size).all fun k => Nat.beq k z || waitsFor ops 8 z k
/-- Number j comes up beside none of these: it waits for each, or each for it. -/
def exempt (ops : Array Oper) (qs : List Nat) (j : Nat) : Bool := qs.all fun q => Nat.beq q j || waitsFor ops 12 j q || waitsFor ops 12 q j
/-- What has come up had what it waits for come up. -/
def Closed (ops : Array Oper) (listed : Array Bool) : Prop := ∀ (j : Nat) (o : Oper), ops[j]? = some o → listed.getD j false = true → ∀ e ∈ o.after, Region.binds .any e = true → listed.getD e.on false = true

def wpAnyG (P : Program) (ops : Array Oper) (Q : Exit → Act → World → Prop) (qs : List Nat) : Nat → (World → Prop) → Array Bool → Act → World → Prop
  | 0, _, listed, a, w => Region.ready .any ops listed = [] ∧ Q .normal a w
  | fuel + 1, S, listed, a, w =>
    (Region.ready .any ops listed = [] → Q .normal a w) ∧
    ∀ i ∈ Region.ready .any ops listed, wpOpIn Fence.wide 0 P ops Q i (fun a' w' => ∃ S' : World → Prop, ((∀ W, S' W → S W) ∨ exempt ops qs i = true) ∧ S' w' ∧ wpAnyG P ops Q qs fuel S' (listed.setIfInBounds i true) a' w') a w

section
variable {P : Program} {ops : Array Oper} {Q : Exit → Act → World → Prop} {S : World → Prop} {qs : List Nat}

theorem wpAny_of_G : ∀ (fuel : Nat) (S : World → Prop) (listed : Array Bool) (a : Act) (w : World), wpAnyG P ops Q qs fuel S listed a w → wpAnyIn Fence.wide 0 P .any ops Q fuel listed a w
  | 0, _, _, _, _, h => h
  | fuel + 1, _, _, _, _, h => ⟨h.1, fun i hi => wpOpIn_mono (fun a' w' ⟨S', _, _, h'⟩ => wpAny_of_G fuel S' _ a' w' h') (h.2 i hi)⟩
theorem opIn_fz {ro : Option Nat} (hd : noDefer ops.toList = true) {i : Nat} {K : Act → World → Prop} {a : Act} {w : World} (h : wpOpIn Fence.wide 0 P ops Q i K a w) : wpOpIn (fz ro) 0 P ops Q i K a w := by
  unfold wpOpIn at *
  cases ho : ops[i]? with
  | none => simpa [ho] using h
  | some o =>
    simp only [ho] at h ⊢
    have hno : ∀ c, o.op ≠ .defer c := by
      have key : ∀ (l : List Oper), noDefer l = true → ∀ x ∈ l, ∀ c, x.op ≠ .defer c := by
        intro l
        induction l with
        | nil => intro _ x hx; cases hx
        | cons y r ih =>
          intro h x hx
          simp only [noDefer, Bool.and_eq_true] at h
          rcases List.mem_cons.1 hx with rfl | hx
          · exact noDefer_ne h.1
          · exact ih h.2 x hx
      exact key _ hd o (by rw [Array.mem_toList_iff]; exact Array.mem_of_getElem? ho)
    split
    · rename_i hw; rw [if_pos hw] at h; exact operIn_fz hno h
    · rename_i hw; rw [if_neg hw] at h; exact h
theorem anyIn_fz {ro : Option Nat} (hd : noDefer ops.toList = true) : ∀ (fuel : Nat) (listed : Array Bool) (a : Act) (w : World), wpAnyIn Fence.wide 0 P .any ops Q fuel listed a w → wpAnyIn (fz ro) 0 P .any ops Q fuel listed a w
  | 0, _, _, _, h => h
  | fuel + 1, _, _, _, h => ⟨h.1, fun i hi => opIn_fz hd (wpOpIn_mono (fun a' w' h' => anyIn_fz hd fuel _ a' w' h') (h.2 i hi))⟩
theorem yieldsIf_opIn {i : Nat} {o : Oper} {v : Value} {a : Act} (hi : ops[i]? = some o) (hy : YieldsIf P ops S o v a)
    {K : Act → World → Prop} {w : World} (hS : S w) (h : K (a.put o.dst v) w) : wpOpIn Fence.wide 0 P ops Q i K a w := by
  unfold wpOpIn
  simp only [hi]
  rcases hy with ⟨hw, hv⟩ | ⟨hw, rfl⟩
  · simp only [hw, if_true]; exact upon_in (by rw [hv w hS]; exact h)
  · simp only [hw, Bool.false_eq_true, if_false]; exact ⟨fun _ _ => trivial, h⟩
theorem yieldsIf_sub {S' : World → Prop} {o : Oper} {v : Value} {a : Act} (hs : ∀ W, S' W → S W) (hy : YieldsIf P ops S o v a) : YieldsIf P ops S' o v a := hy.imp (fun ⟨h1, h2⟩ => ⟨h1, fun w hw => h2 w (hs w hw)⟩) id
theorem opIn_putIf {j : Nat} {oi oj : Oper} {v : Value} (hj : ops[j]? = some oj) (hap : oi.apart ops oj = true)
    (hsi : ∀ cs b, oi.op ≠ .select cs b) (hsj : ∀ cs b, oj.op ≠ .select cs b)
    (hQ : ∀ c a w, Q (.panic c) (a.put oi.dst v) w → Q (.panic c) a w) {K : Act → World → Prop} {a : Act} {w : World}
    (hy : YieldsIf P ops S oi v a) (h : wpOpIn Fence.wide 0 P ops Q j K (a.put oi.dst v) w) :
    wpOpIn Fence.wide 0 P ops Q j (fun a' w' => YieldsIf P ops S oi v a' ∧ K (a'.put oi.dst v) w') a w := by
  obtain ⟨h1, h2, h3⟩ := Oper.apart_spec hap
  have keep : ∀ (a : Act), YieldsIf P ops S oi v a → ∀ u, YieldsIf P ops S oi v (a.put oj.dst u) := fun a hy u =>
    hy.of_same (execOp_put oi hsi a oj.dst u h3) (wanted_put oi a oj.dst u h3)
  have keepD : ∀ d, YieldsIf P ops S oi v { a with defers := d :: a.defers } := fun d => hy.of_same rfl rfl
  unfold wpOpIn at *
  simp only [hj] at *
  rw [wanted_put oj a oi.dst v h1] at h
  split
  · rename_i hw
    simp only [hw, if_true] at h
    refine upon_in ?_
    have h := h.2
    change oj.uponIn Fence.wide 0 P (a.put oi.dst v) K Q ((execOp (a.put oi.dst v).eval oj).run P w) at h
    rw [execOp_put oj hsj a oi.dst v h1] at h
    generalize (execOp a.eval oj).run P w = r at *
    cases r with
    | ok n w' =>
      cases n <;> simp only [Oper.uponIn] at h ⊢
      case value u => exact ⟨keep a hy u, by rw [← Act.put_comm a v u h2]; exact h⟩
      case skip => exact ⟨keep a hy _, by rw [← Act.put_comm a v undef h2]; exact h⟩
      case defer d =>
        refine ⟨keep _ (keepD d) _, ?_⟩
        rw [← Act.put_comm _ v undef h2, ← Act.put_defers]
        exact h
      case enter f args =>
        refine ⟨h.1, CallsIn.mono h.2 fun e w'' he => ?_⟩
        cases e with
        | returned u => exact ⟨keep a hy u, by rw [← Act.put_comm a v u h2]; exact he⟩
        | panicked c => exact hQ _ _ _ he
        | outgrown => exact he
      case row row args => exact ⟨h.1, RowsIn.mono h.2 fun u w'' he => ⟨keep a hy u, by rw [← Act.put_comm a v u h2]; exact he⟩⟩
      case round l f tmps c d =>
        refine ⟨h.1, RoundIn.mono h.2 fun e w'' he => ?_⟩
        cases e with
        | returned u => exact ⟨keep a hy u, by rw [← Act.put_comm a v u h2]; exact he⟩
        | panicked c => exact hQ _ _ _ he
        | outgrown => exact he
    | halt x w' =>
      cases x <;> simp only [Oper.uponIn] at h ⊢
      case panic u => exact hQ _ _ _ h
  · rename_i hw
    simp only [hw, Bool.false_eq_true, if_false] at h
    exact ⟨fun _ _ => trivial, keep a hy _, by rw [← Act.put_comm a v undef h2]; exact h.2⟩

theorem Closed.set {listed : Array Bool} (h : Closed ops listed) {i : Nat} (hi : i ∈ Region.ready .any ops listed) : Closed ops (listed.setIfInBounds i true) := by
  obtain ⟨_, oi, hoi, hall⟩ := mem_ready.1 hi
  intro j o ho hj e he hb
  by_cases hji : j = i
  · subst hji
    rw [hoi] at ho
    cases ho
    exact getD_set_true (hall e he hb)
  · refine getD_set_true (h j o ho ?_ e he hb)
    rw [getD_set_ne false (Ne.symm hji)] at hj
    exact hj
theorem Closed.start (n : Nat) : Closed ops (Array.replicate n false) := by
  intro j o _ hj
  simp [Array.getD_eq_getD_getElem?, Array.getElem?_replicate] at hj
  split at hj <;> simp at hj
theorem waitsFor_listed {listed : Array Bool} (hc : Closed ops listed) : ∀ (n z k : Nat), (∀ o, ops[z]? = some o → ∀ e ∈ o.after, Region.binds .any e = true → listed.getD e.on false = true) → waitsFor ops n z k = true → listed.getD k false = true
  | 0, _, _, _, h => by simp [waitsFor] at h
  | n + 1, z, k, hz, h => by
    unfold waitsFor at h
    cases ho : ops[z]? with
    | none => simp [ho] at h
    | some o =>
      rw [ho] at h
      obtain ⟨e, he, hb⟩ := Array.any_eq_true'.1 h
      simp only [Bool.and_eq_true, Bool.or_eq_true] at hb
      have hl := hz o ho e he hb.1
      rcases hb.2 with h1 | h1
      · rw [← Nat.eq_of_beq_eq_true h1]; exact hl
      · exact waitsFor_listed hc n e.on k (fun o' ho' => hc e.on o' ho' hl) h1
theorem not_waits {i j : Nat} {n : Nat} {listed : Array Bool} (hc : Closed ops listed) (hi : i ∈ Region.ready .any ops listed) (hj : j ∈ Region.ready .any ops listed) : waitsFor ops n j i = false := by
  obtain ⟨hiun, oi, hoi, _⟩ := mem_ready.1 hi
  obtain ⟨hjun, oj, hoj, hall⟩ := mem_ready.1 hj
  cases hw : waitsFor ops n j i with
  | false => rfl
  | true =>
    have h2 := waitsFor_listed hc n j i (fun o ho e he hb => by rw [hoj] at ho; cases ho; exact hall e he hb) hw
    rcases Nat.lt_or_ge i listed.size with h' | h'
    · simp [h'] at hiun h2; rw [hiun] at h2; cases h2
    · simp [Array.getElem?_eq_none h'] at h2
theorem not_exempt {i j : Nat} {listed : Array Bool} (hc : Closed ops listed) (hi : i ∈ Region.ready .any ops listed) (hj : j ∈ Region.ready .any ops listed) (hne : ¬ j = i) (hq : i ∈ qs) : exempt ops qs j = false := by
  cases hx : exempt ops qs j with
  | false => rfl
  | true =>
    have h1 := List.all_eq_true.1 hx i hq
    rw [nbeq (fun e => hne e.symm), not_waits hc hi hj, not_waits hc hj hi] at h1
    cases h1

theorem wpAnyG_first {i : Nat} {oi : Oper} {v : Value} (hi : ops[i]? = some oi) (hsel : ∀ (j : Nat) (o : Oper) cs b, ops[j]? = some o → o.op ≠ .select cs b)
    (hQ : NP Q) :
    ∀ (fuel : Nat) (S : World → Prop) (listed : Array Bool) (a : Act) (w : World), Closed ops listed →
      (∀ j oj, ops[j]? = some oj → j ≠ i → listed.getD j true = false → (∀ e ∈ oj.after, Region.binds .any e = true → e.on ≠ i) → oi.apart ops oj = true) →
      i ∈ Region.ready .any ops listed → (YieldsIf P ops (fun _ => True) oi v a ∨ i ∈ qs ∧ YieldsIf P ops S oi v a) → S w →
      wpAnyG P ops Q qs fuel S (listed.setIfInBounds i true) (a.put oi.dst v) w → wpAnyG P ops Q qs (fuel + 1) S listed a w := by
  intro fuel
  have self : ∀ (S : World → Prop) (a : Act) (w : World) (K : Act → World → Prop), (YieldsIf P ops (fun _ => True) oi v a ∨ i ∈ qs ∧ YieldsIf P ops S oi v a) → S w → K (a.put oi.dst v) w → wpOpIn Fence.wide 0 P ops Q i K a w := by
    rintro S a w K (hy | ⟨_, hy⟩) hS hK
    · exact yieldsIf_opIn hi hy trivial hK
    · exact yieldsIf_opIn hi hy hS hK
  induction fuel with
  | zero =>
    intro S listed a w _ _ hr hy hS H
    refine ⟨fun h => (by rw [h] at hr; cases hr), fun j hj => ?_⟩
    by_cases hji : j = i
    · subst hji; exact self S a w _ hy hS ⟨S, .inl fun _ h => h, hS, H⟩
    · have := ready_mono hj hji
      rw [H.1] at this
      cases this
  | succ fuel ih =>
    intro S listed a w hcl hfree hr hy hS H
    refine ⟨fun h => (by rw [h] at hr; cases hr), fun j hj => ?_⟩
    by_cases hji : j = i
    · subst hji; exact self S a w _ hy hS ⟨S, .inl fun _ h => h, hS, H⟩
    · have h1 := H.2 j (ready_mono hj hji)
      obtain ⟨hjun, oj, hoj, hall⟩ := mem_ready.1 hj
      have hnot : ∀ e ∈ oj.after, Region.binds .any e = true → e.on ≠ i := fun e he hb heq => by
        have h1 := hall e he hb
        have h0 := (mem_ready.1 hr).1
        rw [heq] at h1
        rcases Nat.lt_or_ge i listed.size with h' | h'
        · simp [h'] at h0 h1; rw [h0] at h1; cases h1
        · simp [Array.getElem?_eq_none h'] at h1
      have hfree' : ∀ k ok, ops[k]? = some ok → k ≠ i → (listed.setIfInBounds j true).getD k true = false →
          (∀ e ∈ ok.after, Region.binds .any e = true → e.on ≠ i) → oi.apart ops ok = true := fun k ok hk hki hun hno => by
        refine hfree k ok hk hki ?_ hno
        by_cases hjk : j = k
        · subst hjk; exact hjun
        · rw [getD_set_ne true hjk] at hun; exact hun
      have put : ∀ T : World → Prop, YieldsIf P ops T oi v a → wpOpIn Fence.wide 0 P ops Q j (fun a' w' => YieldsIf P ops T oi v a' ∧ ∃ S' : World → Prop, ((∀ W, S' W → S W) ∨ exempt ops qs j = true) ∧ S' w' ∧ wpAnyG P ops Q qs fuel S' ((listed.setIfInBounds i true).setIfInBounds j true) (a'.put oi.dst v) w') a w := fun T hyT =>
        opIn_putIf hoj (hfree j oj hoj hji hjun hnot) (fun cs b => hsel i oi cs b hi) (fun cs b => hsel j oj cs b hoj) (fun c a w h => absurd h (hQ _ _ _)) hyT h1
      rcases hy with hy | ⟨hq, hy⟩
      · refine wpOpIn_mono (fun a' w' h3 => ?_) (put _ hy)
        obtain ⟨hy3, S', hsub, hS3, h4⟩ := h3
        refine ⟨S', hsub, hS3, ih S' (listed.setIfInBounds j true) a' w' (hcl.set hj) hfree' (ready_mono hr (Ne.symm hji)) (.inl hy3) hS3 ?_⟩
        rw [Array.setIfInBounds_comm _ _ hji]
        exact h4
      · have hx := not_exempt hcl hr hj hji hq
        refine wpOpIn_mono (fun a' w' h3 => ?_) (put _ hy)
        obtain ⟨hy3, S', hsub, hS3, h4⟩ := h3
        refine ⟨S', hsub, hS3, ih S' (listed.setIfInBounds j true) a' w' (hcl.set hj) hfree' (ready_mono hr (Ne.symm hji)) (.inr ⟨hq, yieldsIf_sub (hsub.resolve_right (by rw [hx]; decide)) hy3⟩) hS3 ?_⟩
        rw [Array.setIfInBounds_comm _ _ hji]
        exact h4

end

/-- The walk through such a region: 'listed' have come up. -/
def WD (P : Program) (N : Sh) (ops : Array Oper) (Q : Exit → Act → World → Prop) (qs : List Nat) (S : World → Prop) (fuel : Nat) (listed : Array Bool) (L : List (Nat × Value)) (w : World) : Prop :=
  NP Q → Region.noSelect ops = true → Closed ops listed → ∀ a, Fits N L a → wpAnyG P ops Q qs fuel S listed a w

section
variable {P : Program} {N : Sh} {ops : Array Oper} {Q : Exit → Act → World → Prop} {qs : List Nat} {S : World → Prop} {fuel : Nat} {listed : Array Bool} {L : List (Nat × Value)} {w w' : World}
  {op : Op} {ty : TypeId} {pos : String} {aft : Array Edge} {d i : Nat} {v : Value} {g : Option (Nat × Bool)}

theorem wd_begin {id n : Nat} (qs : List Nat) (S : World → Prop) (hm : P.follows .mixedOrders = true) (hs : Region.noSelect ops = true) (hn : ops.size = n) (h : WD P N ops Q qs S n (Array.replicate n false) L w.drew) (hd : N.ro = none ∨ noDefer ops.toList = true := by first | exact .inl rfl | exact .inr rfl) : WC P N (.region id ops true) Q L w := fun np a ha => by
  have h1 : wpAnyIn Fence.wide 0 P .any ops Q ops.size (Array.replicate ops.size false) a { w with drawn := w.drawn + 1 } := wpAny_of_G _ _ _ _ _ (by rw [hn]; exact h np hs (Closed.start n) a ha)
  rcases hd with hd | hd
  · rw [hd]; exact wpIn_region_any hm h1
  · exact wpIn_region_any hm (anyIn_fz hd _ _ _ _ h1)
theorem wd_beginK {id n : Nat} (qs : List Nat) {w0 : World} {A : HP} (hS : Kp w0 A w.drew) (hm : P.follows .mixedOrders = true) (hs : Region.noSelect ops = true) (hn : ops.size = n) (h : WD P N ops Q qs (Kp w0 A) n (Array.replicate n false) L w.drew) (hd : N.ro = none ∨ noDefer ops.toList = true := by first | exact .inl rfl | exact .inr rfl) : WC P N (.region id ops true) Q L w := wd_begin qs (Kp w0 A) hm hs hn h hd
theorem keepK {w0 : World} {A : HP} {T : World → Prop} {q : Prop} {X : (World → Prop) → Prop} (h : Kp w0 A w) (hs : ∀ W, Kp w0 A W → T W) (x : X (Kp w0 A)) : ∃ S' : World → Prop, ((∀ W, S' W → T W) ∨ q) ∧ S' w ∧ X S' := ⟨_, .inl hs, h, x⟩
theorem keepX {w0 : World} {A : HP} {T : World → Prop} {X : (World → Prop) → Prop} {i : Nat} (h : Kp w0 A w) (hs : exempt ops qs i = true) (x : X (Kp w0 A)) : ∃ S' : World → Prop, ((∀ W, S' W → T W) ∨ exempt ops qs i = true) ∧ S' w ∧ X S' := ⟨_, .inr hs, h, x⟩
theorem keepE {T : World → Prop} {X : (World → Prop) → Prop} {i : Nat} (hs : exempt ops qs i = true) (x : X fun _ => True) : ∃ S' : World → Prop, ((∀ W, S' W → T W) ∨ exempt ops qs i = true) ∧ S' w ∧ X S' := ⟨_, .inr hs, trivial, x⟩
theorem keepS {T : World → Prop} {X : (World → Prop) → Prop} {q : Prop} (h : T w) (x : X T) : ∃ S' : World → Prop, ((∀ W, S' W → T W) ∨ q) ∧ S' w ∧ X S' := ⟨_, .inl fun _ h => h, h, x⟩
theorem wd_done (hr : Region.ready .any ops listed = []) (h : WQ N Q .normal L w) : WD P N ops Q qs S fuel listed L w := fun np _ _ a ha => by
  cases fuel with
  | zero => exact ⟨hr, h np a ha⟩
  | succ n => exact ⟨fun _ => h np a ha, by rw [hr]; simp⟩
/-- Number i, which only reads, is taken. -/
theorem wd_take (i : Nat) (hi : ops[i]? = some ⟨some d, op, ty, pos, aft, none⟩) (hf : Region.free .any ops listed i = true) (hr : (Region.ready .any ops listed).contains i = true) (hS : S w)
    (hq : qs.contains i = true) (hv : ∀ w', S w' → Val P L op ty w' v w') (hd : d < N.n) (h : WD P N ops Q qs S fuel (listed.setIfInBounds i true) ((d, v) :: L) w) : WD P N ops Q qs S (fuel + 1) listed L w := fun np ns cl a ha =>
  wpAnyG_first hi (Region.noSelect_spec ns) np fuel S listed a w cl (Region.free_spec hi hf) (by simpa using hr) (.inr ⟨by simpa using hq, .inl ⟨by simp [Region.wanted], fun w' hw' => hv w' hw' a.eval (fun x u hx => ha.ev hx) _ _ _ _⟩⟩) hS (h np ns (cl.set (by simpa using hr)) _ (ha.put hd v))
/-- Number i, whose guard says yes, likewise. -/
theorem wd_take_yes (i : Nat) {j t : Nat} {want : Bool} (hi : ops[i]? = some ⟨some d, op, ty, pos, aft, some (j, want)⟩) (hj : (ops[j]?).bind (·.dst) = some t) (hl : look L t = some (.bool want)) (hf : Region.free .any ops listed i = true) (hr : (Region.ready .any ops listed).contains i = true) (hS : S w)
    (hq : qs.contains i = true) (hv : ∀ w', S w' → Val P L op ty w' v w') (hd : d < N.n) (h : WD P N ops Q qs S fuel (listed.setIfInBounds i true) ((d, v) :: L) w) : WD P N ops Q qs S (fuel + 1) listed L w := fun np ns cl a ha =>
  wpAnyG_first hi (Region.noSelect_spec ns) np fuel S listed a w cl (Region.free_spec hi hf) (by simpa using hr) (.inr ⟨by simpa using hq, .inl ⟨by simp [Region.wanted, yielded_of ha hj hl], fun w' hw' => hv w' hw' a.eval (fun x u hx => ha.ev hx) _ _ _ _⟩⟩) hS (h np ns (cl.set (by simpa using hr)) _ (ha.put hd v))
/-- Number i, which does not look at the world, is taken. -/
theorem wd_takeT (i : Nat) (hi : ops[i]? = some ⟨some d, op, ty, pos, aft, none⟩) (hf : Region.free .any ops listed i = true) (hr : (Region.ready .any ops listed).contains i = true) (hS : S w)
    (hv : ∀ w', Val P L op ty w' v w') (hd : d < N.n) (h : WD P N ops Q qs S fuel (listed.setIfInBounds i true) ((d, v) :: L) w) : WD P N ops Q qs S (fuel + 1) listed L w := fun np ns cl a ha =>
  wpAnyG_first hi (Region.noSelect_spec ns) np fuel S listed a w cl (Region.free_spec hi hf) (by simpa using hr) (.inl (.inl ⟨by simp [Region.wanted], fun w' hw' => hv w' a.eval (fun x u hx => ha.ev hx) _ _ _ _⟩)) hS (h np ns (cl.set (by simpa using hr)) _ (ha.put hd v))
/-- Number i, whose guard says yes, likewise, too. -/
theorem wd_takeT_yes (i : Nat) {j t : Nat} {want : Bool} (hi : ops[i]? = some ⟨some d, op, ty, pos, aft, some (j, want)⟩) (hj : (ops[j]?).bind (·.dst) = some t) (hl : look L t = some (.bool want)) (hf : Region.free .any ops listed i = true) (hr : (Region.ready .any ops listed).contains i = true) (hS : S w)
    (hv : ∀ w', Val P L op ty w' v w') (hd : d < N.n) (h : WD P N ops Q qs S fuel (listed.setIfInBounds i true) ((d, v) :: L) w) : WD P N ops Q qs S (fuel + 1) listed L w := fun np ns cl a ha =>
  wpAnyG_first hi (Region.noSelect_spec ns) np fuel S listed a w cl (Region.free_spec hi hf) (by simpa using hr) (.inl (.inl ⟨by simp [Region.wanted, yielded_of ha hj hl], fun w' hw' => hv w' a.eval (fun x u hx => ha.ev hx) _ _ _ _⟩)) hS (h np ns (cl.set (by simpa using hr)) _ (ha.put hd v))
/-- Number i, whose guard says no, is passed over. -/
theorem wd_no (i : Nat) {j t : Nat} {want b : Bool} (hi : ops[i]? = some ⟨some d, op, ty, pos, aft, some (j, want)⟩) (hj : (ops[j]?).bind (·.dst) = some t) (hl : look L t = some (.bool b)) (hb : (b == want) = false)
    (hf : Region.free .any ops listed i = true) (hr : (Region.ready .any ops listed).contains i = true) (hS : S w) (hd : d < N.n) (h : WD P N ops Q qs S fuel (listed.setIfInBounds i true) ((d, undef) :: L) w) : WD P N ops Q qs S (fuel + 1) listed L w := fun np ns cl a ha =>
  wpAnyG_first hi (Region.noSelect_spec ns) np fuel S listed a w cl (Region.free_spec hi hf) (by simpa using hr) (.inl (.inr ⟨by simp [Region.wanted, yielded_of ha hj hl]; simpa using hb, rfl⟩)) hS (h np ns (cl.set (by simpa using hr)) _ (ha.put hd _))
/-- A truth that guards what follows: two ways. -/
theorem wd_split (i : Nat) {x : Operand} {b : Bool} (hi : ops[i]? = some ⟨some d, .move x, ty, pos, aft, none⟩) (hx : ev L x = some (.bool b)) (hf : Region.free .any ops listed i = true) (hr : (Region.ready .any ops listed).contains i = true) (hS : S w) (hd : d < N.n)
    (ht : b = true → WD P N ops Q qs S fuel (listed.setIfInBounds i true) ((d, .bool true) :: L) w) (hf' : b = false → WD P N ops Q qs S fuel (listed.setIfInBounds i true) ((d, .bool false) :: L) w) : WD P N ops Q qs S (fuel + 1) listed L w := by
  refine wd_takeT i (v := .bool b) hi hf hr hS (fun w' => r_move hx) hd ?_
  cases b
  · exact hf' rfl
  · exact ht rfl

theorem wd_one {i : Nat} {o : Oper} (hi : ops[i]? = some o) (hr : Region.ready .any ops listed = [i]) {a : Act}
    (h : ∀ K : Act → World → Prop, (∀ a' w', (∃ S' : World → Prop, ((∀ W, S' W → S W) ∨ exempt ops qs i = true) ∧ S' w' ∧ wpAnyG P ops Q qs fuel S' (listed.setIfInBounds i true) a' w') → K a' w') → if Region.wanted o (yielded ops a.tmps) then o.wpIn Fence.wide 0 P a w K Q else K (a.put o.dst undef) w) :
    wpAnyG P ops Q qs (fuel + 1) S listed a w := by
  refine ⟨fun h0 => (by rw [hr] at h0; cases h0), fun j hj => ?_⟩
  rw [hr] at hj
  simp at hj
  subst hj
  unfold wpOpIn
  rw [hi]
  have := h _ (fun _ _ h => h)
  dsimp only
  split
  · rename_i hw; rw [if_pos hw] at this; exact this
  · rename_i hw; rw [if_neg hw] at this; exact ⟨fun _ _ => trivial, this⟩
/-- The same, what is known of the world turning with it. -/
theorem wd_eff (i : Nat) {T : Value → World → Prop} (hi : ops[i]? = some ⟨some d, op, ty, pos, aft, none⟩) (hr : Region.ready .any ops listed = [i]) (he : Eff P L op ty w T) (hd : d < N.n)
    (h : ∀ v w', T v w' → ∃ S' : World → Prop, ((∀ W, S' W → S W) ∨ exempt ops qs i = true) ∧ S' w' ∧ WD P N ops Q qs S' fuel (listed.setIfInBounds i true) ((d, v) :: L) w') : WD P N ops Q qs S (fuel + 1) listed L w := fun np ns cl a ha =>
  wd_one hi hr fun K hK => by
    rw [if_pos (by simp [Region.wanted])]
    exact he.wp ha rfl rfl fun v w' ht => let ⟨S', h1, h2, h3⟩ := h v w' ht; hK _ _ ⟨S', h1, h2, h3 np ns (cl.set (by rw [hr]; simp)) _ (ha.put hd v)⟩
theorem wd_eff0 (i : Nat) {T : Value → World → Prop} (hi : ops[i]? = some ⟨none, op, ty, pos, aft, none⟩) (hr : Region.ready .any ops listed = [i]) (he : Eff P L op ty w T)
    (h : ∀ v w', T v w' → ∃ S' : World → Prop, ((∀ W, S' W → S W) ∨ exempt ops qs i = true) ∧ S' w' ∧ WD P N ops Q qs S' fuel (listed.setIfInBounds i true) L w') : WD P N ops Q qs S (fuel + 1) listed L w := fun np ns cl a ha =>
  wd_one hi hr fun K hK => by
    rw [if_pos (by simp [Region.wanted])]
    exact he.wp ha rfl rfl fun v w' ht => let ⟨S', h1, h2, h3⟩ := h v w' ht; hK _ _ ⟨S', h1, h2, h3 np ns (cl.set (by rw [hr]; simp)) _ ha⟩
/-- Several may come next: each way. -/
def WDi (P : Program) (N : Sh) (ops : Array Oper) (Q : Exit → Act → World → Prop) (qs : List Nat) (S : World → Prop) (fuel : Nat) (listed : Array Bool) (L : List (Nat × Value)) (w : World) (i : Nat) : Prop :=
  NP Q → Region.noSelect ops = true → Closed ops listed → ∀ a, Fits N L a → wpOpIn Fence.wide 0 P ops Q i (fun a' w' => ∃ S' : World → Prop, ((∀ W, S' W → S W) ∨ exempt ops qs i = true) ∧ S' w' ∧ wpAnyG P ops Q qs fuel S' (listed.setIfInBounds i true) a' w') a w
theorem wd_two {i j : Nat} (hr : Region.ready .any ops listed = [i, j]) (h1 : WDi P N ops Q qs S fuel listed L w i) (h2 : WDi P N ops Q qs S fuel listed L w j) : WD P N ops Q qs S (fuel + 1) listed L w := fun np ns cl a ha =>
  ⟨fun h0 => (by rw [hr] at h0; cases h0), fun k hk => by
    rw [hr] at hk
    simp only [List.mem_cons, List.not_mem_nil, or_false] at hk
    rcases hk with rfl | rfl
    · exact h1 np ns cl a ha
    · exact h2 np ns cl a ha⟩
theorem wd_three {i j k : Nat} (hr : Region.ready .any ops listed = [i, j, k]) (h1 : WDi P N ops Q qs S fuel listed L w i) (h2 : WDi P N ops Q qs S fuel listed L w j) (h3 : WDi P N ops Q qs S fuel listed L w k) : WD P N ops Q qs S (fuel + 1) listed L w := fun np ns cl a ha =>
  ⟨fun h0 => (by rw [hr] at h0; cases h0), fun m hm => by
    rw [hr] at hm
    simp only [List.mem_cons, List.not_mem_nil, or_false] at hm
    rcases hm with rfl | rfl | rfl
    · exact h1 np ns cl a ha
    · exact h2 np ns cl a ha
    · exact h3 np ns cl a ha⟩
theorem wdi_one {i : Nat} {o : Oper} (hi : ops[i]? = some o) {a : Act}
    (h : ∀ K : Act → World → Prop, (∀ a' w', (∃ S' : World → Prop, ((∀ W, S' W → S W) ∨ exempt ops qs i = true) ∧ S' w' ∧ wpAnyG P ops Q qs fuel S' (listed.setIfInBounds i true) a' w') → K a' w') → if Region.wanted o (yielded ops a.tmps) then o.wpIn Fence.wide 0 P a w K Q else K (a.put o.dst undef) w) :
    wpOpIn Fence.wide 0 P ops Q i (fun a' w' => ∃ S' : World → Prop, ((∀ W, S' W → S W) ∨ exempt ops qs i = true) ∧ S' w' ∧ wpAnyG P ops Q qs fuel S' (listed.setIfInBounds i true) a' w') a w := by
  unfold wpOpIn
  rw [hi]
  have := h _ (fun _ _ h => h)
  dsimp only
  split
  · rename_i hw; rw [if_pos hw] at this; exact this
  · rename_i hw; rw [if_neg hw] at this; exact ⟨fun _ _ => trivial, this⟩
theorem wdi_eff (i : Nat) {T : Value → World → Prop} (hi : ops[i]? = some ⟨some d, op, ty, pos, aft, none⟩) (hr : (Region.ready .any ops listed).contains i = true) (he : Eff P L op ty w T) (hd : d < N.n)
    (h : ∀ v w', T v w' → ∃ S' : World → Prop, ((∀ W, S' W → S W) ∨ exempt ops qs i = true) ∧ S' w' ∧ WD P N ops Q qs S' fuel (listed.setIfInBounds i true) ((d, v) :: L) w') : WDi P N ops Q qs S fuel listed L w i := fun np ns cl a ha =>
  wdi_one hi fun K hK => by
    rw [if_pos (by simp [Region.wanted])]
    exact he.wp ha rfl rfl fun v w' ht => let ⟨S', h1, h2, h3⟩ := h v w' ht; hK _ _ ⟨S', h1, h2, h3 np ns (cl.set (by simpa using hr)) _ (ha.put hd v)⟩
end
end Go.Proofs.YtgmpclifphbjkaaGreatDoor
end
section
/- Slices that one owns; append; literals; make; copy. -/
set_option linter.unusedSimpArgs false
set_option linter.unusedVariables false
namespace Go.Proofs.YtgmpclifphbjkaaGreatDoor
open Go.RowKit

/-- The slice v, its row one's own: n elements of sz cells each, the cells xs. -/
def Row (e : TypeId) (sz : Nat) (v : Value) (n : Nat) (xs : List Value) : HP where
  p := fun _ h => xs.length = n * sz ∧ ((∃ a, v = .slice a 0 0 ∧ n = 0 ∧ h = Hp.none) ∨
    ∃ g o c cur, v = .slice (some ⟨g, o, none⟩) n c ∧ n ≤ c ∧ (c : Int) ≤ 9223372036854775807 ∧ o + c * sz ≤ cur.size ∧ (∀ j, j < n * sz → cur[o + j]? = some (xs.getD j undef)) ∧ h = fun k => if k = g then some (.cells cur e (0, 0)) else none)
  mono := fun _ _ _ _ h => h

section
variable {P : Program} {w0 w : World} {A F : HP} {e : TypeId} {sz n : Nat} {v : Value} {xs : List Value}

theorem Holds.row_len (H : Holds w0 w (Row e sz v n xs • F)) : xs.length = n * sz := by
  obtain ⟨I, x, ⟨a, b, _, _, h, _⟩, _⟩ := H.hp
  exact h.1
/-- What an owned row is. -/
theorem Holds.row_open (H : Holds w0 w (Row e sz v n xs • F)) : (∃ a, v = .slice a 0 0 ∧ n = 0 ∧ xs = [] ∧ Holds w0 w F) ∨
    ∃ g o c cur, v = .slice (some ⟨g, o, none⟩) n c ∧ n ≤ c ∧ (c : Int) ≤ 9223372036854775807 ∧ o + c * sz ≤ cur.size ∧ (∀ j, j < n * sz → cur[o + j]? = some (xs.getD j undef)) ∧ Holds w0 w (blk g (.cells cur e (0, 0)) • F) := by
  have hl := H.row_len
  obtain ⟨I, x, ⟨a, b, hd, e, ⟨_, h⟩, hF⟩, hD, hI, hk⟩ := H.hp
  rcases h with ⟨ad, h1, h2, h3⟩ | ⟨g, o, c, cur, h1, h2, h3, h4, h5, h6⟩
  · subst h2 h3
    refine .inl ⟨ad, h1, rfl, List.eq_nil_of_length_eq_zero (by omega), H.base, I, x, ?_, hD, hI, hk⟩
    rw [e, Hp.none_join]; exact hF
  · exact .inr ⟨g, o, c, cur, h1, h2, h3, h4, h5, H.base, I, x, ⟨a, b, hd, e, h6, hF⟩, hD, hI, hk⟩
theorem Holds.row_nil (H : Holds w0 w F) (a : Option Addr) : Holds w0 w (Row e sz (.slice a 0 0) 0 [] • F) := by
  refine H.add_emp.ent (Ent.left ?_ F)
  rintro I h rfl
  exact ⟨by simp, .inl ⟨a, rfl, rfl, rfl⟩⟩
theorem Holds.row_mk {g o c : Nat} {cur : Array Value} (H : Holds w0 w (blk g (.cells cur e (0, 0)) • F)) (hl : xs.length = n * sz) (hv : v = .slice (some ⟨g, o, none⟩) n c) (hn : n ≤ c) (hc : (c : Int) ≤ 9223372036854775807) (hs : o + c * sz ≤ cur.size)
    (hx : ∀ j, j < n * sz → cur[o + j]? = some (xs.getD j undef)) : Holds w0 w (Row e sz v n xs • F) := by
  refine H.ent (Ent.left ?_ F)
  intro I h hh
  exact ⟨hl, .inr ⟨g, o, c, cur, hv, hn, hc, hs, hx, hh⟩⟩
theorem Holds.row_rd (H : Holds w0 w (Row e sz v n xs • F)) : Rd w sz v n xs := by
  have hl := H.row_len
  rcases H.row_open with ⟨a, rfl, rfl, rfl, H1⟩ | ⟨g, o, c, cur, rfl, h2, h3, h4, h5, H1⟩
  · exact ⟨hl, a, 0, rfl, by omega, by omega, fun h => by omega⟩
  · refine ⟨hl, _, c, rfl, h2, h3, fun _ => ⟨g, o, rfl, fun j hj => cell_of_blk H1.get.2 (h5 j hj)⟩⟩
theorem Rd.cells (h : Rd w sz v n xs) : ∃ a c, v = .slice a n c ∧ n ≤ c ∧ (c : Int) ≤ 9223372036854775807 ∧ (Builtin.firstCells sz n v).run P w = .ok xs.toArray w := by
  obtain ⟨hl, a, c, rfl, h1, h2, h3⟩ := h
  refine ⟨a, c, rfl, h1, h2, ?_⟩
  cases a with
  | none =>
    have : n = 0 := by
      rcases Nat.eq_zero_or_pos n with h | h
      · exact h
      · obtain ⟨b, o, e, _⟩ := h3 h; cases e
    subst this
    have hx : xs = [] := List.eq_nil_of_length_eq_zero (by omega)
    subst hx
    exact run_firstCells_none w sz 0 0 c
  | some a =>
    refine run_firstCells_some w sz n a n c xs hl fun j v hj => ?_
    have hj' : j < xs.length := by
      rcases Nat.lt_or_ge j xs.length with h | h
      · exact h
      · rw [List.getElem?_eq_none h] at hj; cases hj
    have hn : 0 < n := by
      rcases Nat.eq_zero_or_pos n with h | h
      · subst h; omega
      · exact h
    obtain ⟨b, o, e, hc⟩ := h3 hn
    cases e
    rw [add_at, hc j (by omega)]
    simp [List.getD_eq_getElem?_getD, hj]

/-- append, as it runs. -/
theorem run_append_grows {t ty : TypeId} {i : TypeInfo} {z : Value} (ht : P.underlying t = some (.slice e)) (hi : P.info? e = some i) (hz : i.zero = some z) (hs : i.size = sz)
    {x : Value} {m : Nat} {ys : List Value} {a1 : Option Addr} {c1 : Nat} (hv : Rd w sz (.slice a1 n c1) n xs) (hx : Rd w sz x m ys)
    (hg : c1 < n + m) (h63 : ((n + m : Nat) : Int) ≤ 9223372036854775807) (hfit : Builtin.nextslicecap (n + m) c1 * i.bytes ≤ 281474976710656) :
    (Builtin.append_ #[t, t] ty #[.slice a1 n c1, x]).run P w = .ok (.slice (some ⟨w.heap.size, 0, none⟩) (n + m) (grownCap w (n + m) c1 e))
      (w.drew.alloc (.cells (xs.toArray ++ ys.toArray ++ Builtin.zeroCells z.cells (grownCap w (n + m) c1 e - (n + m))) e)) := by
  have hn : ¬ (n + m ≤ c1) := by omega
  have h63' : ¬ (9223372036854775807 < ((n : Int) + (m : Int))) := by omega
  have h48' : ¬ (281474976710656 < Builtin.nextslicecap (n + m) c1 * i.bytes) := by omega
  have hv' : Rd w.drew sz (.slice a1 n c1) n xs := ⟨hv.len, hv.form⟩
  have hx' : Rd w.drew sz x m ys := ⟨hx.len, hx.form⟩
  obtain ⟨_, _, _, _, _, hfo⟩ := hv'.cells (P := P)
  obtain ⟨a2, c2, rfl, _, _, hf⟩ := hx'.cells (P := P)
  subst hs
  simp [Builtin.append_, run_underlying ht, sizeOf, typeInfo, zeroValue, hi, hz, Builtin.lenOf, hn, h63', h48', Question.forced, hf, hfo, newRow, grownCap]
  congr 2
  apply Array.ext'
  simp [List.append_assoc]

theorem grownCap_lt (w : World) (need old : Nat) (e : TypeId) (h : (need : Int) ≤ 9223372036854775807) : (grownCap w need old e : Int) ≤ 9223372036854775807 := by
  have h0 : grownCap w need old e = need + w.tape w.drawn (.appendCap need old e) % (2 ^ 63 - need) := rfl
  have h1 : w.tape w.drawn (.appendCap need old e) % (2 ^ 63 - need) < 2 ^ 63 - need := Nat.mod_lt _ (by omega)
  rw [h0]
  omega

/-- append onto a row of one's own. -/
theorem e_append {L : List (Nat × Value)} {ty t : TypeId} {s x : Operand} {xv : Value} {m bytes : Nat} {ys : List Value} {z : Value} (H : Holds w0 w (Row e sz v n xs • F)) (ht : P.underlying t = some (.slice e))
    (hi : (P.info? e).map (fun i => (i.zero, i.size, i.bytes)) = some (some z, sz, bytes)) (hz : z.cells.size = sz) (hsv : ev L s = some v) (hxv : ev L x = some xv) (hx : Rd w sz xv m ys) (h1 : ∀ u ∈ ys, u.oneCell' = true)
    (h63 : ((n + m : Nat) : Int) ≤ 9223372036854775807) (hb : (n + m) * bytes ≤ 140737488355328) :
    Eff P L (.call ⟨.builtin .append, #[s, x], #[t, t]⟩) ty w fun v' w' => Holds w0 w' (Row e sz v' (n + m) (xs ++ ys) • F) := by
  obtain ⟨i, hi1, hi2⟩ := Option.map_eq_some_iff.1 hi
  simp only [Prod.mk.injEq] at hi2
  obtain ⟨hz1, hs1, hb1⟩ := hi2
  subst hb1
  have hv := H.row_rd
  have hlen : (xs ++ ys).length = (n + m) * sz := by rw [List.length_append, hv.len, hx.len, Nat.add_mul]
  obtain ⟨a1, c1, rfl, hc1, hc2, _⟩ := hv.form
  by_cases hg : c1 < n + m
  · refine e_val (v := .slice (some ⟨w.heap.size, 0, none⟩) (n + m) (grownCap w (n + m) c1 e)) (w' := w.drew.alloc (.cells (xs.toArray ++ ys.toArray ++ Builtin.zeroCells z.cells (grownCap w (n + m) c1 e - (n + m))) e))
      (run_call (vs := [.slice a1 n c1, xv]) (by simp [evl, hsv, hxv]) fun _ => ?_) ?_
    · simp only [builtin, Sem.run_bind]
      rw [run_append_grows ht hi1 hz1 hs1 hv hx hg h63 (growslice_fits hg hb)]
      rfl
    · have hge := grownCap_ge w (n + m) c1 e
      refine (H.right.drew.alloc _).row_mk hlen rfl hge (grownCap_lt w _ _ _ h63) ?_ fun j hj => ?_
      · simp only [Array.size_append, List.size_toArray, size_zeroCells, hz, hv.len, hx.len, ← Nat.add_mul]
        rw [Nat.zero_add, show n + m + (grownCap w (n + m) c1 e - (n + m)) = grownCap w (n + m) c1 e from by omega]
        exact Nat.le_refl _
      · have hj' : j < (xs ++ ys).length := by omega
        have e1 : (xs.toArray ++ ys.toArray : Array Value) = (xs ++ ys).toArray := by simp
        rw [Nat.zero_add, e1, Array.getElem?_append_left (by simpa using hj'), List.getElem?_toArray, List.getD_eq_getElem?_getD, List.getElem?_eq_getElem hj']
        rfl
  · obtain ⟨a2, c2, rfl, _, _, hf⟩ := hx.cells (P := P)
    have hroom : n + m ≤ c1 := by omega
    rcases H.row_open with ⟨a, he, rfl, rfl, H1⟩ | ⟨g, o, c, cur, he, h2, h3, h4, h5, H1⟩
    · cases he
      have hm : m = 0 := by omega
      subst hm
      have hy : ys = [] := List.eq_nil_of_length_eq_zero (by have := hx.len; omega)
      subst hy
      refine e_val (v := .slice a1 0 0) (w' := w) (run_call (vs := [.slice a1 0 0, .slice a2 0 c2]) (by simp [evl, hsv, hxv]) fun _ => ?_) ?_
      · simp only [builtin, Sem.run_bind]
        have : (Builtin.append_ #[t, t] ty #[.slice a1 0 0, .slice a2 0 c2]).run P w = .ok (.slice a1 0 0) w := by
          subst hs1
          cases a1 <;> simp [Builtin.append_, run_underlying ht, sizeOf, typeInfo, hi1, Builtin.lenOf, hf, storeCells]
        rw [this]; rfl
      · simpa using H1.row_nil a1
    · cases he
      have hfit : o + n * sz + ys.length ≤ cur.size := by rw [hx.len, Nat.add_assoc, ← Nat.add_mul]; exact Nat.le_trans (Nat.add_le_add_left (Nat.mul_le_mul_right _ hroom) _) h4
      have hst := run_storeCells_at P g (o + n * sz) e ys 0 cur w H1.get.2 (by simpa using hfit) h1
      simp only [Nat.add_zero] at hst
      refine e_val (v := .slice (some ⟨g, o, none⟩) (n + m) c1) (w' := w.setRow g (cur.toList.take (o + n * sz) ++ ys ++ cur.toList.drop (o + n * sz + ys.length)).toArray) (run_call (vs := [.slice (some ⟨g, o, none⟩) n c1, .slice a2 m c2]) (by simp [evl, hsv, hxv]) fun _ => ?_) ?_
      · simp only [builtin, Sem.run_bind]
        have : (Builtin.append_ #[t, t] ty #[.slice (some ⟨g, o, none⟩) n c1, .slice a2 m c2]).run P w = .ok (.slice (some ⟨g, o, none⟩) (n + m) c1) (w.setRow g (cur.toList.take (o + n * sz) ++ ys ++ cur.toList.drop (o + n * sz + ys.length)).toArray) := by
          subst hs1
          simp [Builtin.append_, run_underlying ht, sizeOf, typeInfo, hi1, Builtin.lenOf, hf, hroom, add_at, hst]
        rw [this]; rfl
      · have H2 : Holds w0 (w.setRow g (cur.toList.take (o + n * sz) ++ ys ++ cur.toList.drop (o + n * sz + ys.length)).toArray) (blk g (.cells (cur.toList.take (o + n * sz) ++ ys ++ cur.toList.drop (o + n * sz + ys.length)).toArray e (0, 0)) • F) :=
          H1.turn rfl rfl rfl (by simp [World.setRow]) (setRow_heap _ _ _ _ _ _ H1.get.2) fun k hk _ => setRow_other _ _ _ _ hk
        have hmin : (cur.toList.take (o + n * sz)).length = o + n * sz := by simp; omega
        refine H2.row_mk hlen rfl hroom hc2 ?_ fun j hj => ?_
        · simp; omega
        · rw [List.getElem?_toArray, List.append_assoc]
          have hl := hv.len
          by_cases hjn : j < n * sz
          · rw [List.getElem?_append_left (by omega), List.getElem?_take, if_pos (by omega)]
            have := h5 j hjn
            rw [Array.getElem?_toList, this, List.getD_eq_getElem?_getD, List.getD_eq_getElem?_getD, List.getElem?_append_left (by omega)]
          · rw [List.getElem?_append_right (by omega), hmin, show o + j - (o + n * sz) = j - xs.length from by omega, List.getElem?_append_left (by have := hx.len; rw [Nat.add_mul] at hj; omega), List.getD_eq_getElem?_getD, List.getElem?_append_right (by omega),
              List.getElem?_eq_getElem (by have := hx.len; rw [Nat.add_mul] at hj; omega)]
            rfl
end
end Go.Proofs.YtgmpclifphbjkaaGreatDoor
end
