import Derived.Test.YtnhhmieghbfalaaGreatDoorZ2
import Derived.Laws.CopyRow
import Derived.Lib.AppendZeros
set_option linter.unusedSimpArgs false
set_option linter.unusedVariables false
/- Texts of mine, joined, their names in short: Short Row Lit. -/
section
namespace Go.Proofs.YtnhhmieghbfalaaGreatDoor
open Go.RowKit
section
variable {P : Program} {N : Sh} {Q : Exit → Act → World → Prop} {L : List (Nat × Value)} {w w' : World} {ops : Array Oper} {rest : List Oper} {op : Op} {ty : TypeId} {pos : String} {xw : Array Edge} {d : Nat} {v : Value}
theorem aT (hr : Val P L op ty w v w') (h : WL P N ops Q rest ((d, v) :: L) w') (hd : d < N.n := by exact iO rfl) : WL P N ops Q (⟨some d, op, ty, pos, xw, none⟩ :: rest) L w := FV hr hd h
theorem cO {x : Operand} (hx : ev L x = some v) (h : WL P N ops Q rest ((d, v) :: L) w) (hd : d < N.n := by exact iO rfl) : WL P N ops Q (⟨some d, .move x, ty, pos, xw, none⟩ :: rest) L w := FV (oh hx) hd h
theorem lg {x : Operand} (hx : ev L x = some v) (h : WL P N ops Q rest ((d, v) :: L) w) (hd : d < N.n := by exact iO rfl) : WL P N ops Q (⟨some d, .assign x, ty, pos, xw, none⟩ :: rest) L w := FV (eH hx) hd h
theorem dM {x : Operand} {a : Addr} (hx : ev L x = some (.pointer (some a))) (h : WL P N ops Q rest ((d, .pointer (some a)) :: L) w) (hd : d < N.n := by exact iO rfl) : WL P N ops Q (⟨some d, .nilCheck x, ty, pos, xw, none⟩ :: rest) L w := FV (XL hx) hd h
theorem mQ {c a b : Operand} (hc : ev L c = some (.bool true)) (ha : ev L a = some v) (h : WL P N ops Q rest ((d, v) :: L) w) (hd : d < N.n := by exact iO rfl) : WL P N ops Q (⟨some d, .pick c a b, ty, pos, xw, none⟩ :: rest) L w := FV (oP hc ha) hd h
theorem kP {c a b : Operand} (hc : ev L c = some (.bool false)) (hb : ev L b = some v) (h : WL P N ops Q rest ((d, v) :: L) w) (hd : d < N.n := by exact iO rfl) : WL P N ops Q (⟨some d, .pick c a b, ty, pos, xw, none⟩ :: rest) L w := FV (y5 hc hb) hd h
theorem xY {x : Operand} {i : Nat} {vs : Array Value} (hx : ev L x = some (.tuple vs)) (hi : vs[i]? = some v) (h : WL P N ops Q rest ((d, v) :: L) w) (hd : d < N.n := by exact iO rfl) : WL P N ops Q (⟨some d, .extract x i, ty, pos, xw, none⟩ :: rest) L w := FV (Oc hx hi) hd h
theorem xrF {t : TypeId} {fs : Array Field} {f : Field} {i b o : Nat} {x : Operand} (off : Nat) (ht : P.underlying t = some (.struct fs)) (hf : fs[i]? = some f) {n : Nat} (hs : ∀ w, (sizeOf f.type).run P w = .ok n w)
    (hx : ev L x = some (.pointer (some ⟨b, o, none⟩))) (ho : f.offset = off := by exact rfl) (hn : n ≠ 0 := by decide) : Val P L (.fieldAddr t x i) ty w (.pointer (some ⟨b, o + off, none⟩)) w := xH off ht hf ho hs hn hx rfl
theorem bg {t : TypeId} {fs : Array Field} {f : Field} {i b o : Nat} {x : Operand} (off : Nat) (ht : P.underlying t = some (.struct fs)) (hf : fs[i]? = some f) {n : Nat} (hs : ∀ w, (sizeOf f.type).run P w = .ok n w)
    (hx : ev L x = some (.pointer (some ⟨b, o, none⟩))) (h : WL P N ops Q rest ((d, .pointer (some ⟨b, o + off, none⟩)) :: L) w) (ho : f.offset = off := by exact rfl) (hn : n ≠ 0 := by decide) (hd : d < N.n := by exact iO rfl) :
    WL P N ops Q (⟨some d, .fieldAddr t x i, ty, pos, xw, none⟩ :: rest) L w := FV (xrF off ht hf hs hx ho hn) hd h
theorem jk {t tc : TypeId} {D : TypeDesc} {b o : Nat} {cs : Array Value} {fr : Nat × Nat} {x : Operand} (hu : P.underlying t = some D) (hx : ev L x = some (.pointer (some ⟨b, o, none⟩))) (hb : w.heap[b]? = some (.cells cs tc fr)) (hc : cs[o]? = some v)
    (hd : (match D with | .struct _ => false | .array _ _ => false | _ => true) = true := by exact rfl) : Val P L (.load t x) ty w v w := fB (dG hu hd) hx (iP hb hc)
theorem dQ {t tc : TypeId} {D : TypeDesc} {b o : Nat} {cs : Array Value} {fr : Nat × Nat} {x : Operand} (hu : P.underlying t = some D) (hx : ev L x = some (.pointer (some ⟨b, o, none⟩))) (hb : w.heap[b]? = some (.cells cs tc fr)) (hc : cs[o]? = some v)
    (h : WL P N ops Q rest ((d, v) :: L) w) (hD : (match D with | .struct _ => false | .array _ _ => false | _ => true) = true := by exact rfl) (hd : d < N.n := by exact iO rfl) : WL P N ops Q (⟨some d, .load t x, ty, pos, xw, none⟩ :: rest) L w := FV (jk hu hx hb hc hD) hd h
theorem dB {j t : Nat} {want b : Bool} (h : WL P N ops Q rest ((d, undef) :: L) w) (hj : (ops[j]?).bind (·.dst) = some t := by exact rfl) (hl : look L t = some (.bool b) := by exact rfl) (hb : (b == want) = false := by exact rfl) (hd : d < N.n := by exact iO rfl) :
    WL P N ops Q (⟨some d, op, ty, pos, xw, some (j, want)⟩ :: rest) L w := aiV hj hl hb hd h
theorem bJ {j t : Nat} {want : Bool} {o : Option Nat} (h : WL P N ops Q (⟨o, op, ty, pos, xw, none⟩ :: rest) L w) (hj : (ops[j]?).bind (·.dst) = some t := by exact rfl) (hl : look L t = some (.bool want) := by exact rfl) :
    WL P N ops Q (⟨o, op, ty, pos, xw, some (j, want)⟩ :: rest) L w := ahn hj hl h
theorem yX {j t : Nat} {want : Bool} (h : WL P N ops Q rest ((d, undef) :: L) w) (hj : (ops[j]?).bind (·.dst) = some t := by exact rfl) (hl : look L t = some undef := by exact rfl) (hd : d < N.n := by exact iO rfl) :
    WL P N ops Q (⟨some d, op, ty, pos, xw, some (j, want)⟩ :: rest) L w := aho hj hl hd h
theorem jT {T : Value → World → Prop} (he : Dj P L op ty w T) (h : ∀ v w', T v w' → WL P N ops Q rest ((d, v) :: L) w') (hd : d < N.n := by exact iO rfl) : WL P N ops Q (⟨some d, op, ty, pos, xw, none⟩ :: rest) L w := ZR he hd h
theorem fH {T : Value → World → Prop} {f : FuncId} {args : List Operand} {ts : Array TypeId} {vs : List Value} {fn : Func} {c : Code} (ha : MG L args = some vs) (hf : P.funcs[f]? = some fn) (hc : iK P f vs.toArray w T)
    (h : ∀ v w', T v w' → WL P N ops Q rest ((d, v) :: L) w') (hn : (fn.name == "runtime.NumGoroutine") = false := by exact rfl) (hb : fn.body = some c := by exact rfl) (hd : d < N.n := by exact iO rfl) :
    WL P N ops Q (⟨some d, .call ⟨.value (.func f), args.toArray, ts⟩, ty, pos, xw, none⟩ :: rest) L w := ZR (nM (nX ha hf hn hb) hc) hd h
theorem qW {T : Value → World → Prop} {f : FuncId} {args : List Operand} {ts : Array TypeId} {vs : List Value} {fn : Func} {c : Code} (ha : MG L args = some vs) (hf : P.funcs[f]? = some fn) (hc : iK P f vs.toArray w T)
    (hn : (fn.name == "runtime.NumGoroutine") = false := by exact rfl) (hb : fn.body = some c := by exact rfl) : Dj P L (.call ⟨.value (.func f), args.toArray, ts⟩) ty w T := nM (nX ha hf hn hb) hc
theorem nS {x : Operand} {b : Bool} (hx : ev L x = some (.bool b)) (ht : b = true → WL P N ops Q rest ((d, .bool true) :: L) w) (hf : b = false → WL P N ops Q rest ((d, .bool false) :: L) w) (hd : d < N.n := by exact iO rfl) :
    WL P N ops Q (⟨some d, .move x, ty, pos, xw, none⟩ :: rest) L w := adr hx hd ht hf
theorem xqR {f n : Nat} {fn : Func} {c : Code} {args : List Value} {S : Value → World → Prop} (hf : P.funcs[f]? = some fn) (hN : fn.ntmps = n) (h : WC P (Sh.of n) c (sU P fn S) (Jq 0 args) w)
    (hb : fn.body = some c := by exact rfl) (hl : args.length ≤ n := by exact Nat.le_of_ble_eq_true rfl) : iK P f args.toArray w S := ab8 hf hb hN hl h
end
section
variable {P : Program} {N : Sh} {ops : Array Oper} {Q : Exit → Act → World → Prop} {qs : List Nat} {S : World → Prop} {fuel : Nat} {listed : Array Bool} {L : List (Nat × Value)} {w w' : World} {op : Op} {ty : TypeId} {pos : String} {xw : Array Edge} {d : Nat} {v : Value}
theorem tH {id n : Nat} (qs : List Nat) {w0 : World} {A : HP} (hS : Kp w0 A w.drew) (hn : ops.size = n) (h : WD P N ops Q qs (Kp w0 A) n (Array.replicate n false) L w.drew) (hm : P.follows .mixedOrders = true := by kernel_rfl) (hs : Region.noSelect ops = true := by kernel_rfl)
    (hd : N.ro = none ∨ vS ops.toList = true := by first | exact .inl rfl | exact .inr rfl) : WC P N (.region id ops true) Q L w := acd qs hS hm hs hn h hd
theorem iD (i : Nat) (hi : ops[i]? = some ⟨some d, op, ty, pos, xw, none⟩) (hS : S w) (hv : ∀ w', S w' → Val P L op ty w' v w') (h : WD P N ops Q qs S fuel (listed.setIfInBounds i true) ((d, v) :: L) w)
    (hf : Region.free .any ops listed i = true := by kernel_rfl) (hr : (Region.ready .any ops listed).contains i = true := by kernel_rfl) (hq : qs.contains i = true := by decide) (hd : d < N.n := by exact iO rfl) : WD P N ops Q qs S (fuel + 1) listed L w := afS i hi hf hr hS hq hv hd h
theorem iE (i : Nat) (hi : ops[i]? = some ⟨some d, op, ty, pos, xw, none⟩) (hS : S w) (hv : ∀ w', Val P L op ty w' v w') (h : WD P N ops Q qs S fuel (listed.setIfInBounds i true) ((d, v) :: L) w)
    (hf : Region.free .any ops listed i = true := by kernel_rfl) (hr : (Region.ready .any ops listed).contains i = true := by kernel_rfl) (hd : d < N.n := by exact iO rfl) : WD P N ops Q qs S (fuel + 1) listed L w := Js i hi hf hr hS hv hd h
theorem fM (i : Nat) {x : Operand} (hi : ops[i]? = some ⟨some d, .move x, ty, pos, xw, none⟩) (hS : S w) (hx : ev L x = some v) (h : WD P N ops Q qs S fuel (listed.setIfInBounds i true) ((d, v) :: L) w)
    (hf : Region.free .any ops listed i = true := by kernel_rfl) (hr : (Region.ready .any ops listed).contains i = true := by kernel_rfl) (hd : d < N.n := by exact iO rfl) : WD P N ops Q qs S (fuel + 1) listed L w := Js i hi hf hr hS (fun _ => oh hx) hd h
theorem jF (i : Nat) {x : Operand} {a : Addr} (hi : ops[i]? = some ⟨some d, .nilCheck x, ty, pos, xw, none⟩) (hS : S w) (hx : ev L x = some (.pointer (some a))) (h : WD P N ops Q qs S fuel (listed.setIfInBounds i true) ((d, .pointer (some a)) :: L) w)
    (hf : Region.free .any ops listed i = true := by kernel_rfl) (hr : (Region.ready .any ops listed).contains i = true := by kernel_rfl) (hd : d < N.n := by exact iO rfl) : WD P N ops Q qs S (fuel + 1) listed L w := Js i hi hf hr hS (fun _ => XL hx) hd h
theorem eP (i : Nat) {x : Operand} {t : TypeId} {fs : Array Field} {f : Field} {k b o : Nat} (hi : ops[i]? = some ⟨some d, .fieldAddr t x k, ty, pos, xw, none⟩) (hS : S w) (off : Nat) (ht : P.underlying t = some (.struct fs)) (hfs : fs[k]? = some f) {n : Nat}
    (hs : ∀ w, (sizeOf f.type).run P w = .ok n w) (hx : ev L x = some (.pointer (some ⟨b, o, none⟩))) (h : WD P N ops Q qs S fuel (listed.setIfInBounds i true) ((d, .pointer (some ⟨b, o + off, none⟩)) :: L) w)
    (ho : f.offset = off := by exact rfl) (hn : n ≠ 0 := by decide) (hf : Region.free .any ops listed i = true := by kernel_rfl) (hr : (Region.ready .any ops listed).contains i = true := by kernel_rfl) (hd : d < N.n := by exact iO rfl) : WD P N ops Q qs S (fuel + 1) listed L w :=
  Js i hi hf hr hS (fun _ => xrF off ht hfs hs hx ho hn) hd h
theorem lC (i : Nat) {T : Value → World → Prop} (hi : ops[i]? = some ⟨some d, op, ty, pos, xw, none⟩) (he : Dj P L op ty w T)
    (h : ∀ v w', T v w' → ∃ S' : World → Prop, ((∀ W, S' W → S W) ∨ y8 ops qs i = true) ∧ S' w' ∧ WD P N ops Q qs S' fuel (listed.setIfInBounds i true) ((d, v) :: L) w') (hr : Region.ready .any ops listed = [i] := by kernel_rfl) (hd : d < N.n := by exact iO rfl) :
    WD P N ops Q qs S (fuel + 1) listed L w := ahr i hi hr he hd h
theorem oH (h : WQ N Q .normal L w) (hr : Region.ready .any ops listed = [] := by kernel_rfl) : WD P N ops Q qs S fuel listed L w := afR hr h
end
section
variable {P : Program} {N : Sh} {Q : Exit → Act → World → Prop} {L : List (Nat × Value)} {w : World}
theorem DZ {x : Operand} {c e : Code} (h : WC P N c Q L w) (hx : ev L x = some (.bool true) := by exact rfl) : WC P N (.cond x c e) Q L w := ab9 hx h
theorem yh {x : Operand} {c e : Code} (h : WC P N e Q L w) (hx : ev L x = some (.bool false) := by exact rfl) : WC P N (.cond x c e) Q L w := aca hx h
theorem xc2 {x : Operand} {b : Bool} {c e : Code} (hx : ev L x = some (.bool b)) (ht : b = true → WC P N c Q L w) (hf : b = false → WC P N e Q L w) : WC P N (.cond x c e) Q L w := dw hx ht hf
end
def Row (e : TypeId) (sz : Nat) (v : Value) (n : Nat) (xs : List Value) : HP where
  p := fun _ h => xs.length = n * sz ∧ ((∃ a, v = .slice a 0 0 ∧ n = 0 ∧ h = Hp.none) ∨
    ∃ g o c cur, v = .slice (some ⟨g, o, none⟩) n c ∧ n ≤ c ∧ (c : Int) ≤ 9223372036854775807 ∧ o + c * sz ≤ cur.size ∧ (∀ j, j < n * sz → cur[o + j]? = some (xs.getD j undef)) ∧ h = fun k => if k = g then some (.cells cur e (0, 0)) else none)
  mono := fun _ _ _ _ h => h
section
variable {P : Program} {w0 w : World} {A F : HP} {e : TypeId} {sz n : Nat} {v : Value} {xs : List Value}
theorem V.Ea (H : V w0 w (Row e sz v n xs • F)) : xs.length = n * sz := by
  obtain ⟨I, x, ⟨a, b, _, _, h, _⟩, _⟩ := H.hp
  exact h.1
theorem V.Bg (H : V w0 w (Row e sz v n xs • F)) : (∃ a, v = .slice a 0 0 ∧ n = 0 ∧ xs = [] ∧ V w0 w F) ∨
    ∃ g o c cur, v = .slice (some ⟨g, o, none⟩) n c ∧ n ≤ c ∧ (c : Int) ≤ 9223372036854775807 ∧ o + c * sz ≤ cur.size ∧ (∀ j, j < n * sz → cur[o + j]? = some (xs.getD j undef)) ∧ V w0 w (gU g (.cells cur e (0, 0)) • F) := by
  have hl := H.Ea
  obtain ⟨I, x, ⟨a, b, hd, e, ⟨_, h⟩, hF⟩, hD, hI, hk⟩ := H.hp
  rcases h with ⟨ad, h1, h2, h3⟩ | ⟨g, o, c, cur, h1, h2, h3, h4, h5, h6⟩
  · subst h2 h3
    refine .inl ⟨ad, h1, rfl, List.eq_nil_of_length_eq_zero (by omega), H.base, I, x, ?_, hD, hI, hk⟩
    rw [e, Hp.Ce]; exact hF
  · exact .inr ⟨g, o, c, cur, h1, h2, h3, h4, h5, H.base, I, x, ⟨a, b, hd, e, h6, hF⟩, hD, hI, hk⟩
theorem V.iV (H : V w0 w F) (a : Option Addr) : V w0 w (Row e sz (.slice a 0 0) 0 [] • F) := by
  refine H.VL.I5 (VK.left ?_ F)
  rintro I h rfl
  exact ⟨by simp, .inl ⟨a, rfl, rfl, rfl⟩⟩
theorem V.Ia {g o c : Nat} {cur : Array Value} (H : V w0 w (gU g (.cells cur e (0, 0)) • F)) (hl : xs.length = n * sz) (hv : v = .slice (some ⟨g, o, none⟩) n c) (hn : n ≤ c) (hc : (c : Int) ≤ 9223372036854775807) (hs : o + c * sz ≤ cur.size)
    (hx : ∀ j, j < n * sz → cur[o + j]? = some (xs.getD j undef)) : V w0 w (Row e sz v n xs • F) := by
  refine H.I5 (VK.left ?_ F)
  intro I h hh
  exact ⟨hl, .inr ⟨g, o, c, cur, hv, hn, hc, hs, hx, hh⟩⟩
theorem V.aJ (H : V w0 w (Row e sz v n xs • F)) : Rd w sz v n xs := by
  have hl := H.Ea
  rcases H.Bg with ⟨a, rfl, rfl, rfl, H1⟩ | ⟨g, o, c, cur, rfl, h2, h3, h4, h5, H1⟩
  · exact ⟨hl, a, 0, rfl, by omega, by omega, fun h => by omega⟩
  · refine ⟨hl, _, c, rfl, h2, h3, fun _ => ⟨g, o, rfl, fun j hj => iP H1.get.2 (h5 j hj)⟩⟩
theorem Rd.cells (h : Rd w sz v n xs) : ∃ a c, v = .slice a n c ∧ n ≤ c ∧ (c : Int) ≤ 9223372036854775807 ∧ (Builtin.firstCells sz n v).run P w = .ok xs.toArray w := by
  obtain ⟨hl, a, c, rfl, h1, h2, h3⟩ := h
  refine ⟨a, c, rfl, h1, h2, ?_⟩
  cases a with
  | none =>
    have : n = 0 := by
      rcases Nat.eq_zero_or_pos n with h | h
      · exact h
      · obtain ⟨b, o, e, _⟩ := h3 h; cases e
    subst this
    have hx : xs = [] := List.eq_nil_of_length_eq_zero (by omega)
    subst hx
    exact run_firstCells_none w sz 0 0 c
  | some a =>
    refine run_firstCells_some w sz n a n c xs hl fun j v hj => ?_
    have hj' : j < xs.length := by
      rcases Nat.lt_or_ge j xs.length with h | h
      · exact h
      · rw [List.getElem?_eq_none h] at hj; cases hj
    have hn : 0 < n := by
      rcases Nat.eq_zero_or_pos n with h | h
      · subst h; omega
      · exact h
    obtain ⟨b, o, e, hc⟩ := h3 hn
    cases e
    rw [Ci, hc j (by omega)]
    simp [List.getD_eq_getElem?_getD, hj]
theorem Oh {t ty : TypeId} {i : TypeInfo} {z : Value} (ht : P.underlying t = some (.slice e)) (hi : P.info? e = some i) (hz : i.zero = some z) (hs : i.size = sz)
    {x : Value} {m : Nat} {ys : List Value} {a1 : Option Addr} {c1 : Nat} (hv : Rd w sz (.slice a1 n c1) n xs) (hx : Rd w sz x m ys)
    (hg : c1 < n + m) (h63 : ((n + m : Nat) : Int) ≤ 9223372036854775807) (hfit : Builtin.nextslicecap (n + m) c1 * i.bytes ≤ 281474976710656) :
    (Builtin.append_ #[t, t] ty #[.slice a1 n c1, x]).run P w = .ok (.slice (some ⟨w.heap.size, 0, none⟩) (n + m) (grownCap w (n + m) c1 e))
      (w.drew.alloc (.cells (xs.toArray ++ ys.toArray ++ Builtin.zeroCells z.cells (grownCap w (n + m) c1 e - (n + m))) e)) := by
  have hn : ¬ (n + m ≤ c1) := by omega
  have h63' : ¬ (9223372036854775807 < ((n : Int) + (m : Int))) := by omega
  have h48' : ¬ (281474976710656 < Builtin.nextslicecap (n + m) c1 * i.bytes) := by omega
  have hv' : Rd w.drew sz (.slice a1 n c1) n xs := ⟨hv.len, hv.form⟩
  have hx' : Rd w.drew sz x m ys := ⟨hx.len, hx.form⟩
  obtain ⟨_, _, _, _, _, hfo⟩ := hv'.cells (P := P)
  obtain ⟨a2, c2, rfl, _, _, hf⟩ := hx'.cells (P := P)
  subst hs
  simp [Builtin.append_, run_underlying ht, sizeOf, typeInfo, zeroValue, hi, hz, Builtin.lenOf, hn, h63', h48', Question.forced, hf, hfo, newRow, grownCap]
  congr 2
  apply Array.ext'
  simp [List.append_assoc]
theorem Jt (w : World) (need old : Nat) (e : TypeId) (h : (need : Int) ≤ 9223372036854775807) : (grownCap w need old e : Int) ≤ 9223372036854775807 := by
  have h0 : grownCap w need old e = need + w.tape w.drawn (.appendCap need old e) % (2 ^ 63 - need) := rfl
  have h1 : w.tape w.drawn (.appendCap need old e) % (2 ^ 63 - need) < 2 ^ 63 - need := Nat.mod_lt _ (by omega)
  rw [h0]
  omega
theorem gK {L : List (Nat × Value)} {ty t : TypeId} {s x : Operand} {xv : Value} {m bytes : Nat} {ys : List Value} {z : Value} (H : V w0 w (Row e sz v n xs • F)) (ht : P.underlying t = some (.slice e))
    (hi : (P.info? e).map (fun i => (i.zero, i.size, i.bytes)) = some (some z, sz, bytes)) (hz : z.cells.size = sz) (hsv : ev L s = some v) (hxv : ev L x = some xv) (hx : Rd w sz xv m ys) (h1 : ∀ u ∈ ys, u.oneCell' = true)
    (h63 : ((n + m : Nat) : Int) ≤ 9223372036854775807) (hb : (n + m) * bytes ≤ 140737488355328) :
    Dj P L (.call ⟨.builtin .append, #[s, x], #[t, t]⟩) ty w fun v' w' => V w0 w' (Row e sz v' (n + m) (xs ++ ys) • F) := by
  obtain ⟨i, hi1, hi2⟩ := Option.map_eq_some_iff.1 hi
  simp only [Prod.mk.injEq] at hi2
  obtain ⟨hz1, hs1, hb1⟩ := hi2
  subst hb1
  have hv := H.aJ
  have hlen : (xs ++ ys).length = (n + m) * sz := by rw [List.length_append, hv.len, hx.len, Nat.add_mul]
  obtain ⟨a1, c1, rfl, hc1, hc2, _⟩ := hv.form
  by_cases hg : c1 < n + m
  · refine BP (v := .slice (some ⟨w.heap.size, 0, none⟩) (n + m) (grownCap w (n + m) c1 e)) (w' := w.drew.alloc (.cells (xs.toArray ++ ys.toArray ++ Builtin.zeroCells z.cells (grownCap w (n + m) c1 e - (n + m))) e))
      (y7 (vs := [.slice a1 n c1, xv]) (by simp [MG, hsv, hxv]) fun _ => ?_) ?_
    · simp only [builtin, Sem.run_bind]
      rw [Oh ht hi1 hz1 hs1 hv hx hg h63 (growslice_fits hg hb)]
      rfl
    · have hge := grownCap_ge w (n + m) c1 e
      refine (H.right.drew.alloc _).Ia hlen rfl hge (Jt w _ _ _ h63) ?_ fun j hj => ?_
      · simp only [Array.size_append, List.size_toArray, size_zeroCells, hz, hv.len, hx.len, ← Nat.add_mul]
        rw [Nat.zero_add, show n + m + (grownCap w (n + m) c1 e - (n + m)) = grownCap w (n + m) c1 e from by omega]
        exact Nat.le_refl _
      · have hj' : j < (xs ++ ys).length := by omega
        have e1 : (xs.toArray ++ ys.toArray : Array Value) = (xs ++ ys).toArray := by simp
        rw [Nat.zero_add, e1, Array.getElem?_append_left (by simpa using hj'), List.getElem?_toArray, List.getD_eq_getElem?_getD, List.getElem?_eq_getElem hj']
        rfl
  · obtain ⟨a2, c2, rfl, _, _, hf⟩ := hx.cells (P := P)
    have hroom : n + m ≤ c1 := by omega
    rcases H.Bg with ⟨a, he, rfl, rfl, H1⟩ | ⟨g, o, c, cur, he, h2, h3, h4, h5, H1⟩
    · cases he
      have hm : m = 0 := by omega
      subst hm
      have hy : ys = [] := List.eq_nil_of_length_eq_zero (by have := hx.len; omega)
      subst hy
      refine BP (v := .slice a1 0 0) (w' := w) (y7 (vs := [.slice a1 0 0, .slice a2 0 c2]) (by simp [MG, hsv, hxv]) fun _ => ?_) ?_
      · simp only [builtin, Sem.run_bind]
        have : (Builtin.append_ #[t, t] ty #[.slice a1 0 0, .slice a2 0 c2]).run P w = .ok (.slice a1 0 0) w := by
          subst hs1
          cases a1 <;> simp [Builtin.append_, run_underlying ht, sizeOf, typeInfo, hi1, Builtin.lenOf, hf, storeCells]
        rw [this]; rfl
      · simpa using H1.iV a1
    · cases he
      have hfit : o + n * sz + ys.length ≤ cur.size := by rw [hx.len, Nat.add_assoc, ← Nat.add_mul]; exact Nat.le_trans (Nat.add_le_add_left (Nat.mul_le_mul_right _ hroom) _) h4
      have hst := run_storeCells_at P g (o + n * sz) e ys 0 cur w H1.get.2 (by simpa using hfit) h1
      simp only [Nat.add_zero] at hst
      refine BP (v := .slice (some ⟨g, o, none⟩) (n + m) c1) (w' := w.setRow g (cur.toList.take (o + n * sz) ++ ys ++ cur.toList.drop (o + n * sz + ys.length)).toArray) (y7 (vs := [.slice (some ⟨g, o, none⟩) n c1, .slice a2 m c2]) (by simp [MG, hsv, hxv]) fun _ => ?_) ?_
      · simp only [builtin, Sem.run_bind]
        have : (Builtin.append_ #[t, t] ty #[.slice (some ⟨g, o, none⟩) n c1, .slice a2 m c2]).run P w = .ok (.slice (some ⟨g, o, none⟩) (n + m) c1) (w.setRow g (cur.toList.take (o + n * sz) ++ ys ++ cur.toList.drop (o + n * sz + ys.length)).toArray) := by
          subst hs1
          simp [Builtin.append_, run_underlying ht, sizeOf, typeInfo, hi1, Builtin.lenOf, hf, hroom, Ci, hst]
        rw [this]; rfl
      · have H2 : V w0 (w.setRow g (cur.toList.take (o + n * sz) ++ ys ++ cur.toList.drop (o + n * sz + ys.length)).toArray) (gU g (.cells (cur.toList.take (o + n * sz) ++ ys ++ cur.toList.drop (o + n * sz + ys.length)).toArray e (0, 0)) • F) :=
          H1.turn rfl rfl rfl (by simp [World.setRow]) (setRow_heap _ _ _ _ _ _ H1.get.2) fun k hk _ => setRow_other _ _ _ _ hk
        have hmin : (cur.toList.take (o + n * sz)).length = o + n * sz := by simp; omega
        refine H2.Ia hlen rfl hroom hc2 ?_ fun j hj => ?_
        · simp; omega
        · rw [List.getElem?_toArray, List.append_assoc]
          have hl := hv.len
          by_cases hjn : j < n * sz
          · rw [List.getElem?_append_left (by omega), List.getElem?_take, if_pos (by omega)]
            have := h5 j hjn
            rw [Array.getElem?_toList, this, List.getD_eq_getElem?_getD, List.getD_eq_getElem?_getD, List.getElem?_append_left (by omega)]
          · rw [List.getElem?_append_right (by omega), hmin, show o + j - (o + n * sz) = j - xs.length from by omega, List.getElem?_append_left (by have := hx.len; rw [Nat.add_mul] at hj; omega), List.getD_eq_getElem?_getD, List.getElem?_append_right (by omega),
              List.getElem?_eq_getElem (by have := hx.len; rw [Nat.add_mul] at hj; omega)]
            rfl
end
def Ht (w0 : World) (F : HP) (sz : Nat) (v : Value) (n : Nat) (xs : List Value) : Prop := ∀ W, V w0 W F → Rd W sz v n xs
def jZ (w0 : World) (F : HP) (k : IntKind) (v : Value) (l : List Int) : Prop := ∀ W, V w0 W F → mP W k v l
abbrev kF (e : TypeId) (k : IntKind) (v : Value) (l : List Int) : HP := Row e 1 v l.length (l.map (Value.int k))
theorem jZ.EK {w0 : World} {k : IntKind} {v : Value} {l : List Int} (h : mP w0 k v l) (F : HP) : jZ w0 F k v l := fun W H => V.rd H h
theorem Ht.EK {w0 : World} {sz : Nat} {v : Value} {n : Nat} {xs : List Value} (h : Rd w0 sz v n xs) (F : HP) : Ht w0 F sz v n xs := fun W H => V.rd H h
theorem jZ.under {w0 : World} {F A : HP} {k : IntKind} {v : Value} {l : List Int} (h : jZ w0 F k v l) : jZ w0 (A • F) k v l := fun W H => h W H.right
theorem Ht.under {w0 : World} {F A : HP} {sz : Nat} {v : Value} {n : Nat} {xs : List Value} (h : Ht w0 F sz v n xs) : Ht w0 (A • F) sz v n xs := fun W H => h W H.right
theorem QU (k : IntKind) (l : List Int) : ∀ u ∈ l.map (Value.int k), u.oneCell' = true := by
  intro u hu; obtain ⟨x, _, rfl⟩ := List.mem_map.1 hu; rfl
theorem mP.nil (w : World) (k : IntKind) (a : Option Addr) (c : Nat) (hc : (c : Int) ≤ 9223372036854775807) : mP w k (.slice a 0 c) [] := ⟨by simp, a, c, rfl, by simp, hc, fun h => by simp at h⟩
theorem Rd.ZX {w : World} {sz : Nat} {v : Value} {n : Nat} {xs : List Value} (h : Rd w sz v n xs) : ∃ a c, v = .slice a n c := let ⟨a, c, e, _⟩ := h.form; ⟨a, c, e⟩
theorem Rd.one {w : World} {sz : Nat} {v : Value} {n : Nat} {xs : List Value} (h : Rd w sz v n xs) : v.oneCell' = true := by obtain ⟨a, c, rfl⟩ := h.ZX; rfl
theorem Ht.cell {w0 W : World} {F : HP} {sz n c : Nat} {a : Option Addr} {xs : List Value} (h : Ht w0 F sz (.slice a n c) n xs) (H : V w0 W F) {j : Nat} (hj : j < n * sz) : ∃ b o, a = some ⟨b, o, none⟩ ∧ W.cell? ⟨b, o + j, none⟩ = some (xs.getD j undef) := by
  obtain ⟨_, a', c', e, _, _, hc⟩ := h W H
  cases e
  obtain ⟨b, o, e, hc⟩ := hc (by rcases Nat.eq_zero_or_pos n with h | h; (subst h; omega); exact h)
  exact ⟨b, o, e, hc j hj⟩
theorem jZ.cell {w0 W : World} {F : HP} {k : IntKind} {n c : Nat} {a : Option Addr} {l : List Int} (h : jZ w0 F k (.slice a n c) l) (H : V w0 W F) {j : Nat} (hj : j < l.length) : ∃ b o, a = some ⟨b, o, none⟩ ∧ W.cell? ⟨b, o + j, none⟩ = some (.int k (l.getD j 0)) := by
  obtain ⟨a', c', e, _, _, hc⟩ := (h W H).open
  cases e
  obtain ⟨b, o, e, hc⟩ := hc (by omega)
  exact ⟨b, o, e, hc j hj⟩
theorem mP.cell {W : World} {k : IntKind} {n c : Nat} {a : Option Addr} {l : List Int} (h : mP W k (.slice a n c) l) {j : Nat} (hj : j < l.length) : ∃ b o, a = some ⟨b, o, none⟩ ∧ W.cell? ⟨b, o + j, none⟩ = some (.int k (l.getD j 0)) := by
  obtain ⟨a', c', e, _, _, hc⟩ := h.open
  cases e
  obtain ⟨b, o, e, hc⟩ := hc (by omega)
  exact ⟨b, o, e, hc j hj⟩
theorem Ko {α : Type} (ls : List (List α)) {k : Nat} (h : k < ls.length) : (ls.take (k + 1)).flatten = (ls.take k).flatten ++ ls.getD k [] := by
  rw [List.take_succ_eq_append_getElem h, List.flatten_append]
  simp [List.getD_eq_getElem?_getD, h]
theorem VO {α : Type} (ls : List (List α)) (k : Nat) : (ls.take k).flatten.length ≤ ls.flatten.length := by
  conv => rhs; rw [← List.take_append_drop k ls, List.flatten_append, List.length_append]
  omega
def evp (L : List (Nat × Value)) : List (Nat × Operand) → Option (List (Nat × Value))
  | [] => some []
  | (i, x) :: r => match ev L x with
    | some v => match evp L r with
      | some vs => some ((i, v) :: vs)
      | none => none
    | none => none
theorem VP {L : List (Nat × Value)} {ρ : Operand → Value} (hρ : ∀ x u, ev L x = some u → ρ x = u) : ∀ (ps : List (Nat × Operand)) (vs : List (Nat × Value)), evp L ps = some vs → ps.map (fun p => (p.1, ρ p.2)) = vs
  | [], vs, h => by simp [evp] at h; simp [h]
  | (i, x) :: r, vs, h => by
    simp only [evp] at h
    cases h1 : ev L x with
    | none => simp [h1] at h
    | some v =>
      cases h2 : evp L r with
      | none => simp [h1, h2] at h
      | some us =>
        simp [h1, h2] at h
        subst h
        simp [hρ _ _ h1, VP hρ r us h2]
def placed : Nat → List Value → List (Nat × Value)
  | _, [] => []
  | i, v :: r => (i, v) :: placed (i + 1) r
theorem Oi {v : Value} (h : v.oneCell' = true) : v.cells = #[v] := by cases v <;> simp_all [Value.cells, Value.oneCell']
theorem ace (vs : List Value) : ∀ (i : Nat) (cells : Array Value), (∀ v ∈ vs, v.oneCell' = true) → cells.size = i + vs.length →
    Instr.fill (fun i => some (i, 1)) cells (placed i vs) = some (cells.toList.take i ++ vs).toArray := by
  induction vs with
  | nil => intro i cells _ hs; simp [placed, Instr.fill, List.take_of_length_le (show cells.toList.length ≤ i by simp; simp at hs; omega)]
  | cons v r ih =>
    intro i cells h1 hs
    simp only [placed, Instr.fill]
    have hc := Oi (h1 v (by simp))
    simp only [hc, List.size_toArray, List.length_cons, List.length_nil, Nat.zero_add, ne_eq, not_true_eq_false, decide_false, Bool.false_or]
    rw [if_neg (by simp at hs ⊢; omega)]
    have : (#[v] : Array Value).zipIdx.foldl (fun cs (x : Value × Nat) => cs.setIfInBounds (i + x.2) x.1) cells = cells.setIfInBounds i v := by simp
    rw [this, ih (i + 1) _ (fun u hu => h1 u (by simp [hu])) (by simp at hs ⊢; omega)]
    congr 2
    have hi : i < cells.toList.length := by simp at hs ⊢; omega
    rw [Array.toList_setIfInBounds, List.take_succ_eq_append_getElem (by simpa using hi), List.take_set_of_le (Nat.le_refl _)]
    simp
section
variable {P : Program} {L : List (Nat × Value)} {w0 w : World} {F : HP} {ty : TypeId}
theorem abp {t e n : Nat} {ps : List (Nat × Operand)} {vs : List Value} {z : Value} (H : V w0 w F) (ht : P.underlying t = some (.slice e)) (hs : ∀ w, (sizeOf e).run P w = .ok 1 w) (hz : ∀ w, (zeroValue e).run P w = .ok z w) (hz1 : z.cells.size = 1)
    (hp : evp L ps = some (placed 0 vs)) (hn : vs.length = n) (adu : n ≤ 16777216) (h1 : ∀ v ∈ vs, v.oneCell' = true) :
    Dj P L (.buildSlice t n ps.toArray) ty w fun v w' => ∃ b, v = .slice (some ⟨b, 0, none⟩) n n ∧ V w0 w' (gU b (.cells vs.toArray e (0, 0)) • F) := by
  refine BP (v := .slice (some ⟨w.heap.size, 0, none⟩) n n) (w' := w.alloc (.cells vs.toArray e)) ?_ ⟨_, rfl, H.alloc _⟩
  intro ρ hρ d pos xw g
  have hm := VP hρ _ _ hp
  have hm' : (ps.toArray.map fun x => (x.1, ρ x.2)).toList = placed 0 vs := by simpa using hm
  have hf : ∀ cells : Array Value, cells.size = n → Instr.fill (fun i => some (i, 1)) cells (List.map (fun x => (x.fst, ρ x.snd)) ps) = some vs.toArray := fun cells hc => by
    rw [hm, ace vs 0 cells h1 (by omega)]; simp
  simp only [execOp, Instr.buildSlice, Sem.run_bind, run_underlying ht, Result.andThen_ok, hs]
  rw [if_neg (by omega)]
  by_cases h0 : n = 0
  · subst h0
    have hf0 := hf (Array.map (fun _ => default) (Array.range 0)) (by simp)
    simp [hf0, newRow]
  · have hf1 := hf ((Array.range n).map (z.cells[· % z.cells.size]!)) (by simp)
    simp [h0, hz, hf1, newRow]
theorem mX {t e n : Nat} {ps : List (Nat × Operand)} {vs : List Value} {z : Value} (H : V w0 w F) (ht : P.underlying t = some (.slice e)) (hs : ∀ w, (sizeOf e).run P w = .ok 1 w) (hz : ∀ w, (zeroValue e).run P w = .ok z w) (hz1 : z.cells.size = 1)
    (hp : evp L ps = some (placed 0 vs)) (hn : vs.length = n) (adu : n ≤ 16777216) (h1 : ∀ v ∈ vs, v.oneCell' = true) :
    Dj P L (.buildSlice t n ps.toArray) ty w fun v w' => V w0 w' (Row e 1 v n vs • F) :=
  (abp (ty := ty) H ht hs hz hz1 hp hn adu h1).mono fun v w'' ⟨b, hv, H'⟩ => by
      subst hv
      refine H'.Ia (by omega) rfl (Nat.le_refl _) (by omega) (by simp; omega) fun j hj => ?_
      rw [List.getElem?_toArray, Nat.zero_add, List.getD_eq_getElem?_getD, List.getElem?_eq_getElem (by omega)]; rfl
theorem QV {t tn e : TypeId} {k kn : IntKind} {s x : Operand} {m : Int} {bytes : Nat} (H : V w0 w F) (ht : P.underlying t = some (.slice e)) (htn : P.underlying tn = some (.int kn))
    (hi : (P.info? e).map (fun i => (i.zero, i.size, i.bytes)) = some (some (.int k 0), 1, bytes)) (hsv : ev L s = some (.slice none 0 0)) (hxv : ev L x = some (.int .i64 m)) (hm : 0 < m) (hm2 : m ≤ 9223372036854775807)
    (hb : m.toNat * bytes ≤ 281474976710656) :
    Dj P L (.call ⟨.builtin .append, #[s, x], #[t, tn]⟩) ty w fun v w' => ∃ g c cur, v = .slice (some ⟨g, 0, none⟩) m.toNat c ∧ m.toNat ≤ c ∧ (c : Int) ≤ 9223372036854775807 ∧ c ≤ cur.size ∧ V w0 w' (gU g (.cells cur e (0, 0)) • F) := by
  obtain ⟨i, hi1, hi2⟩ := Option.map_eq_some_iff.1 hi
  simp only [Prod.mk.injEq] at hi2
  obtain ⟨hz1, hs1, hb1⟩ := hi2
  have e1 : (m.toNat : Int) = m := Int.toNat_of_nonneg (by omega)
  have hge := grownCap_ge w m.toNat 0 e
  refine BP (v := .slice (some ⟨w.heap.size, 0, none⟩) m.toNat (grownCap w m.toNat 0 e)) (w' := w.drew.alloc (.cells (Builtin.zeroCells #[.int k 0] m.toNat ++ Builtin.zeroCells #[.int k 0] (grownCap w m.toNat 0 e - m.toNat)) e))
    (y7 (vs := [.slice none 0 0, .int .i64 m]) (by simp [MG, hsv, hxv]) fun _ => ?_) ⟨_, _, _, rfl, hge, Jt w _ _ _ (by omega), ?_, H.drew.alloc _⟩
  · simp only [builtin, Sem.run_bind]
    have := Lib.run_append_nil_zeros (P := P) w t tn ty e i (.int k 0) .i64 kn ht htn hi1 hz1 m.toNat (by omega) (by omega) (by omega) (by rw [hb1]; exact hb)
    rw [e1] at this
    rw [this]; rfl
  · simp [size_zeroCells, Value.cells]; omega
theorem kS {t : TypeId} {fs : Array Field} {z : Value} {pl : Array (Nat × Nat)} {ps : List (Nat × Operand)} {vs : List (Nat × Value)} (cells : Array Value) (ht : P.underlying t = some (.struct fs)) (hz : ∀ w, (zeroValue t).run P w = .ok z w)
    (hpl : ∀ w, (fs.mapM fun f => do pure (f.offset, ← sizeOf f.type) : Sem (Array (Nat × Nat))).run P w = .ok pl w) (hp : evp L ps = some vs) (hf : Instr.fill (fun i => pl[i]?) z.cells vs = some cells) : Val P L (.build t ps.toArray) ty w (.agg cells) w := fun ρ hρ _ _ _ _ => by
  have hm := VP hρ _ _ hp
  simp only [execOp, Instr.build, Sem.run_bind, hz, Result.andThen_ok, run_underlying ht, hpl]
  have : (ps.toArray.map fun x => (x.1, ρ x.2)).toList = vs := by simpa using hm
  simp only [this, hf, Sem.run_pure, Result.andThen_ok]
theorem dU {t : TypeId} {d : TypeDesc} {b n : Nat} {cs : Array Value} {et : TypeId} {fr : Nat × Nat} {x : Operand} (hu : P.underlying t = some d) (hd : (match d with | .struct _ => false | .array _ _ => false | _ => true) = false) (hs : ∀ w, (sizeOf t).run P w = .ok n w) (hn : cs.size = n)
    (hx : ev L x = some (.pointer (some ⟨b, 0, none⟩))) (hb : w.heap[b]? = some (.cells cs et fr)) : Val P L (.load t x) ty w (.agg cs) w := by
  have := Hz (ty := ty) (cs := cs.toList) (w := w) (by rw [hu]; rfl) (XO hu hd) hs (by simpa using hn) hx (fun j u hj => iP hb (by rw [Nat.zero_add]; simpa using hj))
  simpa using this
theorem fC {t : TypeId} {b n : Nat} {old cs : Array Value} {et : TypeId} {x y : Operand} (H : V w0 w (gU b (.cells old et (0, 0)) • F)) (hs : ∀ w, (sizeOf t).run P w = .ok n w) (hn : cs.size = n) (hn' : old.size = n)
    (hx : ev L x = some (.pointer (some ⟨b, 0, none⟩))) (hy : ev L y = some (.agg cs)) (h1 : ∀ v ∈ cs.toList, v.oneCell' = true) : Dj P L (.store t x y) ty w fun _ w' => V w0 w' (gU b (.cells cs et (0, 0)) • F) := by
  have hst := run_storeCells_at P b 0 et cs.toList 0 old w H.get.2 (by simp; omega) h1
  have e1 : (old.toList.take (0 + 0) ++ cs.toList ++ old.toList.drop (0 + 0 + cs.toList.length)).toArray = cs := by
    apply Array.ext'
    simp
    omega
  rw [e1] at hst
  refine QM (w' := w.setRow b cs) ?_ (H.turn rfl rfl rfl (by simp [World.setRow]) (setRow_heap _ _ _ _ _ _ H.get.2) fun k hk _ => setRow_other _ _ _ _ hk)
  intro ρ hρ d pos xw g
  simp [execOp, hρ _ _ hx, hρ _ _ hy, Instr.storeAt, Instr.sureAddr, storeVar, hs, Value.cells, hn, hst]
def utf8 (l : List Int) : ByteArray := l.foldl (fun s n => s ++ Utf8.encode n) .empty
theorem XQ {src dst e : TypeId} {x : Operand} {v : Value} {l : List Int} (hs : P.underlying src = some (.slice e)) (hd : P.underlying dst = some .string) (he : P.underlying e = some (.int .i32)) (hx : ev L x = some v) (hr : mP w .i32 v l) :
    Val P L (.convert src dst x) ty w (.string (utf8 l)) w := fun ρ hρ _ _ _ _ => by
  obtain ⟨a, c, rfl, _, _, hc⟩ := Rd.cells (P := P) hr
  have loop : ∀ (f : Value → ByteArray → Sem (ForInStep ByteArray)), (∀ n s, f (.int .i32 n) s = pure (ForInStep.yield (s ++ Utf8.encode n))) → ∀ (l : List Int) (s : ByteArray), (forIn (m := Sem) (l.map (Value.int .i32)).toArray s f).run P w = .ok (l.foldl (fun s n => s ++ Utf8.encode n) s) w := by
    intro f hf l
    induction l with
    | nil => intro s; rfl
    | cons x l ih => intro s; simp [hf] at ih ⊢; try exact ih _
  have h1 : (Conv.runesToString (.slice a l.length c)).run P w = .ok (.string (utf8 l)) w := by
    unfold Conv.runesToString
    cases a with
    | none =>
      have : l = [] := by
        cases l with
        | nil => rfl
        | cons x l =>
          obtain ⟨_, _, e, _, _, hh⟩ := hr.open
          cases e
          obtain ⟨_, _, e, _⟩ := hh (by simp)
          cases e
      subst this; rfl
    | some a =>
      have h2 : (loadCells a l.length).run P w = .ok (l.map (Value.int .i32)).toArray w := by simpa [Builtin.firstCells] using hc
      simp only [Sem.run_bind, h2, Result.andThen_ok]
      rw [loop]
      · rfl
      · intro n s; rfl
  simp [execOp, hρ _ _ hx, convert, run_underlying hs, run_underlying hd, run_underlying he, h1]
theorem eF {t e bytes : Nat} {k : IntKind} {s x : Operand} {v xv : Value} {l m : List Int} (H : V w0 w (kF e k v l • F)) (hx : mP w k xv m) (ht : P.underlying t = some (.slice e))
    (hi : (P.info? e).map (fun i => (i.zero, i.size, i.bytes)) = some (some (.int k 0), 1, bytes)) (hsv : ev L s = some v) (hxv : ev L x = some xv) (h63 : ((l.length + m.length : Nat) : Int) ≤ 9223372036854775807) (hb : (l.length + m.length) * bytes ≤ 140737488355328) :
    Dj P L (.call ⟨.builtin .append, #[s, x], #[t, t]⟩) ty w fun v' w' => V w0 w' (kF e k v' (l ++ m) • F) :=
  (gK H ht hi rfl hsv hxv hx (QU _ _) h63 hb).mono fun v w' H' => by
    unfold kF
    rw [List.length_append, List.map_append]
    exact H'
def LH (a : Option Addr) (l c s : Nat) : Option Addr := if c = l then a else a.map (·.add (l * s))
def xI (s : Nat) (l h : Nat) : Value → Value
  | .slice a _ c => .slice (LH a l c s) (h - l) (c - l)
  | v => v
theorem zy {t e s : TypeId} {x : Operand} {lo hi : Option Operand} {a : Option Addr} {n c : Nat} {l h : Int} (ht : P.underlying t = some (.slice e)) (hs : ∀ w, (sizeOf e).run P w = .ok s w) (hx : ev L x = some (.slice a n c))
    (hl : (match lo with | none => some (Value.int .i64 0) | some o => ev L o) = some (.int .i64 l)) (hh : (match hi with | none => some (Value.int .i64 n) | some o => ev L o) = some (.int .i64 h)) (h0 : 0 ≤ l ∧ l ≤ h ∧ h ≤ c) :
    Val P L (.slice t x lo hi none) ty w (xI s l.toNat h.toNat (.slice a n c)) w := fun ρ hρ d pos xw g => by
  have e1 : (h.toNat : Int) = h := Int.toNat_of_nonneg (by omega)
  have hx' := hρ _ _ hx
  simp only [execOp, hx', Instr.sliceAt, Sem.run_bind, run_underlying ht, Result.andThen_ok, Instr.slice, Instr.sliceBounds]
  cases hi with
  | none =>
    simp at hh
    subst hh
    cases lo with
    | none => simp at hl; subst hl; simp [hs, xI, LH]
    | some o =>
      simp only [hρ _ _ hl, Option.map_some, Option.map_none]
      simp [Instr.sliceBound, asIntOf, h0.1, h0.2.1, hs, xI, LH]
  | some o =>
    simp only [hρ _ _ hh, Option.map_some]
    cases lo with
    | none => simp at hl; subst hl; simp [Instr.sliceBound, asIntOf, h0.2.1, h0.2.2, hs, xI, LH]
    | some o' =>
      simp only [hρ _ _ hl, Option.map_some, Option.map_none]
      simp [Instr.sliceBound, asIntOf, h0.1, show 0 ≤ h from by omega, h0.2.2, e1, h0.2.1, hs, xI, LH]
theorem UU (s h : Nat) (b o n c : Nat) : xI s 0 h (.slice (some ⟨b, o, none⟩) n c) = .slice (some ⟨b, o, none⟩) h c := by simp [xI, LH, Ci]
theorem Rd.cut {v : Value} {sz n : Nat} {xs : List Value} (hr : Rd w sz v n xs) {l h : Nat} (h1 : l ≤ h) (h2 : h ≤ n) : Rd w sz (xI sz l h v) (h - l) ((xs.drop (l * sz)).take ((h - l) * sz)) := by
  obtain ⟨hl, a, c, rfl, hc1, hc2, hc⟩ := hr
  refine ⟨?_, LH a l c sz, c - l, rfl, by omega, by omega, fun hp => ?_⟩
  · rw [List.length_take, List.length_drop, hl, ← Nat.sub_mul]
    exact Nat.min_eq_left (Nat.mul_le_mul_right _ (by omega))
  · obtain ⟨b, o, rfl, hcell⟩ := hc (by omega)
    have : ¬ c = l := by omega
    refine ⟨b, o + l * sz, by simp [LH, this, Ci], fun j hj => ?_⟩
    have e1 : l * sz + (h - l) * sz = h * sz := by rw [← Nat.add_mul]; congr 1; omega
    have e2 : h * sz ≤ n * sz := Nat.mul_le_mul_right _ h2
    have := hcell (l * sz + j) (by omega)
    rw [Nat.add_assoc, this, List.getD_eq_getElem?_getD, List.getD_eq_getElem?_getD, List.getElem?_take, if_pos hj, List.getElem?_drop]
theorem mP.cut {k : IntKind} {v : Value} {l : List Int} (hr : mP w k v l) {i j : Nat} (h1 : i ≤ j) (h2 : j ≤ l.length) : mP w k (xI 1 i j v) ((l.drop i).take (j - i)) := by
  have h := Rd.cut hr h1 h2
  have hn : ((l.drop i).take (j - i)).length = j - i := by simp; omega
  unfold mP
  rw [hn, List.map_take, List.map_drop]
  simpa using h
theorem mP.upto {k : IntKind} {v : Value} {l : List Int} (hr : mP w k v l) {j : Nat} (h : j ≤ l.length) : mP w k (xI 1 0 j v) (l.take j) := by
  have := hr.cut (i := 0) (j := j) (by omega) h
  rwa [List.drop_zero, Nat.sub_zero] at this
theorem mP.from {k : IntKind} {v : Value} {l : List Int} (hr : mP w k v l) {i : Nat} (h : i ≤ l.length) : mP w k (xI 1 i l.length v) (l.drop i) := by
  have := hr.cut (i := i) (j := l.length) h (Nat.le_refl _)
  rwa [List.take_of_length_le (by simp)] at this
theorem jZ.cut {w0 : World} {F : HP} {k : IntKind} {v : Value} {l : List Int} (hr : jZ w0 F k v l) {i j : Nat} (h1 : i ≤ j) (h2 : j ≤ l.length) : jZ w0 F k (xI 1 i j v) ((l.drop i).take (j - i)) := fun W H => (hr W H).cut h1 h2
theorem V.XR {e sz n h : Nat} {v : Value} {xs : List Value} (H : V w0 w (Row e sz v n xs • F)) (h2 : h ≤ n) : V w0 w (Row e sz (xI sz 0 h v) h (xs.take (h * sz)) • F) := by
  have hl := H.Ea
  rcases H.Bg with ⟨a, rfl, rfl, rfl, H1⟩ | ⟨g, o, c, cur, rfl, h2', h3, h4, h5, H1⟩
  · have : h = 0 := by omega
    subst this
    have := H1.iV (e := e) (sz := sz) a
    simpa [xI, LH] using this
  · rw [UU]
    have e2 : h * sz ≤ n * sz := Nat.mul_le_mul_right _ h2
    refine H1.Ia (by rw [List.length_take, hl]; exact Nat.min_eq_left e2) rfl (by omega) h3 h4 fun j hj => ?_
    rw [h5 j (by omega), List.getD_eq_getElem?_getD, List.getD_eq_getElem?_getD, List.getElem?_take, if_pos hj]
end
end Go.Proofs.YtnhhmieghbfalaaGreatDoor
end
