import Derived.Test.YtnhhmieghbfalaaGreatZ2
import Derived.Test.YtnhhmieghbfalaaGreatZ3
import Derived.Test.YtnhhmieghbfalaaGreatProg
set_option linter.unusedSimpArgs false
set_option linter.unusedVariables false
/- Texts of mine, joined, their names in short: Short2 Inf Equal Slices Buf Buf2. -/
section
namespace Go.Proofs.YtnhhmieghbfalaaGreat
open Go.RowKit
theorem O {α : Sort _} {a : α} : a = a := rfl
theorem aH {v : Value} {l : List Value} (k : ∀ u ∈ l, u.oneCell' = true) (h : v.oneCell' = true := by first | rfl | assumption) : ∀ u ∈ v :: l, u.oneCell' = true := aW h k
theorem Cells.on {i o : Nat} {pl : List (Nat × Nat)} {z : List Value} {vs : List (Nat × Value)} {cs : List Value} {v zv : Value} (k : Cells (i + 1) (o + 1) pl z vs cs) (h : v.oneCell' = true := by first | rfl | assumption) : Cells i o ((o, 1) :: pl) (zv :: z) ((i, v) :: vs) (v :: cs) := .one h k
section
variable {L : List (Nat × Value)} {M : List (Nat × Value)} {i j k l m n o p : Nat} {v v1 v2 v3 v4 v5 v6 v7 : Value}
theorem pY (h : look L i = some v := by exact rfl) : Sub [(i, v)] L := .cons h (.nil _)
theorem uj (h : look L i = some v := by exact rfl) (h1 : look L j = some v1 := by exact rfl) : Sub [(i, v), (j, v1)] L := .cons h (pY h1)
theorem AA (h : look L i = some v := by exact rfl) (h1 : look L j = some v1 := by exact rfl) (h2 : look L k = some v2 := by exact rfl) : Sub [(i, v), (j, v1), (k, v2)] L := .cons h (uj h1 h2)
theorem Pg (h : look L i = some v := by exact rfl) (h1 : look L j = some v1 := by exact rfl) (h2 : look L k = some v2 := by exact rfl) (h3 : look L l = some v3 := by exact rfl) : Sub [(i, v), (j, v1), (k, v2), (l, v3)] L := .cons h (AA h1 h2 h3)
theorem sb5 (h : look L i = some v := by exact rfl) (h1 : look L j = some v1 := by exact rfl) (h2 : look L k = some v2 := by exact rfl) (h3 : look L l = some v3 := by exact rfl) (h4 : look L m = some v4 := by exact rfl) : Sub [(i, v), (j, v1), (k, v2), (l, v3), (m, v4)] L := .cons h (Pg h1 h2 h3 h4)
theorem sb6 (h : look L i = some v := by exact rfl) (h1 : look L j = some v1 := by exact rfl) (h2 : look L k = some v2 := by exact rfl) (h3 : look L l = some v3 := by exact rfl) (h4 : look L m = some v4 := by exact rfl) (h5 : look L n = some v5 := by exact rfl) : Sub [(i, v), (j, v1), (k, v2), (l, v3), (m, v4), (n, v5)] L := .cons h (sb5 h1 h2 h3 h4 h5)
end
section
variable {P : Program} {N : Sh} {Q : Exit → Act → World → Prop} {L : List (Nat × Value)} {w w' : World} {ops : Array Oper} {rest : List Oper} {op : Op} {ty ty' : TypeId} {pos pos' : String} {qI ac2 : Array Edge} {d d' : Nat} {v v' : Value} {x y : Operand} {C D : Code} {id : Nat} {l : List Oper}
theorem iF (h : WC P N C Q L w) : WL P N ops (Exit.then (C.wpIn (fz N.ro) 0 P Q) Q) [] L w := cO (bC h)
theorem jZ (hx : ev L x = some v) (h : WC P N C Q ((d, v) :: L) w) (hd : d < N.n := by exact nD rfl) : WL P N ops (Exit.then (C.wpIn (fz N.ro) 0 P Q) Q) [⟨some d, .assign x, ty, pos, qI, none⟩] L w := oD hx (iF h) hd
theorem lQ (h : WL P N l.toArray (Exit.then (C.wpIn (fz N.ro) 0 P Q) Q) l L w) (hd : N.ro = none ∨ ql l = true := by first | exact .inl rfl | exact .inr rfl) : WC P N (.seq (.region id l.toArray false) C) Q L w := aO (aB h hd)
theorem bY (hx : ev L x = some v) (h : WL P N (⟨some d, .move x, ty, pos, qI, none⟩ :: l).toArray (Exit.then (C.wpIn (fz N.ro) 0 P Q) Q) l ((d, v) :: L) w) (hd : N.ro = none ∨ ql (⟨some d, .move x, ty, pos, qI, none⟩ :: l) = true := by first | exact .inl rfl | exact .inr rfl) (hn : d < N.n := by exact nD rfl) :
    WC P N (.seq (.region id (⟨some d, .move x, ty, pos, qI, none⟩ :: l).toArray false) C) Q L w := lQ (dn hx h hn) hd
theorem kW (hx : ev L x = some v) (h : WC P N C Q ((d, v) :: L) w) (hd : N.ro = none ∨ ql [⟨some d, .assign x, ty, pos, qI, none⟩] = true := by first | exact .inl rfl | exact .inr rfl) (hn : d < N.n := by exact nD rfl) :
    WC P N (.seq (.region id [⟨some d, .assign x, ty, pos, qI, none⟩].toArray false) C) Q L w := lQ (jZ hx h hn) hd
theorem jP (hx : ev L x = some v) (h : WQ N Q .ret ((d, v) :: L) w) (hd : d < N.n := by exact nD rfl) : WL P N ops (Exit.then (Code.ret.wpIn (fz N.ro) 0 P Q) Q) [⟨some d, .assign x, ty, pos, qI, none⟩] L w := jZ hx (oP h) hd
theorem Xt (h : WL P N l.toArray (Exit.then (C.wpIn (fz N.ro) 0 P Q) Q) l L w) (hd : N.ro = none ∨ ql l = true := by first | exact .inl rfl | exact .inr rfl) :
    WL P N ops (Exit.then ((Code.seq (.region id l.toArray false) C).wpIn (fz N.ro) 0 P Q) Q) [] L w := iF (lQ h hd)
theorem pG (hx : ev L x = some v) (h : WL P N (⟨some d, .move x, ty, pos, qI, none⟩ :: l).toArray (Exit.then (C.wpIn (fz N.ro) 0 P Q) Q) l ((d, v) :: L) w) (hd : N.ro = none ∨ ql (⟨some d, .move x, ty, pos, qI, none⟩ :: l) = true := by first | exact .inl rfl | exact .inr rfl) (hn : d < N.n := by exact nD rfl) :
    WL P N ops (Exit.then ((Code.seq (.region id (⟨some d, .move x, ty, pos, qI, none⟩ :: l).toArray false) C).wpIn (fz N.ro) 0 P Q) Q) [] L w := iF (bY hx h hd hn)
theorem nM (hx : ev L x = some v) (h : WQ N Q .ret ((d, v) :: L) w) (hd : N.ro = none ∨ ql [⟨some d, .assign x, ty, pos, qI, none⟩] = true := by first | exact .inl rfl | exact .inr rfl) (hn : d < N.n := by exact nD rfl) :
    WC P N (.seq (.region id [⟨some d, .assign x, ty, pos, qI, none⟩].toArray false) .ret) Q L w := kW hx (oP h) hd hn
theorem gX (h : WC P N C Q L w) : WC P N .skip (Exit.then (C.wpIn (fz N.ro) 0 P Q) Q) L w := fV (bC h)
theorem kE {b : Bool} (hx : ev L x = some (.bool b)) (ht : b = true → WC P N C Q L w) (hf : b = false → WC P N D Q L w) : WL P N ops (Exit.then ((Code.cond x C D).wpIn (fz N.ro) 0 P Q) Q) [] L w := iF (eP hx ht hf)
theorem XJ (h : WQ N Q .ret L w) : WL P N ops (Exit.then (Code.ret.wpIn (fz N.ro) 0 P Q) Q) [] L w := iF (oP h)
theorem qJ (h : WC P N C (Exit.then (D.wpIn (fz N.ro) 0 P Q) Q) L w) : WL P N ops (Exit.then ((Code.seq C D).wpIn (fz N.ro) 0 P Q) Q) [] L w := iF (aO h)
theorem uK (hx : ev L x = some v) (h : WC P N C (Exit.then (D.wpIn (fz N.ro) 0 P Q) Q) ((d, v) :: L) w) (hd : d < N.n := by exact nD rfl) : WL P N ops (Exit.then ((Code.seq C D).wpIn (fz N.ro) 0 P Q) Q) [⟨some d, .assign x, ty, pos, qI, none⟩] L w := jZ hx (aO h) hd
theorem jw (hx : ev L x = some v) (hy : ev ((d, v) :: L) y = some v') (h : WL P N ops Q rest ((d', v') :: (d, v) :: L) w) (hd : d < N.n := by exact nD rfl) (hd' : d' < N.n := by exact nD rfl) : WL P N ops Q (⟨some d, .move x, ty, pos, qI, none⟩ :: ⟨some d', .move y, ty', pos', ac2, none⟩ :: rest) L w := dn hx (dn hy h hd') hd
theorem lM {a : Addr} (hx : ev L x = some v) (hy : ev ((d, v) :: L) y = some (.pointer (some a))) (h : WL P N ops Q rest ((d', .pointer (some a)) :: (d, v) :: L) w) (hd : d < N.n := by exact nD rfl) (hd' : d' < N.n := by exact nD rfl) : WL P N ops Q (⟨some d, .move x, ty, pos, qI, none⟩ :: ⟨some d', .nilCheck y, ty', pos', ac2, none⟩ :: rest) L w := dn hx (dA hy h hd') hd
theorem wcA {b : Bool} (hx : ev L x = some (.bool b)) (ht : b = true → WC P N C Q L w) (hf : b = false → False := by intro h; (try simp only [aK] at h); first | contradiction | omega | (simp at h <;> omega)) : WC P N (.cond x C D) Q L w := eP hx ht fun h => (hf h).elim
theorem Qs {b : Bool} (hx : ev L x = some (.bool b)) (hf : b = false → WC P N D Q L w) (ht : b = true → False := by intro h; (try simp only [aK] at h); first | contradiction | omega | (simp at h <;> omega)) : WC P N (.cond x C D) Q L w := eP hx (fun h => (ht h).elim) hf
theorem wcE {b : Bool} (hx : ev L x = some (.bool b)) (ht : b = true → WC P N C Q L w) (hf : b = false → False := by intro h; (try simp only [aK] at h); simp at h) : WC P N (.cond x C D) Q L w := eP hx ht fun h => (hf h).elim
theorem FH {b : Bool} (hx : ev L x = some (.bool b)) (hf : b = false → WC P N D Q L w) (ht : b = true → False := by intro h; (try simp only [aK] at h); simp at h) : WC P N (.cond x C D) Q L w := eP hx (fun h => (ht h).elim) hf
theorem xsA {b : Bool} (hx : ev L x = some (.bool b)) (ht : b = true → WL P N ops Q rest ((d, .bool true) :: L) w) (hf : b = false → False := by intro h; (try simp only [aK] at h); first | contradiction | omega | (simp at h <;> omega)) (hd : d < N.n := by exact nD rfl) : WL P N ops Q (⟨some d, .move x, ty, pos, qI, none⟩ :: rest) L w := qG hx ht (fun h => (hf h).elim) hd
theorem Xu {b : Bool} (hx : ev L x = some (.bool b)) (hf : b = false → WL P N ops Q rest ((d, .bool false) :: L) w) (ht : b = true → False := by intro h; (try simp only [aK] at h); first | contradiction | omega | (simp at h <;> omega)) (hd : d < N.n := by exact nD rfl) : WL P N ops Q (⟨some d, .move x, ty, pos, qI, none⟩ :: rest) L w := qG hx (fun h => (ht h).elim) hf hd
theorem U9 {b : Bool} (hx : ev L x = some (.bool b)) (ht : b = true → WL P N ops Q rest ((d, .bool true) :: L) w) (hf : b = false → False := by intro h; (try simp only [aK] at h); simp at h) (hd : d < N.n := by exact nD rfl) : WL P N ops Q (⟨some d, .move x, ty, pos, qI, none⟩ :: rest) L w := qG hx ht (fun h => (hf h).elim) hd
theorem JC {b : Bool} (hx : ev L x = some (.bool b)) (hf : b = false → WL P N ops Q rest ((d, .bool false) :: L) w) (ht : b = true → False := by intro h; (try simp only [aK] at h); simp at h) (hd : d < N.n := by exact nD rfl) : WL P N ops Q (⟨some d, .move x, ty, pos, qI, none⟩ :: rest) L w := qG hx (fun h => (ht h).elim) hf hd
end
section
variable {N : Sh} {L : List (Nat × Value)} {w : World} {P : Program} {fn : Func} {S : Value → World → Prop} {t u : Nat} {v x : Value}
theorem we0 (hr : fn.results = #[]) (h : S (.tuple #[]) w) (hd : N.ds = [] := by rfl) : WQ N (oO P fn S) .ret L w := kG (.inl rfl) hr h hd
theorem gy (hr : fn.results = #[.tmp t]) (hv : look L t = some v) (h : S v w) (hd : N.ds = [] := by rfl) : WQ N (oO P fn S) .ret L w := ZY (.inl rfl) hr hv h hd
theorem TV (hr : fn.results = #[.tmp t, .tmp u]) (hv : look L t = some v) (hx : look L u = some x) (h : S (.tuple #[v, x]) w) (hd : N.ds = [] := by rfl) : WQ N (oO P fn S) .ret L w := Z4 (.inl rfl) hr hv hx h hd
end
section
variable {P : Program} {L : List (Nat × Value)} {w0 w : World} {F : HP} {ty : TypeId} {t : TypeId} {b : Nat} {l : List Value} {et : TypeId} {u : Value} {x y : Operand}
theorem ZP (o : Nat) {x0 x1 : Value} (H : V w0 w (eF b (.cells l.toArray et (0, 0)) • F)) (hs : ∀ w, (sizeOf t).run P w = .ok 1 w) (hx : ev L x = some (.pointer (some ⟨b, o, none⟩)) := by exact rfl) (hy : ev L y = some u := by exact rfl) (h1 : u.oneCell' = true := by first | rfl | assumption)
    (ho : Nat.ble (o + 1) l.length = true := by exact rfl) (hl : l.set o u = [x0, x1] := by exact rfl) : xu P L (.store t x y) ty w fun _ w' => V w0 w' (eF b (.cells [x0, x1].toArray et (0, 0)) • F) := dX o H hs hx hy h1 ho hl
theorem st3 (o : Nat) {x0 x1 x2 : Value} (H : V w0 w (eF b (.cells l.toArray et (0, 0)) • F)) (hs : ∀ w, (sizeOf t).run P w = .ok 1 w) (hx : ev L x = some (.pointer (some ⟨b, o, none⟩)) := by exact rfl) (hy : ev L y = some u := by exact rfl) (h1 : u.oneCell' = true := by first | rfl | assumption)
    (ho : Nat.ble (o + 1) l.length = true := by exact rfl) (hl : l.set o u = [x0, x1, x2] := by exact rfl) : xu P L (.store t x y) ty w fun _ w' => V w0 w' (eF b (.cells [x0, x1, x2].toArray et (0, 0)) • F) := dX o H hs hx hy h1 ho hl
theorem st5 (o : Nat) {x0 x1 x2 x3 x4 : Value} (H : V w0 w (eF b (.cells l.toArray et (0, 0)) • F)) (hs : ∀ w, (sizeOf t).run P w = .ok 1 w) (hx : ev L x = some (.pointer (some ⟨b, o, none⟩)) := by exact rfl) (hy : ev L y = some u := by exact rfl) (h1 : u.oneCell' = true := by first | rfl | assumption)
    (ho : Nat.ble (o + 1) l.length = true := by exact rfl) (hl : l.set o u = [x0, x1, x2, x3, x4] := by exact rfl) : xu P L (.store t x y) ty w fun _ w' => V w0 w' (eF b (.cells [x0, x1, x2, x3, x4].toArray et (0, 0)) • F) := dX o H hs hx hy h1 ho hl
theorem aag (o : Nat) {x0 x1 x2 x3 x4 x5 x6 x7 x8 x9 x10 x11 x12 tZ x14 x15 x16 : Value} (H : V w0 w (eF b (.cells l.toArray et (0, 0)) • F)) (hs : ∀ w, (sizeOf t).run P w = .ok 1 w) (hx : ev L x = some (.pointer (some ⟨b, o, none⟩)) := by exact rfl) (hy : ev L y = some u := by exact rfl) (h1 : u.oneCell' = true := by first | rfl | assumption)
    (ho : Nat.ble (o + 1) l.length = true := by exact rfl) (hl : l.set o u = [x0, x1, x2, x3, x4, x5, x6, x7, x8, x9, x10, x11, x12, tZ, x14, x15, x16] := by exact rfl) : xu P L (.store t x y) ty w fun _ w' => V w0 w' (eF b (.cells [x0, x1, x2, x3, x4, x5, x6, x7, x8, x9, x10, x11, x12, tZ, x14, x15, x16].toArray et (0, 0)) • F) := dX o H hs hx hy h1 ho hl
theorem fU (o : Nat) {x0 x1 x2 x3 x4 x5 x6 x7 x8 x9 x10 x11 x12 tZ x14 x15 x16 x17 x18 x19 x20 x21 uD x23 x24 x25 uI x27 x28 x29 x30 x31 x32 vM : Value} (H : V w0 w (eF b (.cells l.toArray et (0, 0)) • F)) (hs : ∀ w, (sizeOf t).run P w = .ok 1 w) (hx : ev L x = some (.pointer (some ⟨b, o, none⟩)) := by exact rfl) (hy : ev L y = some u := by exact rfl) (h1 : u.oneCell' = true := by first | rfl | assumption)
    (ho : Nat.ble (o + 1) l.length = true := by exact rfl) (hl : l.set o u = [x0, x1, x2, x3, x4, x5, x6, x7, x8, x9, x10, x11, x12, tZ, x14, x15, x16, x17, x18, x19, x20, x21, uD, x23, x24, x25, uI, x27, x28, x29, x30, x31, x32, vM] := by exact rfl) : xu P L (.store t x y) ty w fun _ w' => V w0 w' (eF b (.cells [x0, x1, x2, x3, x4, x5, x6, x7, x8, x9, x10, x11, x12, tZ, x14, x15, x16, x17, x18, x19, x20, x21, uD, x23, x24, x25, uI, x27, x28, x29, x30, x31, x32, vM].toArray et (0, 0)) • F) := dX o H hs hx hy h1 ho hl
theorem mY (o : Nat) {x0 x1 x2 x3 x4 x5 x6 x7 x8 x9 x10 x11 x12 tZ x14 x15 x16 x17 x18 x19 x20 x21 uD x23 x24 x25 uI x27 x28 x29 x30 x31 x32 vM x34 Ec Ed Ee x38 x39 x40 x41 : Value} (H : V w0 w (eF b (.cells l.toArray et (0, 0)) • F)) (hs : ∀ w, (sizeOf t).run P w = .ok 1 w) (hx : ev L x = some (.pointer (some ⟨b, o, none⟩)) := by exact rfl) (hy : ev L y = some u := by exact rfl) (h1 : u.oneCell' = true := by first | rfl | assumption)
    (ho : Nat.ble (o + 1) l.length = true := by exact rfl) (hl : l.set o u = [x0, x1, x2, x3, x4, x5, x6, x7, x8, x9, x10, x11, x12, tZ, x14, x15, x16, x17, x18, x19, x20, x21, uD, x23, x24, x25, uI, x27, x28, x29, x30, x31, x32, vM, x34, Ec, Ed, Ee, x38, x39, x40, x41] := by exact rfl) : xu P L (.store t x y) ty w fun _ w' => V w0 w' (eF b (.cells [x0, x1, x2, x3, x4, x5, x6, x7, x8, x9, x10, x11, x12, tZ, x14, x15, x16, x17, x18, x19, x20, x21, uD, x23, x24, x25, uI, x27, x28, x29, x30, x31, x32, vM, x34, Ec, Ed, Ee, x38, x39, x40, x41].toArray et (0, 0)) • F) := dX o H hs hx hy h1 ho hl
end
section
variable {P : Program} {f n : Nat} {fn : Func} {c : Code} {a b d e g h : Value} {S : Value → World → Prop} {w : World}
theorem abD (hf : P.funcs[f]? = some fn) (hN : fn.ntmps = n) (k : WC P (Sh.of n) c (oO P fn S) [] w) (hb : fn.body = some c := by exact rfl) (hl : 0 ≤ n := by exact Nat.le_of_ble_eq_true rfl) : iQ P f #[] w S := xqR hf hN k hb hl
theorem jH (hf : P.funcs[f]? = some fn) (hN : fn.ntmps = n) (k : WC P (Sh.of n) c (oO P fn S) [(0, a)] w) (hb : fn.body = some c := by exact rfl) (hl : 1 ≤ n := by exact Nat.le_of_ble_eq_true rfl) : iQ P f #[a] w S := xqR hf hN k hb hl
theorem qQ (hf : P.funcs[f]? = some fn) (hN : fn.ntmps = n) (k : WC P (Sh.of n) c (oO P fn S) [(0, a), (1, b)] w) (hb : fn.body = some c := by exact rfl) (hl : 2 ≤ n := by exact Nat.le_of_ble_eq_true rfl) : iQ P f #[a, b] w S := xqR hf hN k hb hl
theorem ET (hf : P.funcs[f]? = some fn) (hN : fn.ntmps = n) (k : WC P (Sh.of n) c (oO P fn S) [(0, a), (1, b), (2, d)] w) (hb : fn.body = some c := by exact rfl) (hl : 3 ≤ n := by exact Nat.le_of_ble_eq_true rfl) : iQ P f #[a, b, d] w S := xqR hf hN k hb hl
theorem Hg (hf : P.funcs[f]? = some fn) (hN : fn.ntmps = n) (k : WC P (Sh.of n) c (oO P fn S) [(0, a), (1, b), (2, d), (3, e)] w) (hb : fn.body = some c := by exact rfl) (hl : 4 ≤ n := by exact Nat.le_of_ble_eq_true rfl) : iQ P f #[a, b, d, e] w S := xqR hf hN k hb hl
theorem agZ (hf : P.funcs[f]? = some fn) (hN : fn.ntmps = n) (k : WC P (Sh.of n) c (oO P fn S) [(0, a), (1, b), (2, d), (3, e), (4, g)] w) (hb : fn.body = some c := by exact rfl) (hl : 5 ≤ n := by exact Nat.le_of_ble_eq_true rfl) : iQ P f #[a, b, d, e, g] w S := xqR hf hN k hb hl
end
end Go.Proofs.YtnhhmieghbfalaaGreat
end
section
namespace Go.Proofs.YtnhhmieghbfalaaGreat
open Go.RowKit
open _root_.Go.Proofs.Tryz
theorem wo : (prog.info? 130).map (fun i => (i.zero, i.size, i.bytes)) = some (some (.agg #[.int .i64 0, .slice none 0 0, .slice none 0 0]), 3, 56) := by kernel_rfl
theorem Zu : (prog.info? 149).map (fun i => (i.zero, i.size, i.bytes)) = some (some (.slice none 0 0), 1, 24) := by kernel_rfl
theorem P7 : (prog.info? 154).map (fun i => (i.zero, i.size, i.bytes)) = some (some (.agg #[.int .i64 0, .string .empty]), 2, 24) := by kernel_rfl
theorem acM : (prog.info? 192).map (fun i => (i.zero, i.size, i.bytes)) = some (some (.agg #[.int .i64 0, .string .empty]), 2, 24) := by kernel_rfl
theorem Zr : (prog.info? 21).map (fun i => (i.zero, i.size, i.bytes)) = some (some (.int .i32 0), 1, 4) := by kernel_rfl
theorem Bc : (prog.info? 23).map (fun i => (i.zero, i.size, i.bytes)) = some (some (.slice none 0 0), 1, 24) := by kernel_rfl
theorem adZ : (prog.info? 3).map (fun i => (i.zero, i.size, i.bytes)) = some (some (.int .i64 0), 1, 8) := by kernel_rfl
theorem VN : (prog.info? 49).map (fun i => (i.zero, i.size, i.bytes)) = some (some (.agg #[.string .empty, .int .i64 0]), 2, 24) := by kernel_rfl
theorem IJ : (prog.info? 69).map (fun i => (i.zero, i.size, i.bytes)) = some (some (.slice none 0 0), 1, 24) := by kernel_rfl
theorem Zj : (prog.info? 9).map (fun i => (i.zero, i.size, i.bytes)) = some (some (.string .empty), 1, 16) := by kernel_rfl
theorem lY : (prog.info? 130).map (·.size) = some 3 := by kernel_rfl
theorem N9 : (prog.info? 36).map (·.size) = some 3 := by kernel_rfl
theorem YP : (prog.info? 42).map (·.size) = some 17 := by kernel_rfl
theorem YM : (prog.info? 49).map (·.size) = some 2 := by kernel_rfl
theorem adw : (prog.info? 67).map (·.size) = some 11 := by kernel_rfl
theorem ad4 : (prog.info? 83).map (·.size) = some 12 := by kernel_rfl
theorem fD : type_of% @results17 := @results17
theorem lX : type_of% @results77 := @results77
theorem nK : type_of% @results82 := @results82
theorem kT : type_of% @results87 := @results87
theorem mD : type_of% @sizeOf104 := @sizeOf104
theorem bF : type_of% @sizeOf130 := @sizeOf130
theorem gQ : type_of% @sizeOf149 := @sizeOf149
theorem oK : type_of% @sizeOf154 := @sizeOf154
theorem dN : type_of% @sizeOf171 := @sizeOf171
theorem jU : type_of% @sizeOf2 := @sizeOf2
theorem iy : type_of% @sizeOf21 := @sizeOf21
theorem jJ : type_of% @sizeOf22 := @sizeOf22
theorem bg : type_of% @sizeOf23 := @sizeOf23
theorem ah : type_of% @sizeOf3 := @sizeOf3
theorem kH : type_of% @sizeOf36 := @sizeOf36
theorem dG : type_of% @sizeOf39 := @sizeOf39
theorem aN : type_of% @sizeOf4 := @sizeOf4
theorem kL : type_of% @sizeOf42 := @sizeOf42
theorem jX : type_of% @sizeOf49 := @sizeOf49
theorem nJ : type_of% @sizeOf62 := @sizeOf62
theorem aU : type_of% @sizeOf67 := @sizeOf67
theorem bn : type_of% @sizeOf69 := @sizeOf69
theorem mO : type_of% @sizeOf73 := @sizeOf73
theorem kM : type_of% @sizeOf75 := @sizeOf75
theorem mP : type_of% @sizeOf77 := @sizeOf77
theorem dB : type_of% @sizeOf83 := @sizeOf83
theorem qV : type_of% @sizeOf9 := @sizeOf9
theorem iq : type_of% @underlying104 := @underlying104
theorem ig : type_of% @underlying106 := @underlying106
theorem bQ : type_of% @underlying120 := @underlying120
theorem aP : type_of% @underlying130 := @underlying130
theorem bM : type_of% @underlying134 := @underlying134
theorem bJ : type_of% @underlying149 := @underlying149
theorem oq : type_of% @underlying154 := @underlying154
theorem dh : type_of% @underlying158 := @underlying158
theorem gU : type_of% @underlying163 := @underlying163
theorem bW : type_of% @underlying171 := @underlying171
theorem bT : type_of% @underlying173 := @underlying173
theorem jV : type_of% @underlying2 := @underlying2
theorem bZ : type_of% @underlying22 := @underlying22
theorem aA : type_of% @underlying23 := @underlying23
theorem rP : type_of% @underlying24 := @underlying24
theorem ay : type_of% @underlying3 := @underlying3
theorem dU : type_of% @underlying36 := @underlying36
theorem aT : type_of% @underlying39 := @underlying39
theorem bf : type_of% @underlying4 := @underlying4
theorem dZ : type_of% @underlying40 := @underlying40
theorem aS : type_of% @underlying42 := @underlying42
theorem nS : type_of% @underlying45 := @underlying45
theorem iU : type_of% @underlying49 := @underlying49
theorem xk : type_of% @underlying54 := @underlying54
theorem jy : type_of% @underlying62 := @underlying62
theorem nU : type_of% @underlying64 := @underlying64
theorem nV : type_of% @underlying65 := @underlying65
theorem aJ : type_of% @underlying67 := @underlying67
theorem aQ : type_of% @underlying69 := @underlying69
theorem aj : type_of% @underlying71 := @underlying71
theorem kF : type_of% @underlying73 := @underlying73
theorem dW : type_of% @underlying75 := @underlying75
theorem dH : type_of% @underlying77 := @underlying77
theorem jC : type_of% @underlying78 := @underlying78
theorem pz : type_of% @underlying79 := @underlying79
theorem lW : type_of% @underlying81 := @underlying81
theorem bH : type_of% @underlying83 := @underlying83
theorem aI : type_of% @underlying85 := @underlying85
theorem lD : type_of% @underlying9 := @underlying9
theorem bD : type_of% @underlying91 := @underlying91
theorem iG : type_of% @underlying97 := @underlying97
theorem bV : type_of% @zeroValue130 := @zeroValue130
theorem o9 : type_of% @zeroValue154 := @zeroValue154
theorem jS : type_of% @zeroValue23 := @zeroValue23
theorem oU : type_of% @zeroValue36 := @zeroValue36
theorem iD : type_of% @zeroValue42 := @zeroValue42
theorem mg : type_of% @zeroValue49 := @zeroValue49
theorem oW : type_of% @zeroValue67 := @zeroValue67
theorem oV : type_of% @zeroValue69 := @zeroValue69
theorem FM {l m : List Int} {i : Nat} (h1 : i < l.length) (h2 : i < m.length) (h : l.take i = m.take i) (e : l.getD i 0 = m.getD i 0) : l.take (i + 1) = m.take (i + 1) := by
  rw [List.take_succ_eq_append_getElem h1, List.take_succ_eq_append_getElem h2, h]
  simp [List.getD_eq_getElem?_getD, h1, h2] at e
  rw [e]
theorem Hl (w : World) (v1 v2 : Value) (l1 l2 : List Int) (h1 : oL w .i32 v1 l1) (h2 : oL w .i32 v2 l2) :
  iQ prog 66 #[v1, v2] w fun v w' => v = .bool (l1 == l2) ∧ wP w w' := by
 obtain ⟨a1, c1, rfl, hc1, hm1, hr1⟩ := h1.open
 obtain ⟨a2, c2, rfl, hc2, hm2, hr2⟩ := h2.open
 clear h1 h2
 refine qQ func66 ntmps66 ?_
 refine kW O (aO (bY O (aZ (iW aA O) (dn O (aZ (iW aA O) (aZ (fF O O) (kE O (fun h1 => ?_) (fun h1 => ?_))))))))
 ·(try simp only [aK] at h1)
  refine nM O (aV (gy results66 O ?_))
  exact ⟨by rw [show (l1 == l2) = false from beq_eq_false_iff_ne.2 (by rintro rfl; exact h1 rfl)], wP.refl _⟩
 ·(try simp only [aK] at h1)
  refine gX (aO (bY O (aZ (iW aA O) (dn O (iF (bI ?_))))))
  refine iC [(0, _), (1, _), (12, _)] (fun (k : Nat) => [(13, .int .i64 (k : Int))]) (fun (k : Nat) W => k ≤ l1.length ∧ l1.length = l2.length ∧ l1.take k = l2.take k ∧ wP w W) (fun (k : Nat) => l1.length - k) (0) AA pY ⟨by omega, by omega, by simp, wP.refl _⟩ ?_
  rintro k w1 ⟨hk, hl, ht, hD⟩
  dsimp only [List.cons_append, List.nil_append]
  refine lQ (aZ (iE O O) (qJ (eP O (fun h2 => ?_) (fun h2 => ?_))))
  ·(try simp only [aK] at h2)
   refine gX (aO (bI (bY O (uK O ?_))))
   obtain ⟨b1, o1, rfl, hq1⟩ := hr1 (by omega)
   obtain ⟨b2, o2, rfl, hq2⟩ := hr2 (by omega)
   have hc1 := hq1 k (by omega)
   have hc2 := hq2 k (by omega)
   refine qx (n := 9) [0, 1, 2, 3, 4, 5, 6, 7, 8] (fun W => W.heap = w1.heap) (by kernel_rfl) (by kernel_rfl) O ?_
   have hS0 : (fun W => W.heap = w1.heap) (w1.drew) := rfl
   refine gK 0 O hS0 O (gK 1 O hS0 O (jR 2 O hS0 (fun _ => eG aA iy O O (by omega)) ?_))
   refine iY 3 O hS0 (fun W hW => jk (eH underlying21 O) O (by rw [AO (hW.trans hD.heap)]; simpa using hc1)) ?_
   refine gK 4 O hS0 O (gK 5 O hS0 O (jR 6 O hS0 (fun _ => eG aA iy O O (by omega)) ?_))
   refine iY 7 O hS0 (fun W hW => jk (eH underlying21 O) O (by rw [AO (hW.trans hD.heap)]; simpa using hc2)) ?_
   refine jR 8 O hS0 (fun _ => fF O O) (qN (bC (eP O (fun h3 => ?_) (fun h3 => ?_))))
   ·(try simp only [aK] at h3)
    refine nM O (dO (aV (aV (dO (aV (gy results66 O ?_))))))
    exact ⟨by rw [show (l1 == l2) = false from beq_eq_false_iff_ne.2 (by rintro rfl; exact h3 rfl)], hD.drew⟩
   ·(try simp only [aK] at h3)
    refine fV (aX (bC (aB (aZ (fZ O O (by omega)) (dn O (cO ?_))))))
    refine eX (k + 1) ?_ ?_ ?_ ?_
    ·exact pY
    ·exact AA
    ·(try dsimp only)
     first | done | exact ⟨by omega, by omega, FM (by omega) (by omega) ht (by simpa using h3), hD.drew⟩
    ·(try dsimp only); omega
  ·(try simp only [aK] at h2)
   refine gY (aY (aY (dw (bC (nM O (gy results66 O ?_))))))
   exact ⟨by rw [show (l1 == l2) = true from beq_iff_eq.2 (by rw [List.take_of_length_le (by omega), List.take_of_length_le (by omega)] at ht; exact ht)], hD⟩
theorem sJ : (prog.info? 21).map (fun i => (i.zero, i.size, i.bytes)) = some (some (.int .i32 0), 1, 4) := by kernel_rfl
theorem rJ {w0 w : World} {F : HP} {v : Value} {l : List Int} (H : V w0 w F) (hr : jY w0 F .i32 v l) (hb : l.length * 4 ≤ 140737488355328) :
    iQ prog 6 #[v] w fun v' w' => V w0 w' (jg 21 .i32 v' l • F) := by
  obtain ⟨a, c, rfl, h1, h2, h3⟩ := (hr w H).open
  refine jH func6 ntmps6 ?_
  refine kW O (aO (bY O (aZ (CY aA O O) ?_)))
  refine kE O (fun h1 => ?_) (fun h1 => ?_)
  · (try simp only [aK] at h1)
    refine nM O (aV (gy results6 O ?_))
    obtain rfl : a = none := by simpa using h1
    obtain rfl : l = [] := by
      cases l with
      | nil => rfl
      | cons x l => obtain ⟨b, o, e, _⟩ := h3 (by simp); cases e
    exact H.gV none
  · (try simp only [aK] at h1)
    refine gX (lQ (jW (jc (vs := []) H aA iy zeroValue21 O O O (by decide) (by simp)) ?_))
    rintro _ w1 H1
    refine dn O (jW (jr (l := []) H1 (hr.under _ H1) aA sJ O O (by simp; omega) (by simpa using hb)) ?_)
    rintro _ w2 H2
    refine jP O (gy results6 O ?_)
    exact H2
theorem XK {w0 w : World} {F : HP} {n : Int} (H : V w0 w F) (h0 : 0 ≤ n) (hb : n ≤ 70368744177664) :
  iQ prog 133 #[.slice none 0 0, .int .i64 n] w fun v' w' => V w0 w' (jg 21 .i32 v' [] • F) := by
 refine qQ func133 ntmps133 ?_
 refine kW O (aO (bY O (aZ (iE O O) (iF (Qs O (fun h1 => ?_))))))
 (try simp only [aK] at h1)
 refine gX (aO (bY O (dn O (aZ (aaV aA O) (dn O (aZ (iW aA O) (aZ (lJ O O (by omega)) (aZ (lJ O O (by omega)) (jZ O (bY O (aZ (gG O O) (kE O (fun h2 => ?_) (fun h2 => ?_)))))))))))))
 ·(try simp only [aK] at h2)
  refine aB (jw O O (aZ (aaV aA O) (aZ (sW aA iy O O O (by omega)) ?_)))
  refine dn O (jW (Kr H aA ay sJ O O (by omega) (by omega) (by omega)) ?_)
  rintro _ w1 ⟨g, c, cur, rfl, hc1, hc2, hc3, H1⟩
  refine dn O (aZ (iW aA O) (aZ (sW aA iy O O O (by omega)) ?_))
  refine jZ O (bY O (jP O (gy results133 O ?_)))
  exact H1.Af (o := 0) (by simp) (NY 1 0 g 0 _ c) (by simp) hc2 (by simpa using hc3) (by simp)
 ·(try simp only [aK] at h2)
  refine gX (bY O (jP O (gy results133 O ?_)))
  exact H.gV none
theorem TW {w0 w : World} {F : HP} {v : Value} {vs : List Value} {ls : List (List Int)} (H : V w0 w F) (hv : CJ w0 F 1 v ls.length vs) (hls : ∀ k, k < ls.length → jY w0 F .i32 (vs.getD k undef) (ls.getD k [])) (hb : ls.flatten.length * 4 ≤ 140737488355328) :
  iQ prog 124 #[v] w fun v' w' => V w0 w' (jg 21 .i32 v' ls.flatten • F) := by
 obtain ⟨_, a, c, rfl, hc1, hc2, _⟩ := hv w H
 refine jH func124 ntmps124 ?_
 refine kW O (kW O (aO (bY O (aZ (iW aT O) (dn O (iF (bI ?_)))))))
 refine iC [(0, _), (9, _), (10, _)] (fun (k : Nat) => [(3, .int .i64 ((ls.take k).flatten.length : Int)), (11, .int .i64 (k : Int))]) (fun (k : Nat) W => k ≤ ls.length ∧ V w0 W F) (fun (k : Nat) => ls.length - k) (0) AA (Sub.qF O (by simp) (Sub.qF O (O) (Sub.nil _))) ⟨by omega, H⟩ ?_
 rintro k w1 ⟨hk, HL⟩
 dsimp only [List.cons_append, List.nil_append]
 refine lQ (aZ (iE O O) (qJ (eP O (fun h1 => ?_) (fun h1 => ?_))))
 ·(try simp only [aK] at h1)
  refine gX (aO (bI (aO ?_)))
  have hk1 : k < ls.length := by omega
  obtain ⟨b, o, rfl, hc⟩ := hv.cell HL (j := k) (by omega)
  obtain ⟨ak, ck, ek, hk2, hk3, _⟩ := (hls k hk1 _ HL).open
  rw [ek] at hc
  have hfl := O7 ls (k + 1)
  rw [DX ls hk1, List.length_append] at hfl
  refine aB (aZ (eG aT bg O O (by omega)) ?_)
  refine aZ (jk (eH aA O) O (by rw [show ((k : Int).toNat * 1) = k from by omega]; exact hc)) ?_
  refine jZ O (bY O (dn O (aZ (iW aA O) (aZ (fZ O O (by omega)) (jZ O (bY O (aZ (iE O O) (iF (Qs O (fun h2 => ?_))))))))))
  (try simp only [aK] at h2)
  refine fV (aX (bC (aB (aZ (fZ O O (by omega)) (dn O (cO ?_))))))
  refine eX (k + 1) ?_ ?_ ?_ ?_
  ·exact (Sub.qF O (by rw [DX ls hk1, List.length_append, Int.natCast_add]) pY)
  ·exact AA
  ·(try dsimp only)
   first | done | exact ⟨by omega, HL⟩
  ·(try dsimp only); omega
 ·(try simp only [aK] at h1)
  refine gY (aY (aY (dw (bC (bY O (fO O func133 (XK HL (by omega) (by have := O7 ls k; omega)) ?_))))))
  rintro vg w2 H2
  refine uK O (bY O (aZ (iW aT O) (dn O (iF (bI ?_)))))
  refine iC [(25, _), (26, _)] (fun (⟨k, u⟩ : Nat × Value) => [(6, u), (27, .int .i64 (k : Int))]) (fun (⟨k, u⟩ : Nat × Value) W => k ≤ ls.length ∧ V w0 W (jg 21 .i32 u (ls.take k).flatten • F)) (fun (⟨k, u⟩ : Nat × Value) => ls.length - k) ((0, vg)) uj uj ⟨by omega, H2⟩ ?_
  rintro ⟨k, u⟩ w3 ⟨hk, HM⟩
  dsimp only [List.cons_append, List.nil_append]
  refine lQ (aZ (iE O O) (qJ (eP O (fun h3 => ?_) (fun h3 => ?_))))
  ·(try simp only [aK] at h3)
   refine gX (aO (bI (aO ?_)))
   have hk1 : k < ls.length := by omega
   obtain ⟨b, o, rfl, hc⟩ := hv.cell HM.right (j := k) (by omega)
   have hrk := hls k hk1
   have hfl := O7 ls (k + 1)
   rw [DX ls hk1, List.length_append] at hfl
   refine aB (aZ (eG aT bg O O (by omega)) ?_)
   refine aZ (jk (eH aA O) O (by rw [show ((k : Int).toNat * 1) = k from by omega]; exact hc)) ?_
   refine jZ O (aB (jw O O (jW (jr HM (hrk _ HM.right) aA sJ O O (by omega) (by omega)) ?_)))
   rintro va w4 H4
   refine oD O (cO (aX (bC (aB (aZ (fZ O O (by omega)) (dn O (cO ?_)))))))
   refine eX ((k + 1, va)) ?_ ?_ ?_ ?_
   ·exact uj
   ·exact uj
   ·(try dsimp only)
    first | done | exact ⟨by omega, by rw [DX ls hk1]; exact H4⟩
   ·(try dsimp only); omega
  ·(try simp only [aK] at h3)
   refine gY (aY (aY (dw (bC (bY O (jP O (gy results124 O ?_)))))))
   rw [List.take_of_length_le (by omega)] at HM; exact HM
theorem Df {w0 w : World} {F : HP} {b : Nat} {T : TypeId} {u1 u2 : Value} {l1 l2 : List Int} (H : V w0 w (eF b (.cells #[u1, u2] T (0, 0)) • F)) (h1 : jY w0 (eF b (.cells #[u1, u2] T (0, 0)) • F) .i32 u1 l1) (h2 : jY w0 (eF b (.cells #[u1, u2] T (0, 0)) • F) .i32 u2 l2)
    (hb : (l1.length + l2.length) * 4 ≤ 140737488355328) :
    iQ prog 124 #[.slice (some ⟨b, 0, none⟩) 2 2] w fun v' w' => V w0 w' (jg 21 .i32 v' (l1 ++ l2) • eF b (.cells #[u1, u2] T (0, 0)) • F) := by
  have := TW (ls := [l1, l2]) (vs := [u1, u2]) (v := .slice (some ⟨b, 0, none⟩) 2 2) H (fun W HW => ⟨rfl, _, 2, rfl, by simp, by decide, fun _ => ⟨b, 0, rfl, fun j hj => ?_⟩⟩) (fun k hk => ?_) (by simpa using hb)
  · simpa using this
  · refine mQ HW.get.2 ?_
    simp at hj
    match j, hj with
    | 0, _ => rfl
    | 1, _ => rfl
  · simp at hk
    match k, hk with
    | 0, _ => exact h1
    | 1, _ => exact h2
theorem QG {s i j : Nat} {v : Value} (h : v.oneCell' = true) : (sG s i j v).oneCell' = true := by cases v <;> simp_all [sG, Value.oneCell']
def jm (v : Value) (f t pt mk : Int) : Array Value := #[.bool true, v, .int .i64 f, .int .i64 t, .int .i64 pt, .int .i64 mk]
theorem aah {a b : Value} (h : a.oneCell' = true) (k : b.oneCell' = true) : ∀ u ∈ [a, b], u.oneCell' = true := by
  intro u hu; simp at hu; rcases hu with rfl | rfl
  · exact h
  · exact k
section
variable {v u : Value} {f t pt mk x : Int}
theorem pI : (jm v f t pt mk).size = 6 := rfl
theorem V7 : (jm v f t pt mk).setIfInBounds 1 u = jm u f t pt mk := rfl
theorem BG : (jm v f t pt mk).setIfInBounds 2 (.int .i64 x) = jm v x t pt mk := rfl
theorem EU : (jm v f t pt mk).setIfInBounds 3 (.int .i64 x) = jm v f x pt mk := rfl
theorem Eu : (jm v f t pt mk).setIfInBounds 4 (.int .i64 x) = jm v f t x mk := rfl
theorem sZ : (jm v f t pt mk).setIfInBounds 5 (.int .i64 x) = jm v f t pt x := rfl
end
def jo (p : Nat) (L : List Int) (pt mk : Int) : HP := wF fun (x : Value × List Int × Nat × Nat) =>
  fact (x.2.2.1 ≤ x.2.2.2 ∧ x.2.2.2 ≤ x.2.1.length ∧ L = x.2.1.take x.2.2.1 ++ x.2.1.drop x.2.2.2 ∧ L.length ≤ 1024 ∧ x.2.1.length ≤ 4096 ∧ (0 ≤ pt ∧ pt ≤ L.length) ∧ (-1 ≤ mk ∧ mk ≤ L.length)) •
    eF p (.cells (jm x.1 x.2.2.1 x.2.2.2 pt mk) 134 (0, 0)) • jg 21 .i32 x.1 x.2.1
section
variable {w0 w : World} {F : HP} {p : Nat} {L : List Int} {pt mk : Int}
theorem V.buf (H : V w0 w (jo p L pt mk • F)) : ∃ (a : Option Addr) (c : Nat) (xs : List Int) (f t : Nat), f ≤ t ∧ t ≤ xs.length ∧ L = xs.take f ++ xs.drop t ∧ L.length ≤ 1024 ∧ xs.length ≤ 4096 ∧ (0 ≤ pt ∧ pt ≤ L.length) ∧ (-1 ≤ mk ∧ mk ≤ L.length) ∧ xs.length ≤ c ∧ (c : Int) ≤ 9223372036854775807 ∧ L.length + t = xs.length + f ∧
    V w0 w (eF p (.cells (jm (.slice a xs.length c) f t pt mk) 134 (0, 0)) • jg 21 .i32 (.slice a xs.length c) xs • F) := by
  obtain ⟨⟨v, xs, f, t⟩, H⟩ := H.oN
  obtain ⟨⟨h1, h2, h3, h4, h5, h6, h7⟩, H⟩ := H.flat.fact
  have H := H.flat
  obtain ⟨a, c, hv, hc1, hc2, _⟩ := (H.swap.aG).form
  dsimp only at *
  subst hv
  refine ⟨a, c, xs, f, t, h1, h2, h3, h4, h5, h6, h7, hc1, hc2, ?_, H⟩
  rw [h3]; simp; omega
theorem V.wR {v : Value} {xs : List Int} {f t : Nat} (h1 : f ≤ t) (h2 : t ≤ xs.length) (h3 : L = xs.take f ++ xs.drop t) (h4 : L.length ≤ 1024) (h5 : xs.length ≤ 4096) (h6 : 0 ≤ pt ∧ pt ≤ L.length) (h7 : -1 ≤ mk ∧ mk ≤ L.length)
    (H : V w0 w (eF p (.cells (jm v f t pt mk) 134 (0, 0)) • jg 21 .i32 v xs • F)) : V w0 w (jo p L pt mk • F) :=
  V.ji (v, xs, f, t) (V.deep (V.oG ⟨h1, h2, h3, h4, h5, h6, h7⟩ (V.deep H)))
theorem vY (t : TypeId) {cs : Array Value} {fr : Nat × Nat} {m : Bool} (hb : w.heap[p]? = some (.cells cs t fr)) (h0 : cs[0]? = some (.bool m)) :
    iQ prog 81 #[.pointer (some ⟨p, 0, none⟩)] w fun v w' => v = .bool (!m) ∧ w = w' := by
  refine jH func81 ntmps81 ?_
  refine kW O (bY O (aZ (nG jy O O) (JC O (fun h1 => ?_))))
  (try simp only [aK] at h1)
  refine bK (dn O (bK (dA O (bK (Z 0 bM O aN O (bK (dL bf O hb h0 (bK (aZ (kY O) (lH O O (jP O (gy results81 O ?_))))))))))))
  exact ⟨O, O⟩
theorem uM (H : V w0 w (jo p L pt mk • F)) : iQ prog 41 #[.pointer (some ⟨p, 0, none⟩)] w fun v w' => v = .int .i64 L.length ∧ wP w w' := by
 obtain ⟨a, c, xs, f, t, h1, h2, h3, h4, h5, h6, h7, hc1, hc2, hl, H1⟩ := H.buf
 have hb := H1.get.2
 refine jH func41 ntmps41 ?_
 refine kW O (aO (bY O (fO O func81 (vY _ hb O) ?_)))
 rintro _ _ ⟨rfl, rfl⟩
 refine iF (vX (gX (aO ?_)))
 refine qx (n := 16) [0, 1, 2, 3, 4, 5, 6, 7, 8, 9, 10, 11, 12, 13, 14, 15] (fun W => W.heap = w.heap) (by kernel_rfl) (by kernel_rfl) O ?_
 have hS0 : (fun W => W.heap = w.heap) (w.drew) := rfl
 have H3d := H1.drew
 refine gK 0 O hS0 O (jL 1 O hS0 O (fH 2 O hS0 1 bM O bg O ?_))
 refine iY 3 O hS0 (fun W hW => jQ aA O (by rw [hW]; exact hb) O) ?_
 refine jR 4 O hS0 (fun _ => iW aA O) (gK 5 O hS0 O (jL 6 O hS0 O (fH 7 O hS0 3 bM O ah O ?_)))
 refine iY 8 O hS0 (fun W hW => jQ ay O (by rw [hW]; exact hb) O) ?_
 refine gK 9 O hS0 O (jL 10 O hS0 O (fH 11 O hS0 2 bM O ah O ?_))
 refine iY 12 O hS0 (fun W hW => jQ ay O (by rw [hW]; exact hb) O) ?_
 refine jR 13 O hS0 (fun _ => lJ O O (by omega)) (jR 14 O hS0 (fun _ => lJ O O (by omega)) (jR 15 O hS0 (fun _ => iV O) (qN (bC (oP (gy results41 O ?_))))))
 exact ⟨by congr 1; omega, wP.refl _ |>.drew⟩
theorem rM (H : V w0 w (jo p L pt mk • F)) : iQ prog 34 #[.pointer (some ⟨p, 0, none⟩)] w fun v w' => v = .int .i64 pt ∧ w = w' := by
  obtain ⟨a, c, xs, f, t, h1, h2, h3, h4, h5, h6, h7, hc1, hc2, hl, H1⟩ := H.buf
  have hb := H1.get.2
  refine jH func34 ntmps34 ?_
  refine kW O (aO (bY O (fO O func81 (vY _ hb O) ?_)))
  rintro _ _ ⟨rfl, rfl⟩
  refine iF (vX (gX (bY O (dA O (Z 4 bM O ah O (dL ay O hb O (jP O (gy results34 O ?_))))))))
  exact ⟨O, O⟩
theorem Ph (H : V w0 w (jo p L pt mk • F)) : iQ prog 86 #[.pointer (some ⟨p, 0, none⟩)] w fun v w' => v = .int .i64 mk ∧ w = w' := by
  obtain ⟨a, c, xs, f, t, h1, h2, h3, h4, h5, h6, h7, hc1, hc2, hl, H1⟩ := H.buf
  have hb := H1.get.2
  refine jH func86 ntmps86 ?_
  refine kW O (aO (bY O (fO O func81 (vY _ hb O) ?_)))
  rintro _ _ ⟨rfl, rfl⟩
  refine iF (vX (gX (bY O (dA O (Z 5 bM O ah O (dL ay O hb O (jP O (gy results86 O ?_))))))))
  exact ⟨O, O⟩
theorem yj (H : V w0 w (jo p L pt mk • F)) : iQ prog 85 #[.pointer (some ⟨p, 0, none⟩)] w fun v w' => V w0 w' (jg 21 .i32 v L • jo p L pt mk • F) := by
 obtain ⟨a, c, xs, f, t, h1, h2, h3, h4, h5, h6, h7, hc1, hc2, hl, H1⟩ := H.buf
 have hb := H1.get.2
 refine jH func85 ntmps85 ?_
 refine kW O (aO (bY O (fO O func81 (vY _ hb O) ?_)))
 rintro _ _ ⟨rfl, rfl⟩
 refine iF (vX (gX (aO ?_)))
 refine qx (n := 21) [0, 1, 2, 3, 4, 5, 6, 7, 8, 9, 10, 11, 12, 13, 14, 15, 16, 17, 18, 19, 20] (fun W => W.heap[p]? = some (.cells (jm (.slice a xs.length c) f t pt mk) 134 (0, 0))) (by kernel_rfl) (by kernel_rfl) O ?_
 have hS0 : (fun W => W.heap[p]? = some (.cells (jm (.slice a xs.length c) f t pt mk) 134 (0, 0))) (w.drew) := hb
 have H3d := H1.drew
 refine gK 0 O hS0 O (jL 1 O hS0 O (fH 2 O hS0 1 bM O bg O (iY 3 O hS0 (fun W hW => jQ aA O hW O) (gK 4 O hS0 O (jL 5 O hS0 O (fH 6 O hS0 2 bM O ah O (iY 7 O hS0 (fun W hW => jQ ay O hW O) (jR 8 O hS0 (fun _ => sW aA iy O O O (by omega)) ?_))))))))
 refine gK 9 O hS0 O (jL 10 O hS0 O (fH 11 O hS0 1 bM O bg O (iY 12 O hS0 (fun W hW => jQ aA O hW O) (gK 13 O hS0 O (jL 14 O hS0 O (fH 15 O hS0 3 bM O ah O (iY 16 O hS0 (fun W hW => jQ ay O hW O) (jR 17 O hS0 (fun _ => sW aA iy O O O (by omega)) ?_))))))))
 refine lU 18 O (U5 (vs := [sG 1 0 f (.slice a xs.length c), sG 1 t xs.length (.slice a xs.length c)]) H3d aT bg jS O O O (by decide) (aah (QG O) (QG O))) ?_
 rintro _ w2 ⟨b2, rfl, H2⟩
 have hS2 : (fun W => W.heap[p]? = some (.cells (jm (.slice a xs.length c) f t pt mk) 134 (0, 0))) w2 := H2.swap.get.2
 refine Et hS2 ?_
 refine lU 19 O (xB O func124 (Df (l1 := xs.take f) (l2 := xs.drop t) H2 (fun W HW => oL.upto HW.Jc.aG (by omega)) (fun W HW => oL.from HW.Jc.aG (by omega)) (by simp; omega))) ?_
 rintro u w3 H3
 have hS3 : (fun W => W.heap[p]? = some (.cells (jm (.slice a xs.length c) f t pt mk) 134 (0, 0))) w3 := H3.Jc.get.2
 refine Et hS3 ?_
 refine jR 20 O hS3 (fun _ => iV O) (qN (bC (oP (gy results85 O ?_))))
 rw [← h3] at H3
 exact (V.wR h1 h2 h3 h4 h5 h6 h7 H3.swap.right.d3).swap
theorem QH {v : Value} {l : List Int} (H : V w0 w F) (hr : jY w0 F .i32 v l) (hl : l.length ≤ 1024) : iQ prog 111 #[v] w fun v' w' => ∃ p, v' = .tuple #[.pointer (some ⟨p, 0, none⟩), .int .i64 0] ∧ V w0 w' (jo p l l.length (-1) • F) := by
 obtain ⟨a, c, rfl, _, _, _⟩ := (hr w H).open
 refine jH func111 ntmps111 ?_
 refine lQ (oD O (uK O (bY O (aZ (iW aA O) (aZ (gG O O) (iF (Qs O (fun h1 => ?_))))))))
 (try simp only [aK] at h1)
 refine gX (bY O (fO O func6 (rJ H hr (by omega)) ?_))
 rintro u w1 H1
 obtain ⟨au, cu, hu, _⟩ := (H1.aG).form
 subst hu
 refine dn O (aZ (iW aA O) (aZ (jd (pl := #[(0, 1), (1, 1), (2, 1), (3, 1), (4, 1), (5, 1)]) (jm (.slice au l.length cu) 0 0 l.length (-1)) bM zeroValue134 (fun w => by kernel_rfl) O (by kernel_rfl)) (jW (NV H1 O) ?_)))
 rintro _ w2 ⟨b2, rfl, H2⟩
 refine uK O ?_
 have HB : V w0 w2 (eF b2 (.cells (jm (.slice au l.length cu) 0 0 l.length (-1)) 134 (0, 0)) • jg 21 .i32 (.slice au l.length cu) l • F) := H2
 refine aB (jw O O (dn O (aZ (iW aA O) (dn O (aZ (iW aA O) (dA O (Z 2 bM O ah O (aC (fE HB ah O O O (by rw [pI]; decide)) ?_))))))))
 rintro _ w3 HB1
 rw [BG] at HB1
 refine dA O (Z 3 bM O ah O (aC (fE HB1 ah O O O (by rw [pI]; decide)) ?_))
 rintro _ w4 HB2
 rw [EU] at HB2
 refine pG O (oD O (jP O (TV results111 O O ?_)))
 exact ⟨_, O, V.wR (f := l.length) (t := l.length) (Nat.le_refl _) (Nat.le_refl _) (by simp) hl (by omega) (by omega) (by omega) HB2⟩
end
def mZ (L : List Int) (i r : Nat) : List Int := jv (jv (List.replicate (L.length + r + 16) 0) 0 (L.take i)) (i + r + 16) (L.drop i)
theorem TY {L : List Int} {i r : Nat} (h : i ≤ L.length) : (mZ L i r).length = L.length + r + 16 := by
  unfold mZ
  rw [fM, fM] <;> simp [fM] <;> first | omega | (rw [fM] <;> simp <;> omega)
theorem IB {l ys : List Int} {i : Nat} (h : i + ys.length ≤ l.length) : (jv l i ys).take (i + ys.length) = l.take i ++ ys := by
  unfold jv
  rw [List.take_append_of_le_length (by simp; omega), List.take_of_length_le (by simp; omega)]
theorem QI {l ys : List Int} {i j : Nat} (h : i + ys.length ≤ j) (h2 : j ≤ l.length) : (jv l i ys).drop j = l.drop j := by
  unfold jv
  rw [List.drop_append, List.drop_eq_nil_of_le (by simp; omega), List.nil_append, List.drop_drop]
  congr 1
  simp
  omega
theorem Kt {l ys : List Int} {i j : Nat} (h : j ≤ i) (h2 : i ≤ l.length) : (jv l i ys).take j = l.take j := by
  unfold jv
  rw [List.append_assoc, List.take_append_of_le_length (by simp; omega), List.take_take, Nat.min_eq_left h]
theorem Ku {l ys : List Int} {i : Nat} (h : i + ys.length = l.length) : (jv l i ys).drop i = ys := by
  unfold jv
  rw [List.append_assoc, List.drop_append, List.drop_eq_nil_of_le (by simp; omega), List.nil_append]
  simp [show i - min i l.length = 0 from by omega, show l.length ≤ i + ys.length from by omega]
theorem QJ {L : List Int} {i r : Nat} (h : i ≤ L.length) : (mZ L i r).take i = L.take i := by
  have h1 : (jv (List.replicate (L.length + r + 16) (0 : Int)) 0 (L.take i)).length = L.length + r + 16 := by rw [fM] <;> simp; omega
  unfold mZ
  rw [Kt (by omega) (by rw [h1]; omega)]
  have := IB (l := List.replicate (L.length + r + 16) (0 : Int)) (ys := L.take i) (i := 0) (by simp; omega)
  rw [show 0 + (L.take i).length = i from by simp; omega] at this
  simpa using this
theorem QK {L : List Int} {i r : Nat} (h : i ≤ L.length) : (mZ L i r).drop (i + r + 16) = L.drop i := by
  have h1 : (jv (List.replicate (L.length + r + 16) (0 : Int)) 0 (L.take i)).length = L.length + r + 16 := by rw [fM] <;> simp; omega
  exact Ku (by rw [h1]; simp; omega)
section
variable {w0 w : World} {F : HP} {p : Nat} {L : List Int} {pt mk : Int}
theorem Pj {i r : Nat} (H : V w0 w (jo p L pt mk • F)) (hi : i ≤ L.length) (hr : r ≤ 1024) :
  iQ prog 118 #[.pointer (some ⟨p, 0, none⟩), .int .i64 i, .int .i64 r] w fun _ w' => ∃ v, V w0 w' (eF p (.cells (jm v i (i + r + 16 : Nat) pt mk) 134 (0, 0)) • jg 21 .i32 v (mZ L i r) • F) := by
 have hL4 : L.length ≤ 1024 := by obtain ⟨a, c, xs, f, t, h1, h2, h3, h4, h5, h6, h7, hc1, hc2, hl, H1⟩ := H.buf; exact h4
 have e1 : ((L.length : Int) + r + 16).toNat = L.length + r + 16 := by omega
 refine ET func118 ntmps118 ?_
 refine bY O (fO O func85 (yj H) ?_)
 rintro u w1 H1
 obtain ⟨au, cu, hu, hcu, ag0, _⟩ := (H1.aG).form
 subst hu
 obtain ⟨a, c, xs, f, t, h1, h2, h3, h4, h5, h6, h7, hc1, hc2, hl, HB⟩ := H1.swap.buf
 refine jZ O (bY O (dn O (aZ (iW aA O) (dn O (aZ (fZ O O (by omega)) (aZ (fZ O O (by omega)) (jW (QF HB aA sJ O O (by omega) (by omega) (by omega)) ?_)))))))
 rintro v w2 H2
 rw [e1] at H2
 have hm : (List.replicate (L.length + r + 16) (0 : Int)).length = L.length + r + 16 := by simp
 obtain ⟨av, cv, hv, hcv, hcv2, _⟩ := (H2.aG).form
 rw [hm] at hv hcv
 subst hv
 refine dA O (Z 1 bM O bg O (aC (fE H2.swap bg O O O (by rw [pI]; decide)) ?_))
 rintro _ w3 H3
 rw [V7] at H3
 refine pG O (lM O O (Z 2 bM O ah O (aC (fE H3 ah O O O (by rw [pI]; decide)) ?_)))
 rintro _ w4 H4
 rw [BG] at H4
 refine pG O (lM O O (Z 1 bM O bg O (dL aA O H4.get.2 O (aZ (iW aA O) (dn O (aZ (iW aA O) (dn O (aZ (lJ O O (by omega)) (aZ (lJ O O (by omega)) (dA O (Z 3 bM O ah O (aC (fE H4 ah O O O (by rw [pI]; decide)) ?_))))))))))))
 rintro _ w5 H5
 rw [EU, show (((L.length + r + 16 : Nat) : Int) - ((L.length : Int) - (i : Int))) = ((i + r + 16 : Nat) : Int) from by omega] at H5
 have hb3 := H5.get.2
 refine qJ ?_
 refine qx (n := 8) [0, 1, 2, 3, 4, 5, 6, 7] (fun W => W.heap[p]? = some (.cells (jm (.slice av (L.length + r + 16) cv) i (i + r + 16 : Nat) pt mk) 134 (0, 0))) (by kernel_rfl) (by kernel_rfl) O ?_
 have hS0 : (fun W => W.heap[p]? = some (.cells (jm (.slice av (L.length + r + 16) cv) i (i + r + 16 : Nat) pt mk) 134 (0, 0))) (w5.drew) := hb3
 have H4d := H5.drew
 refine gK 0 O hS0 O (jL 1 O hS0 O (fH 2 O hS0 1 bM O bg O (iY 3 O hS0 (fun W hW => jQ aA O hW O) (gK 4 O hS0 O (gK 5 O hS0 O (jR 6 O hS0 (fun _ => sW aA iy O O O (by omega)) ?_))))))
 refine lU 7 O (Dc (i := 0) (m := L.take i) H4d.swap (oL.upto H4d.r4.aG (by omega)) aA (by kernel_rfl) (by rw [hm, TR]; rfl) O (by simp; omega)) ?_
 rintro _ w6 ⟨rfl, H6⟩
 have hm2 : (jv (List.replicate (L.length + r + 16) (0 : Int)) 0 (L.take i)).length = L.length + r + 16 := by rw [fM] <;> simp; omega
 refine Iw (by kernel_rfl) ?_
 refine qN (bC ?_)
 refine qx (n := 13) [0, 1, 2, 3, 4, 5, 6, 7, 8, 9, 10, 11, 12] (fun W => W.heap[p]? = some (.cells (jm (.slice av (L.length + r + 16) cv) i (i + r + 16 : Nat) pt mk) 134 (0, 0))) (by kernel_rfl) (by kernel_rfl) O ?_
 have hS0 : (fun W => W.heap[p]? = some (.cells (jm (.slice av (L.length + r + 16) cv) i (i + r + 16 : Nat) pt mk) 134 (0, 0))) (w6.drew) := H6.swap.get.2
 have H5d := H6.drew
 refine gK 0 O hS0 O (jL 1 O hS0 O (fH 2 O hS0 1 bM O bg O (iY 3 O hS0 (fun W hW => jQ aA O hW O) (gK 4 O hS0 O (jL 5 O hS0 O (fH 6 O hS0 3 bM O ah O (iY 7 O hS0 (fun W hW => jQ ay O hW O) (jR 8 O hS0 (fun _ => sW aA iy O O O (by omega)) ?_))))))))
 refine gK 9 O hS0 O (gK 10 O hS0 O (jR 11 O hS0 (fun _ => sW aA iy O O O (by omega)) ?_))
 refine lU 12 O (Dc (i := i + r + 16) (m := L.drop i) H5d (oL.from H5d.r4.aG (by omega)) aA (by kernel_rfl) (by rw [hm2]; rfl) O (by rw [hm2]; simp; omega)) ?_
 rintro _ w7 ⟨rfl, H7⟩
 refine Iw (by kernel_rfl) ?_
 refine qN (kG (.inr O) results118 ?_)
 exact ⟨_, H7.swap.Jc.right.Jc.right⟩
theorem yu (H : V w0 w (jo p L pt mk • F)) : iQ prog 81 #[.pointer (some ⟨p, 0, none⟩)] w fun v w' => v = .bool false ∧ w = w' := by
  obtain ⟨a, c, xs, f, t, h1, h2, h3, h4, h5, h6, h7, hc1, hc2, hl, H1⟩ := H.buf
  exact vY _ H1.get.2 rfl
def dP (pt i j n : Int) : Int := if j < pt then pt + (n - (j - i)) else if i ≤ pt then i + n else pt
def dR (mk i j n : Int) : Int := if j < mk then mk + (n - (j - i)) else if i < mk then i else mk
def dY (at_ : Int) (d i : Value) : Array Value := #[.int .i64 at_, d, i]
theorem ku {at_ : Int} {d i : Value} (hd : d.oneCell' = true) (hi : i.oneCell' = true) : ∀ v ∈ (dY at_ d i).toList, v.oneCell' = true := by
  intro v hv
  simp [dY] at hv
  rcases hv with rfl | rfl | rfl <;> first | rfl | assumption
variable {v : Value} {l : List Int} {i j : Int}
theorem Jh (H : V w0 w (jo p L pt mk • F)) (hr : jY w0 F .i32 v l) (hb : i < 0 ∨ L.length < i ∨ j < i ∨ L.length < j) :
  iQ prog 77 #[.pointer (some ⟨p, 0, none⟩), .int .i64 i, .int .i64 j, v] w fun v' w' => v' = .tuple #[.agg (dY 0 (.slice none 0 0) (.slice none 0 0)), .int .i64 70] ∧ V w0 w' (jo p L pt mk • F) := by
 obtain ⟨a, c, rfl, _, _, _⟩ := (hr w H.right).open
 refine Hg func77 ntmps77 ?_
 refine lQ (jW (vU H bV) ?_)
 rintro _ w1 ⟨b1, rfl, H1⟩
 refine jZ O (bY O (fO O func41 (uM H1.right) ?_))
 rintro _ w2 ⟨rfl, hD⟩
 have HL := H1.wK hD
 refine uK O (bI (bY O (fO O func81 (yu HL.right) ?_)))
 rintro _ _ ⟨rfl, rfl⟩
 refine jZ O (eP O (fun h1 => ?_) (fun h1 => ?_))
 ·(try simp only [aK] at h1)
  exfalso; first | contradiction | omega
 ·(try simp only [aK] at h1)
  refine bY O (aZ (iE O O) (qG O (fun h2 => ?_) (fun h2 => ?_)))
  ·(try simp only [aK] at h2)
   refine cZ (cZ (cZ (nX O O (dn O (cZ (cZ (cZ (nX O O (dn O (cZ (cZ (cZ (nX O O (jZ O (Ko (lQ (aZ (jd (pl := #[(0, 1), (1, 1), (2, 1)]) (dY 0 (.slice none 0 0) (.slice none 0 0)) aP bV (fun w => by kernel_rfl) O (by kernel_rfl)) (aC (dM (cs := dY 0 (.slice none 0 0) (.slice none 0 0)) HL bF O O O O (ku O O)) ?_))))))))))))))))))
   rintro _ w5 H5
   refine jP O (dO (aV ?_))
   refine jl (.inl O) lX O O aP O (by rw [lY]; rfl) H5.get.2 ?_
   exact ⟨O, H5.right⟩
  ·(try simp only [aK] at h2)
   refine bK (dn O (bK (dn O (bK (aZ (gG O O) (lH O O (qG O (fun h3 => ?_) (fun h3 => ?_))))))))
   ·(try simp only [aK] at h3)
    refine cZ (cZ (cZ (nX O O (dn O (cZ (cZ (cZ (nX O O (jZ O (Ko (lQ (aZ (jd (pl := #[(0, 1), (1, 1), (2, 1)]) (dY 0 (.slice none 0 0) (.slice none 0 0)) aP bV (fun w => by kernel_rfl) O (by kernel_rfl)) (aC (dM (cs := dY 0 (.slice none 0 0) (.slice none 0 0)) HL bF O O O O (ku O O)) ?_)))))))))))))
    rintro _ w6 H6
    refine jP O (dO (aV ?_))
    refine jl (.inl O) lX O O aP O (by rw [lY]; rfl) H6.get.2 ?_
    exact ⟨O, H6.right⟩
   ·(try simp only [aK] at h3)
    refine bK (dn O (bK (dn O (bK (aZ (iE O O) (lH O O (qG O (fun h4 => ?_) (fun h4 => ?_))))))))
    ·(try simp only [aK] at h4)
     refine cZ (cZ (cZ (nX O O (jZ O (Ko (lQ (aZ (jd (pl := #[(0, 1), (1, 1), (2, 1)]) (dY 0 (.slice none 0 0) (.slice none 0 0)) aP bV (fun w => by kernel_rfl) O (by kernel_rfl)) (aC (dM (cs := dY 0 (.slice none 0 0) (.slice none 0 0)) HL bF O O O O (ku O O)) ?_))))))))
     rintro _ w7 H7
     refine jP O (dO (aV ?_))
     refine jl (.inl O) lX O O aP O (by rw [lY]; rfl) H7.get.2 ?_
     exact ⟨O, H7.right⟩
    ·(try simp only [aK] at h4)
     refine bK (dn O (bK (dn O (bK (aZ (gG O O) (lH O O (jZ O (wcA O (fun h5 => ?_)))))))))
     (try simp only [aK] at h5)
     refine lQ (aZ (jd (pl := #[(0, 1), (1, 1), (2, 1)]) (dY 0 (.slice none 0 0) (.slice none 0 0)) aP bV (fun w => by kernel_rfl) O (by kernel_rfl)) (aC (dM (cs := dY 0 (.slice none 0 0) (.slice none 0 0)) HL bF O O O O (ku O O)) ?_))
     rintro _ w8 H8
     refine jP O (dO (aV ?_))
     refine jl (.inl O) lX O O aP O (by rw [lY]; rfl) H8.get.2 ?_
     exact ⟨O, H8.right⟩
theorem Ho (H : V w0 w (jo p L pt mk • F)) (hr : jY w0 F .i32 v l) (hb : 0 ≤ i ∧ i ≤ j ∧ j ≤ L.length) (hl : 1024 < L.length - (j - i) + l.length) :
  iQ prog 77 #[.pointer (some ⟨p, 0, none⟩), .int .i64 i, .int .i64 j, v] w fun v' w' => v' = .tuple #[.agg (dY 0 (.slice none 0 0) (.slice none 0 0)), .int .i64 3] ∧ V w0 w' (jo p L pt mk • F) := by
 obtain ⟨a, c, rfl, _, _, _⟩ := (hr w H.right).open
 have hL4 : L.length ≤ 1024 := by obtain ⟨a, c, xs, f, t, h1, h2, h3, h4, h5, h6, h7, hc1, hc2, hl, H1⟩ := H.buf; exact h4
 refine Hg func77 ntmps77 ?_
 refine lQ (jW (vU H bV) ?_)
 rintro _ w1 ⟨b1, rfl, H1⟩
 refine jZ O (bY O (fO O func41 (uM H1.right) ?_))
 rintro _ w2 ⟨rfl, hD⟩
 have HL := H1.wK hD
 refine uK O (bI (bY O (fO O func81 (yu HL.right) ?_)))
 rintro _ _ ⟨rfl, rfl⟩
 refine jZ O (eP O (fun h1 => ?_) (fun h1 => ?_))
 ·(try simp only [aK] at h1)
  exfalso; first | contradiction | omega
 ·(try simp only [aK] at h1)
  refine bY O (aZ (iE O O) (qG O (fun h2 => ?_) (fun h2 => ?_)))
  ·(try simp only [aK] at h2)
   exfalso; first | contradiction | omega
  ·(try simp only [aK] at h2)
   refine bK (dn O (bK (dn O (bK (aZ (gG O O) (lH O O (qG O (fun h3 => ?_) (fun h3 => ?_))))))))
   ·(try simp only [aK] at h3)
    exfalso; first | contradiction | omega
   ·(try simp only [aK] at h3)
    refine bK (dn O (bK (dn O (bK (aZ (iE O O) (lH O O (qG O (fun h4 => ?_) (fun h4 => ?_))))))))
    ·(try simp only [aK] at h4)
     exfalso; first | contradiction | omega
    ·(try simp only [aK] at h4)
     refine bK (dn O (bK (dn O (bK (aZ (gG O O) (lH O O (jZ O (Qs O (fun h5 => ?_)))))))))
     (try simp only [aK] at h5)
     refine bY O (aZ (iW aA O) (jw O O (dn O (aZ (lJ O O (by omega)) (aZ (lJ O O (by omega)) (aZ (lJ O O (by omega)) (aZ (gG O O) (jZ O (wcA O (fun h6 => ?_))))))))))
     (try simp only [aK] at h6)
     refine lQ (aZ (jd (pl := #[(0, 1), (1, 1), (2, 1)]) (dY 0 (.slice none 0 0) (.slice none 0 0)) aP bV (fun w => by kernel_rfl) O (by kernel_rfl)) (aC (dM (cs := dY 0 (.slice none 0 0) (.slice none 0 0)) HL bF O O O O (ku O O)) ?_))
     rintro _ w8 H8
     refine jP O (dO (aV ?_))
     refine jl (.inl O) lX O O aP O (by rw [lY]; rfl) H8.get.2 ?_
     exact ⟨O, H8.right⟩
end
end Go.Proofs.YtnhhmieghbfalaaGreat
end
