import Derived.Test.YtpdeedplgmbopaaGreatDoorZ2
import Derived.Test.YtpdeedplgmbopaaGreatDoorZ3
import Derived.Test.YtpdeedplgmbopaaGreatDoorProg
import Derived.ProofKit
import Derived.HandedShaped
import Derived.LaidMore
import Derived.OpenShut
import Derived.Stop.Joined
import Derived.Test.YtpdeedplgmbopaaGreatDoorRows
set_option linter.unusedSimpArgs false
set_option linter.unusedVariables false
/- Texts of mine, joined, their names in short: Short2 Inf Lift Own Fun Imm. -/
section
namespace Go.Proofs.YtpdeedplgmbopaaGreatDoor
open Go.RowKit
theorem O {α : Sort _} {a : α} : a = a := rfl
theorem aG {v : Value} {l : List Value} (k : ∀ u ∈ l, u.oneCell' = true) (h : v.oneCell' = true := by first | rfl | assumption) : ∀ u ∈ v :: l, u.oneCell' = true := bg h k
theorem Cells.on {i o : Nat} {pl : List (Nat × Nat)} {z : List Value} {vs : List (Nat × Value)} {cs : List Value} {v zv : Value} (k : Cells (i + 1) (o + 1) pl z vs cs) (h : v.oneCell' = true := by first | rfl | assumption) : Cells i o ((o, 1) :: pl) (zv :: z) ((i, v) :: vs) (v :: cs) := .one h k
section
variable {L : List (Nat × Value)} {M : List (Nat × Value)} {i j k l m n o p : Nat} {v v1 v2 v3 v4 v5 v6 v7 : Value}
theorem mO (h : look L i = some v := by exact rfl) : Sub [(i, v)] L := .cons h (.nil _)
theorem uh (h : look L i = some v := by exact rfl) (h1 : look L j = some v1 := by exact rfl) : Sub [(i, v), (j, v1)] L := .cons h (mO h1)
theorem vC (h : look L i = some v := by exact rfl) (h1 : look L j = some v1 := by exact rfl) (h2 : look L k = some v2 := by exact rfl) : Sub [(i, v), (j, v1), (k, v2)] L := .cons h (uh h1 h2)
theorem JF (h : look L i = some v := by exact rfl) (h1 : look L j = some v1 := by exact rfl) (h2 : look L k = some v2 := by exact rfl) (h3 : look L l = some v3 := by exact rfl) : Sub [(i, v), (j, v1), (k, v2), (l, v3)] L := .cons h (vC h1 h2 h3)
theorem sb5 (h : look L i = some v := by exact rfl) (h1 : look L j = some v1 := by exact rfl) (h2 : look L k = some v2 := by exact rfl) (h3 : look L l = some v3 := by exact rfl) (h4 : look L m = some v4 := by exact rfl) : Sub [(i, v), (j, v1), (k, v2), (l, v3), (m, v4)] L := .cons h (JF h1 h2 h3 h4)
theorem KO (h : look L i = some v := by exact rfl) (h1 : look L j = some v1 := by exact rfl) (h2 : look L k = some v2 := by exact rfl) (h3 : look L l = some v3 := by exact rfl) (h4 : look L m = some v4 := by exact rfl) (h5 : look L n = some v5 := by exact rfl) : Sub [(i, v), (j, v1), (k, v2), (l, v3), (m, v4), (n, v5)] L := .cons h (sb5 h1 h2 h3 h4 h5)
end
section
variable {P : Program} {N : Sh} {Q : Exit → Act → World → Prop} {L : List (Nat × Value)} {w w' : World} {ops : Array Oper} {rest : List Oper} {op : Op} {ty ty' : TypeId} {pos pos' : String} {qK age : Array Edge} {d d' : Nat} {v v' : Value} {x y : Operand} {C D : Code} {id : Nat} {l : List Oper}
theorem iE (h : WC P N C Q L w) : WL P N ops (Exit.then (C.wpIn (fz N.ro) 0 P Q) Q) [] L w := bZ (aX h)
theorem dZ (hx : ev L x = some v) (h : WC P N C Q ((d, v) :: L) w) (hd : d < N.n := by exact lN rfl) : WL P N ops (Exit.then (C.wpIn (fz N.ro) 0 P Q) Q) [⟨some d, .assign x, ty, pos, qK, none⟩] L w := gU hx (iE h) hd
theorem iy (h : WL P N l.toArray (Exit.then (C.wpIn (fz N.ro) 0 P Q) Q) l L w) (hd : N.ro = none ∨ pU l = true := by first | exact .inl rfl | exact .inr rfl) : WC P N (.seq (.region id l.toArray false) C) Q L w := aI (aB h hd)
theorem bM (hx : ev L x = some v) (h : WL P N (⟨some d, .move x, ty, pos, qK, none⟩ :: l).toArray (Exit.then (C.wpIn (fz N.ro) 0 P Q) Q) l ((d, v) :: L) w) (hd : N.ro = none ∨ pU (⟨some d, .move x, ty, pos, qK, none⟩ :: l) = true := by first | exact .inl rfl | exact .inr rfl) (hn : d < N.n := by exact lN rfl) :
    WC P N (.seq (.region id (⟨some d, .move x, ty, pos, qK, none⟩ :: l).toArray false) C) Q L w := iy (bJ hx h hn) hd
theorem ku (hx : ev L x = some v) (h : WC P N C Q ((d, v) :: L) w) (hd : N.ro = none ∨ pU [⟨some d, .assign x, ty, pos, qK, none⟩] = true := by first | exact .inl rfl | exact .inr rfl) (hn : d < N.n := by exact lN rfl) :
    WC P N (.seq (.region id [⟨some d, .assign x, ty, pos, qK, none⟩].toArray false) C) Q L w := iy (dZ hx h hn) hd
theorem fA (hx : ev L x = some v) (h : WQ N Q .ret ((d, v) :: L) w) (hd : d < N.n := by exact lN rfl) : WL P N ops (Exit.then (Code.ret.wpIn (fz N.ro) 0 P Q) Q) [⟨some d, .assign x, ty, pos, qK, none⟩] L w := dZ hx (lQ h) hd
theorem zk7 (h : WL P N l.toArray (Exit.then (C.wpIn (fz N.ro) 0 P Q) Q) l L w) (hd : N.ro = none ∨ pU l = true := by first | exact .inl rfl | exact .inr rfl) :
    WL P N ops (Exit.then ((Code.seq (.region id l.toArray false) C).wpIn (fz N.ro) 0 P Q) Q) [] L w := iE (iy h hd)
theorem sG (hx : ev L x = some v) (h : WL P N (⟨some d, .move x, ty, pos, qK, none⟩ :: l).toArray (Exit.then (C.wpIn (fz N.ro) 0 P Q) Q) l ((d, v) :: L) w) (hd : N.ro = none ∨ pU (⟨some d, .move x, ty, pos, qK, none⟩ :: l) = true := by first | exact .inl rfl | exact .inr rfl) (hn : d < N.n := by exact lN rfl) :
    WL P N ops (Exit.then ((Code.seq (.region id (⟨some d, .move x, ty, pos, qK, none⟩ :: l).toArray false) C).wpIn (fz N.ro) 0 P Q) Q) [] L w := iE (bM hx h hd hn)
theorem kC (hx : ev L x = some v) (h : WQ N Q .ret ((d, v) :: L) w) (hd : N.ro = none ∨ pU [⟨some d, .assign x, ty, pos, qK, none⟩] = true := by first | exact .inl rfl | exact .inr rfl) (hn : d < N.n := by exact lN rfl) :
    WC P N (.seq (.region id [⟨some d, .assign x, ty, pos, qK, none⟩].toArray false) .ret) Q L w := ku hx (lQ h) hd hn
theorem fV (h : WC P N C Q L w) : WC P N .skip (Exit.then (C.wpIn (fz N.ro) 0 P Q) Q) L w := dh (aX h)
theorem jr {b : Bool} (hx : ev L x = some (.bool b)) (ht : b = true → WC P N C Q L w) (hf : b = false → WC P N D Q L w) : WL P N ops (Exit.then ((Code.cond x C D).wpIn (fz N.ro) 0 P Q) Q) [] L w := iE (aZ hx ht hf)
theorem zkc (h : WQ N Q .ret L w) : WL P N ops (Exit.then (Code.ret.wpIn (fz N.ro) 0 P Q) Q) [] L w := iE (lQ h)
theorem rP (h : WC P N C (Exit.then (D.wpIn (fz N.ro) 0 P Q) Q) L w) : WL P N ops (Exit.then ((Code.seq C D).wpIn (fz N.ro) 0 P Q) Q) [] L w := iE (aI h)
theorem uf (hx : ev L x = some v) (h : WC P N C (Exit.then (D.wpIn (fz N.ro) 0 P Q) Q) ((d, v) :: L) w) (hd : d < N.n := by exact lN rfl) : WL P N ops (Exit.then ((Code.seq C D).wpIn (fz N.ro) 0 P Q) Q) [⟨some d, .assign x, ty, pos, qK, none⟩] L w := dZ hx (aI h) hd
theorem jX (hx : ev L x = some v) (hy : ev ((d, v) :: L) y = some v') (h : WL P N ops Q rest ((d', v') :: (d, v) :: L) w) (hd : d < N.n := by exact lN rfl) (hd' : d' < N.n := by exact lN rfl) : WL P N ops Q (⟨some d, .move x, ty, pos, qK, none⟩ :: ⟨some d', .move y, ty', pos', age, none⟩ :: rest) L w := bJ hx (bJ hy h hd') hd
theorem oq {a : Addr} (hx : ev L x = some v) (hy : ev ((d, v) :: L) y = some (.pointer (some a))) (h : WL P N ops Q rest ((d', .pointer (some a)) :: (d, v) :: L) w) (hd : d < N.n := by exact lN rfl) (hd' : d' < N.n := by exact lN rfl) : WL P N ops Q (⟨some d, .move x, ty, pos, qK, none⟩ :: ⟨some d', .nilCheck y, ty', pos', age, none⟩ :: rest) L w := bJ hx (dK hy h hd') hd
theorem wcA {b : Bool} (hx : ev L x = some (.bool b)) (ht : b = true → WC P N C Q L w) (hf : b = false → False := by intro h; (try simp only [Z] at h); first | contradiction | omega | (simp at h <;> omega)) : WC P N (.cond x C D) Q L w := aZ hx ht fun h => (hf h).elim
theorem VH {b : Bool} (hx : ev L x = some (.bool b)) (hf : b = false → WC P N D Q L w) (ht : b = true → False := by intro h; (try simp only [Z] at h); first | contradiction | omega | (simp at h <;> omega)) : WC P N (.cond x C D) Q L w := aZ hx (fun h => (ht h).elim) hf
theorem wcE {b : Bool} (hx : ev L x = some (.bool b)) (ht : b = true → WC P N C Q L w) (hf : b = false → False := by intro h; (try simp only [Z] at h); simp at h) : WC P N (.cond x C D) Q L w := aZ hx ht fun h => (hf h).elim
theorem Oh {b : Bool} (hx : ev L x = some (.bool b)) (hf : b = false → WC P N D Q L w) (ht : b = true → False := by intro h; (try simp only [Z] at h); simp at h) : WC P N (.cond x C D) Q L w := aZ hx (fun h => (ht h).elim) hf
theorem xsA {b : Bool} (hx : ev L x = some (.bool b)) (ht : b = true → WL P N ops Q rest ((d, .bool true) :: L) w) (hf : b = false → False := by intro h; (try simp only [Z] at h); first | contradiction | omega | (simp at h <;> omega)) (hd : d < N.n := by exact lN rfl) : WL P N ops Q (⟨some d, .move x, ty, pos, qK, none⟩ :: rest) L w := jm hx ht (fun h => (hf h).elim) hd
theorem Z4 {b : Bool} (hx : ev L x = some (.bool b)) (hf : b = false → WL P N ops Q rest ((d, .bool false) :: L) w) (ht : b = true → False := by intro h; (try simp only [Z] at h); first | contradiction | omega | (simp at h <;> omega)) (hd : d < N.n := by exact lN rfl) : WL P N ops Q (⟨some d, .move x, ty, pos, qK, none⟩ :: rest) L w := jm hx (fun h => (ht h).elim) hf hd
theorem xsE {b : Bool} (hx : ev L x = some (.bool b)) (ht : b = true → WL P N ops Q rest ((d, .bool true) :: L) w) (hf : b = false → False := by intro h; (try simp only [Z] at h); simp at h) (hd : d < N.n := by exact lN rfl) : WL P N ops Q (⟨some d, .move x, ty, pos, qK, none⟩ :: rest) L w := jm hx ht (fun h => (hf h).elim) hd
theorem JG {b : Bool} (hx : ev L x = some (.bool b)) (hf : b = false → WL P N ops Q rest ((d, .bool false) :: L) w) (ht : b = true → False := by intro h; (try simp only [Z] at h); simp at h) (hd : d < N.n := by exact lN rfl) : WL P N ops Q (⟨some d, .move x, ty, pos, qK, none⟩ :: rest) L w := jm hx (fun h => (ht h).elim) hf hd
end
section
variable {N : Sh} {L : List (Nat × Value)} {w : World} {P : Program} {fn : Func} {S : Value → World → Prop} {t u : Nat} {v x : Value}
theorem we0 (hr : fn.results = #[]) (h : S (.tuple #[]) w) (hd : N.ds = [] := by rfl) : WQ N (oD P fn S) .ret L w := mX (.inl rfl) hr h hd
theorem dI (hr : fn.results = #[.tmp t]) (hv : look L t = some v) (h : S v w) (hd : N.ds = [] := by rfl) : WQ N (oD P fn S) .ret L w := acA (.inl rfl) hr hv h hd
theorem KP (hr : fn.results = #[.tmp t, .tmp u]) (hv : look L t = some v) (hx : look L u = some x) (h : S (.tuple #[v, x]) w) (hd : N.ds = [] := by rfl) : WQ N (oD P fn S) .ret L w := acB (.inl rfl) hr hv hx h hd
end
section
variable {P : Program} {L : List (Nat × Value)} {w0 w : World} {F : HP} {ty : TypeId} {t : TypeId} {b : Nat} {l : List Value} {et : TypeId} {u : Value} {x y : Operand}
theorem st2 (o : Nat) {x0 x1 : Value} (H : V w0 w (eP b (.cells l.toArray et (0, 0)) • F)) (hs : ∀ w, (sizeOf t).run P w = .ok 1 w) (hx : ev L x = some (.pointer (some ⟨b, o, none⟩)) := by exact rfl) (hy : ev L y = some u := by exact rfl) (h1 : u.oneCell' = true := by first | rfl | assumption)
    (ho : Nat.ble (o + 1) l.length = true := by exact rfl) (hl : l.set o u = [x0, x1] := by exact rfl) : xU P L (.store t x y) ty w fun _ w' => V w0 w' (eP b (.cells [x0, x1].toArray et (0, 0)) • F) := gB o H hs hx hy h1 ho hl
theorem st3 (o : Nat) {x0 x1 x2 : Value} (H : V w0 w (eP b (.cells l.toArray et (0, 0)) • F)) (hs : ∀ w, (sizeOf t).run P w = .ok 1 w) (hx : ev L x = some (.pointer (some ⟨b, o, none⟩)) := by exact rfl) (hy : ev L y = some u := by exact rfl) (h1 : u.oneCell' = true := by first | rfl | assumption)
    (ho : Nat.ble (o + 1) l.length = true := by exact rfl) (hl : l.set o u = [x0, x1, x2] := by exact rfl) : xU P L (.store t x y) ty w fun _ w' => V w0 w' (eP b (.cells [x0, x1, x2].toArray et (0, 0)) • F) := gB o H hs hx hy h1 ho hl
theorem st5 (o : Nat) {x0 x1 x2 x3 x4 : Value} (H : V w0 w (eP b (.cells l.toArray et (0, 0)) • F)) (hs : ∀ w, (sizeOf t).run P w = .ok 1 w) (hx : ev L x = some (.pointer (some ⟨b, o, none⟩)) := by exact rfl) (hy : ev L y = some u := by exact rfl) (h1 : u.oneCell' = true := by first | rfl | assumption)
    (ho : Nat.ble (o + 1) l.length = true := by exact rfl) (hl : l.set o u = [x0, x1, x2, x3, x4] := by exact rfl) : xU P L (.store t x y) ty w fun _ w' => V w0 w' (eP b (.cells [x0, x1, x2, x3, x4].toArray et (0, 0)) • F) := gB o H hs hx hy h1 ho hl
theorem aeR (o : Nat) {x0 x1 x2 x3 x4 x5 x6 x7 x8 x9 x10 x11 x12 y7 x14 x15 x16 : Value} (H : V w0 w (eP b (.cells l.toArray et (0, 0)) • F)) (hs : ∀ w, (sizeOf t).run P w = .ok 1 w) (hx : ev L x = some (.pointer (some ⟨b, o, none⟩)) := by exact rfl) (hy : ev L y = some u := by exact rfl) (h1 : u.oneCell' = true := by first | rfl | assumption)
    (ho : Nat.ble (o + 1) l.length = true := by exact rfl) (hl : l.set o u = [x0, x1, x2, x3, x4, x5, x6, x7, x8, x9, x10, x11, x12, y7, x14, x15, x16] := by exact rfl) : xU P L (.store t x y) ty w fun _ w' => V w0 w' (eP b (.cells [x0, x1, x2, x3, x4, x5, x6, x7, x8, x9, x10, x11, x12, y7, x14, x15, x16].toArray et (0, 0)) • F) := gB o H hs hx hy h1 ho hl
theorem gG (o : Nat) {x0 x1 x2 x3 x4 x5 x6 x7 x8 x9 x10 x11 x12 y7 x14 x15 x16 x17 x18 x19 x20 x21 zV x23 x24 x25 Ak x27 x28 x29 x30 x31 x32 Bh : Value} (H : V w0 w (eP b (.cells l.toArray et (0, 0)) • F)) (hs : ∀ w, (sizeOf t).run P w = .ok 1 w) (hx : ev L x = some (.pointer (some ⟨b, o, none⟩)) := by exact rfl) (hy : ev L y = some u := by exact rfl) (h1 : u.oneCell' = true := by first | rfl | assumption)
    (ho : Nat.ble (o + 1) l.length = true := by exact rfl) (hl : l.set o u = [x0, x1, x2, x3, x4, x5, x6, x7, x8, x9, x10, x11, x12, y7, x14, x15, x16, x17, x18, x19, x20, x21, zV, x23, x24, x25, Ak, x27, x28, x29, x30, x31, x32, Bh] := by exact rfl) : xU P L (.store t x y) ty w fun _ w' => V w0 w' (eP b (.cells [x0, x1, x2, x3, x4, x5, x6, x7, x8, x9, x10, x11, x12, y7, x14, x15, x16, x17, x18, x19, x20, x21, zV, x23, x24, x25, Ak, x27, x28, x29, x30, x31, x32, Bh].toArray et (0, 0)) • F) := gB o H hs hx hy h1 ho hl
theorem nX (o : Nat) {x0 x1 x2 x3 x4 x5 x6 x7 x8 x9 x10 x11 x12 y7 x14 x15 x16 x17 x18 x19 x20 x21 zV x23 x24 x25 Ak x27 x28 x29 x30 x31 x32 Bh x34 SN SQ SS x38 x39 x40 x41 : Value} (H : V w0 w (eP b (.cells l.toArray et (0, 0)) • F)) (hs : ∀ w, (sizeOf t).run P w = .ok 1 w) (hx : ev L x = some (.pointer (some ⟨b, o, none⟩)) := by exact rfl) (hy : ev L y = some u := by exact rfl) (h1 : u.oneCell' = true := by first | rfl | assumption)
    (ho : Nat.ble (o + 1) l.length = true := by exact rfl) (hl : l.set o u = [x0, x1, x2, x3, x4, x5, x6, x7, x8, x9, x10, x11, x12, y7, x14, x15, x16, x17, x18, x19, x20, x21, zV, x23, x24, x25, Ak, x27, x28, x29, x30, x31, x32, Bh, x34, SN, SQ, SS, x38, x39, x40, x41] := by exact rfl) : xU P L (.store t x y) ty w fun _ w' => V w0 w' (eP b (.cells [x0, x1, x2, x3, x4, x5, x6, x7, x8, x9, x10, x11, x12, y7, x14, x15, x16, x17, x18, x19, x20, x21, zV, x23, x24, x25, Ak, x27, x28, x29, x30, x31, x32, Bh, x34, SN, SQ, SS, x38, x39, x40, x41].toArray et (0, 0)) • F) := gB o H hs hx hy h1 ho hl
end
section
variable {P : Program} {f n : Nat} {fn : Func} {c : Code} {a b d e g h : Value} {S : Value → World → Prop} {w : World}
theorem YP (hf : P.funcs[f]? = some fn) (hN : fn.ntmps = n) (k : WC P (Sh.of n) c (oD P fn S) [] w) (hb : fn.body = some c := by exact rfl) (hl : 0 ≤ n := by exact Nat.le_of_ble_eq_true rfl) : iQ P f #[] w S := ZY hf hN k hb hl
theorem ji (hf : P.funcs[f]? = some fn) (hN : fn.ntmps = n) (k : WC P (Sh.of n) c (oD P fn S) [(0, a)] w) (hb : fn.body = some c := by exact rfl) (hl : 1 ≤ n := by exact Nat.le_of_ble_eq_true rfl) : iQ P f #[a] w S := ZY hf hN k hb hl
theorem qc (hf : P.funcs[f]? = some fn) (hN : fn.ntmps = n) (k : WC P (Sh.of n) c (oD P fn S) [(0, a), (1, b)] w) (hb : fn.body = some c := by exact rfl) (hl : 2 ≤ n := by exact Nat.le_of_ble_eq_true rfl) : iQ P f #[a, b] w S := ZY hf hN k hb hl
theorem zk (hf : P.funcs[f]? = some fn) (hN : fn.ntmps = n) (k : WC P (Sh.of n) c (oD P fn S) [(0, a), (1, b), (2, d)] w) (hb : fn.body = some c := by exact rfl) (hl : 3 ≤ n := by exact Nat.le_of_ble_eq_true rfl) : iQ P f #[a, b, d] w S := ZY hf hN k hb hl
theorem QD (hf : P.funcs[f]? = some fn) (hN : fn.ntmps = n) (k : WC P (Sh.of n) c (oD P fn S) [(0, a), (1, b), (2, d), (3, e)] w) (hb : fn.body = some c := by exact rfl) (hl : 4 ≤ n := by exact Nat.le_of_ble_eq_true rfl) : iQ P f #[a, b, d, e] w S := ZY hf hN k hb hl
theorem ahP (hf : P.funcs[f]? = some fn) (hN : fn.ntmps = n) (k : WC P (Sh.of n) c (oD P fn S) [(0, a), (1, b), (2, d), (3, e), (4, g)] w) (hb : fn.body = some c := by exact rfl) (hl : 5 ≤ n := by exact Nat.le_of_ble_eq_true rfl) : iQ P f #[a, b, d, e, g] w S := ZY hf hN k hb hl
end
end Go.Proofs.YtpdeedplgmbopaaGreatDoor
end
section
namespace Go.Proofs.YtpdeedplgmbopaaGreatDoor
open Go.RowKit
open _root_.Go.Proofs.Tryz
theorem abg : (prog.info? 133).map (fun i => (i.zero, i.size, i.bytes)) = some (some (.agg #[.int .i64 0, .string .empty]), 2, 24) := by kernel_rfl
theorem BP : (prog.info? 189).map (fun i => (i.zero, i.size, i.bytes)) = some (some (.agg #[.int .i64 0, .slice none 0 0, .slice none 0 0]), 3, 56) := by kernel_rfl
theorem UU : (prog.info? 21).map (fun i => (i.zero, i.size, i.bytes)) = some (some (.int .i32 0), 1, 4) := by kernel_rfl
theorem afu : (prog.info? 218).map (fun i => (i.zero, i.size, i.bytes)) = some (some (.agg #[.string .empty, .int .i64 0]), 2, 24) := by kernel_rfl
theorem aek : (prog.info? 22).map (fun i => (i.zero, i.size, i.bytes)) = some (some (.slice none 0 0), 1, 24) := by kernel_rfl
theorem aci : (prog.info? 226).map (fun i => (i.zero, i.size, i.bytes)) = some (some (.slice none 0 0), 1, 24) := by kernel_rfl
theorem ahF : (prog.info? 3).map (fun i => (i.zero, i.size, i.bytes)) = some (some (.int .i64 0), 1, 8) := by kernel_rfl
theorem JO : (prog.info? 80).map (fun i => (i.zero, i.size, i.bytes)) = some (some (.slice none 0 0), 1, 24) := by kernel_rfl
theorem adi : (prog.info? 9).map (fun i => (i.zero, i.size, i.bytes)) = some (some (.string .empty), 1, 16) := by kernel_rfl
theorem afR : (prog.info? 172).map (·.size) = some 12 := by kernel_rfl
theorem uI : (prog.info? 189).map (·.size) = some 3 := by kernel_rfl
theorem WG : (prog.info? 218).map (·.size) = some 2 := by kernel_rfl
theorem aat : (prog.info? 46).map (·.size) = some 3 := by kernel_rfl
theorem ael : (prog.info? 50).map (·.size) = some 17 := by kernel_rfl
theorem agN : (prog.info? 77).map (·.size) = some 11 := by kernel_rfl
theorem og : type_of% @results11 := @results11
theorem qo : type_of% @results124 := @results124
theorem sZ : type_of% @results145 := @results145
theorem ql : type_of% @results160 := @results160
theorem Ku : type_of% @results163 := @results163
theorem aeH : type_of% @results168 := @results168
theorem af5 : type_of% @results17 := @results17
theorem rC : type_of% @results184 := @results184
theorem qx : type_of% @results189 := @results189
theorem qy : type_of% @results190 := @results190
theorem oI : type_of% @results199 := @results199
theorem kT : type_of% @results202 := @results202
theorem fK : type_of% @results31 := @results31
theorem dJ : type_of% @results47 := @results47
theorem rO : type_of% @sizeOf117 := @sizeOf117
theorem qJ : type_of% @sizeOf166 := @sizeOf166
theorem gV : type_of% @sizeOf172 := @sizeOf172
theorem dn : type_of% @sizeOf189 := @sizeOf189
theorem bK : type_of% @sizeOf21 := @sizeOf21
theorem bV : type_of% @sizeOf22 := @sizeOf22
theorem iF : type_of% @sizeOf226 := @sizeOf226
theorem dP : type_of% @sizeOf233 := @sizeOf233
theorem ay : type_of% @sizeOf3 := @sizeOf3
theorem jM : type_of% @sizeOf37 := @sizeOf37
theorem aS : type_of% @sizeOf4 := @sizeOf4
theorem vX : type_of% @sizeOf41 := @sizeOf41
theorem sD : type_of% @sizeOf72 := @sizeOf72
theorem aV : type_of% @sizeOf77 := @sizeOf77
theorem bU : type_of% @sizeOf80 := @sizeOf80
theorem eG : type_of% @sizeOf9 := @sizeOf9
theorem tZ : type_of% @underlying104 := @underlying104
theorem nN : type_of% @underlying113 := @underlying113
theorem oV : type_of% @underlying115 := @underlying115
theorem jd : type_of% @underlying117 := @underlying117
theorem gQ : type_of% @underlying119 := @underlying119
theorem iG : type_of% @underlying122 := @underlying122
theorem aN : type_of% @underlying130 := @underlying130
theorem iU : type_of% @underlying149 := @underlying149
theorem nH : type_of% @underlying151 := @underlying151
theorem nG : type_of% @underlying153 := @underlying153
theorem nM : type_of% @underlying155 := @underlying155
theorem jc : type_of% @underlying166 := @underlying166
theorem jq : type_of% @underlying167 := @underlying167
theorem nO : type_of% @underlying168 := @underlying168
theorem kZ : type_of% @underlying170 := @underlying170
theorem dO : type_of% @underlying172 := @underlying172
theorem aT : type_of% @underlying174 := @underlying174
theorem bD : type_of% @underlying189 := @underlying189
theorem bP : type_of% @underlying197 := @underlying197
theorem dF : type_of% @underlying207 := @underlying207
theorem bC : type_of% @underlying21 := @underlying21
theorem nK : type_of% @underlying218 := @underlying218
theorem ah : type_of% @underlying22 := @underlying22
theorem bQ : type_of% @underlying226 := @underlying226
theorem cO : type_of% @underlying233 := @underlying233
theorem bT : type_of% @underlying235 := @underlying235
theorem aC : type_of% @underlying3 := @underlying3
theorem jR : type_of% @underlying33 := @underlying33
theorem dU : type_of% @underlying37 := @underlying37
theorem cZ : type_of% @underlying4 := @underlying4
theorem fO : type_of% @underlying41 := @underlying41
theorem fP : type_of% @underlying44 := @underlying44
theorem iD : type_of% @underlying46 := @underlying46
theorem jy : type_of% @underlying47 := @underlying47
theorem jQ : type_of% @underlying50 := @underlying50
theorem mZ : type_of% @underlying72 := @underlying72
theorem uP : type_of% @underlying73 := @underlying73
theorem ni : type_of% @underlying74 := @underlying74
theorem ny : type_of% @underlying75 := @underlying75
theorem aK : type_of% @underlying77 := @underlying77
theorem lM : type_of% @underlying78 := @underlying78
theorem aW : type_of% @underlying80 := @underlying80
theorem aj : type_of% @underlying82 := @underlying82
theorem qH : type_of% @underlying87 := @underlying87
theorem dw : type_of% @underlying9 := @underlying9
theorem qC : type_of% @zeroValue122 := @zeroValue122
theorem dY : type_of% @zeroValue189 := @zeroValue189
theorem lq : type_of% @zeroValue21 := @zeroValue21
theorem kP : type_of% @zeroValue50 := @zeroValue50
theorem oH : type_of% @zeroValue77 := @zeroValue77
theorem oG : type_of% @zeroValue80 := @zeroValue80
end Go.Proofs.YtpdeedplgmbopaaGreatDoor
end
section
namespace Go.Proofs.YtpdeedplgmbopaaGreatDoor
open Go.ChangeShapes Go.WideShapes Go.ChangeAt Go.RowKit
section
variable {H : Type} {enc : TypeId × Value → H} {P : Program} {W : World} {B : Nat}
def FI (B : Nat) (enc : TypeId × Value → H) (P : Program) (W : World) (t : TypeId) (cs : List Value) : Prop :=
  ∃ fuel d p, DataW.trod enc P W 0 (fun _ => true) true fuel t cs = some (d, p) ∧ ∀ n ∈ d.weights P t, n ≤ B
abbrev In (enc : TypeId × Value → H) (P : Program) (W : World) (t : TypeId) (cs : List Value) : Prop := FI reachBytes enc P W t cs
theorem FI.bool {t : TypeId} {cs : List Value} (ht : P.underlying t = some .bool) (h : FI B enc P W t cs) : ∃ b, cs = [.bool b] := by
  obtain ⟨fuel, d, p, h1, -⟩ := h; obtain ⟨b, e, -⟩ := DataW.trod_bool ht h1; exact ⟨b, e⟩
theorem FI.int {t : TypeId} {cs : List Value} {k : IntKind} (ht : P.underlying t = some (.int k)) (h : FI B enc P W t cs) : ∃ n, cs = [.int k n] ∧ (Lit.int k n).wf = true := by
  obtain ⟨fuel, d, p, h1, -⟩ := h; obtain ⟨n, e, -, hw⟩ := DataW.trod_int ht h1; exact ⟨n, e, hw⟩
theorem FI.string {t : TypeId} {cs : List Value} (ht : P.underlying t = some .string) (h : FI B enc P W t cs) : ∃ s : ByteArray, cs = [.string s] ∧ s.size ≤ B := by
  obtain ⟨fuel, d, p, h1, hw⟩ := h; obtain ⟨s, e, hx, hm⟩ := DataW.trod_string ht h1
  simp only [Prod.mk.injEq] at hx
  obtain ⟨rfl, -⟩ := hx
  have h2 := hw s.data.toList.length (by simp only [DataW.weights, List.mem_singleton])
  rw [Array.length_toList] at h2
  exact ⟨s, e, h2⟩
theorem Ky {ts : List TypeId} {ds : List (DataW H)} {j : Nat} {t : TypeId} {d : DataW H} (ht : ts[j]? = some t) (hd : ds[j]? = some d) (h : ∀ n ∈ DataW.weightsEach P ts ds, n ≤ B) : ∀ n ∈ d.weights P t, n ≤ B :=
  fun n hn => h n (DataW.weights_mem_each ht hd n hn)
theorem LK {e : TypeId} {ds : List (DataW H)} {d : DataW H} (hd : d ∈ ds) (h : ∀ n ∈ DataW.weightsAll P e ds, n ≤ B) : ∀ n ∈ d.weights P e, n ≤ B := by
  intro n hn
  induction ds with
  | nil => cases hd
  | cons x r ih =>
    simp only [DataW.weightsAll, List.mem_append] at h
    rcases List.mem_cons.1 hd with rfl | hd
    · exact h n (.inl hn)
    · exact ih hd fun n hn => h n (.inr hn)
theorem FI.struct {t : TypeId} {fs : Array Field} {cs : List Value} (ht : P.underlying t = some (.struct fs)) (h : FI B enc P W t cs) :
    cs.length = P.cellsOf t ∧ ∀ (i : Nat) (f : Field), fs[i]? = some f → FI B enc P W f.type ((cs.drop f.offset).take (P.cellsOf f.type)) := by
  obtain ⟨fuel, d, p, h1, hw⟩ := h
  obtain ⟨xs, n, -, hx, hl, hl2, hf⟩ := DataW.trod_struct ht h1
  simp only [Prod.mk.injEq] at hx
  obtain ⟨rfl, -⟩ := hx
  refine ⟨hl, fun i f hi => ?_⟩
  have hlt : i < xs.length := by rw [hl2]; exact (Array.getElem?_eq_some_iff.1 hi).1
  refine ⟨n, xs[i].1, xs[i].2, by rw [hf i f hi, List.getElem?_eq_getElem hlt], ?_⟩
  simp only [DataW.weights, ht] at hw
  exact Ky (ts := fs.toList.map (·.type)) (ds := xs.map (·.1)) (j := i) (by simp [hi]) (by simp [List.getElem?_eq_getElem hlt]) hw
theorem FI.slice {t e : TypeId} {cs : List Value} (ht : P.underlying t = some (.slice e)) (hz : 0 < P.cellsOf e) (h : FI B enc P W t cs) :
    ∃ v n xs, cs = [v] ∧ Rd W (P.cellsOf e) v n xs ∧ n * P.bytesOf e ≤ B ∧ ∀ k, k < n → FI B enc P W e ((xs.drop (k * P.cellsOf e)).take (P.cellsOf e)) := by
  obtain ⟨fuel, d, p, h1, hw⟩ := h
  rcases DataW.trod_slice ht h1 with ⟨rfl, hx⟩ | ⟨a, len, cap, elems, rest, n, -, rfl, hx, -, hl, hm, hel, hget, -⟩
  · exact ⟨_, 0, [], rfl, ⟨by simp, none, 0, rfl, by simp, by decide, fun h => absurd h (by decide)⟩, by simp, fun k hk => absurd hk (by omega)⟩
  simp only [Prod.mk.injEq] at hx
  obtain ⟨rfl, -⟩ := hx
  simp only [DataW.weights, ht, List.mem_cons, List.mem_append] at hw
  have h2 := hw _ (.inl rfl)
  simp only [List.length_map] at h2
  have key : ∀ i, i < len → ∃ cs, W.cells? 0 (a.add (i * P.cellsOf e)) (P.cellsOf e) = some cs ∧ FI B enc P W e cs := by
    intro i hi
    have h3 := hget i hi
    have hi2 : i < elems.length := by omega
    rw [List.getElem?_eq_getElem hi2] at h3
    obtain ⟨cs, e1, e2⟩ := Option.bind_eq_some_iff.1 h3
    exact ⟨cs, e1, n, elems[i].1, elems[i].2, e2, fun m hm => LK (ds := elems.map (·.1)) (List.mem_map.2 ⟨elems[i], List.getElem_mem hi2, rfl⟩) (fun n hn => hw n (.inr (.inl hn))) m hm⟩
  obtain ⟨C, hC⟩ : ∃ C : Nat → List Value, ∀ i, i < len → W.cells? 0 (a.add (i * P.cellsOf e)) (P.cellsOf e) = some (C i) ∧ FI B enc P W e (C i) := by
    classical
    exact ⟨fun i => if hi : i < len then Classical.choose (key i hi) else [], fun i hi => by simp only [dif_pos hi]; exact Classical.choose_spec (key i hi)⟩
  have spot : 0 < len → a.spot = none := by
    intro hp
    obtain ⟨-, -, hc⟩ := World.cells?_some (hC 0 hp).1
    have h3 := hc 0 hz
    have hlen := (World.cells?_some (hC 0 hp).1).2.1
    rw [List.getElem?_eq_getElem (by omega)] at h3
    simp only [Nat.zero_mul, Addr.add, if_true] at h3
    unfold World.cell? at h3
    cases hs : a.spot with
    | none => rfl
    | some q => rw [hs] at h3; split at h3 <;> simp at h3
  let xs : List Value := (List.range len).flatMap C
  have hlC : ∀ i, i < len → (C i).length = P.cellsOf e := fun i hi => (World.cells?_some (hC i hi).1).2.1
  have aan : ∀ m, m ≤ len → ((List.range m).flatMap C).length = m * P.cellsOf e := by
    intro m hm
    induction m with
    | zero => simp
    | succ m ih => rw [List.range_succ, List.flatMap_append, List.length_append, ih (by omega)]; simp [hlC m (by omega), Nat.succ_mul]
  have hcut : ∀ k, k < len → ((xs.drop (k * P.cellsOf e)).take (P.cellsOf e)) = C k := by
    intro k hk
    show ((((List.range len).flatMap C).drop (k * P.cellsOf e)).take (P.cellsOf e)) = C k
    have e1 : List.range len = List.range k ++ [k] ++ (List.range (len - (k + 1))).map ((k + 1) + ·) := by
      have := @List.range_add (k + 1) (len - (k + 1))
      rw [show k + 1 + (len - (k + 1)) = len by omega] at this
      rw [this, List.range_succ]
    have hk1 := aan k (by omega)
    have hck := hlC k hk
    rw [e1, List.flatMap_append, List.flatMap_append, List.append_assoc]
    rw [List.drop_append, hk1]
    simp [hk1, List.take_append, hck]
  refine ⟨_, len, xs, rfl, ⟨aan len (Nat.le_refl _), some a, cap, rfl, hl, by unfold maxLen at hm; omega, fun hp => ⟨a.block, a.off, ?_, fun j hj => ?_⟩⟩, ?_, fun k hk => ?_⟩
  · have := spot hp; cases a; simp_all
  · have hk : j / P.cellsOf e < len := Nat.div_lt_of_lt_mul (by rw [Nat.mul_comm]; exact hj)
    have hr : j % P.cellsOf e < P.cellsOf e := Nat.mod_lt _ hz
    have hc := (World.cells?_some (hC _ hk).1).2.2 _ hr
    have e0 : a = ⟨a.block, a.off, none⟩ := by have := spot hp; cases a; simp_all
    have ej : j / P.cellsOf e * P.cellsOf e + j % P.cellsOf e = j := by rw [Nat.mul_comm]; exact Nat.div_add_mod ..
    rw [e0, vw, vw, Nat.add_assoc, ej] at hc
    rw [hc, ← hcut _ hk, List.getElem?_take_of_lt hr, List.getElem?_drop, ej, List.getD_eq_getElem?_getD, List.getElem?_eq_getElem (by show j < ((List.range len).flatMap C).length; rw [aan len (Nat.le_refl _)]; exact hj)]
    rfl
  · have : len * P.bytesOf e ≤ (elems.length + rest.length) * P.bytesOf e := Nat.mul_le_mul_right _ (by omega)
    omega
  · rw [hcut k hk]; exact (hC k hk).2
theorem FI.ints {t e : TypeId} {k : IntKind} {cs : List Value} (ht : P.underlying t = some (.slice e)) (he : P.underlying e = some (.int k)) (hc : P.cellsOf e = 1) (h : FI B enc P W t cs) :
    ∃ v l, cs = [v] ∧ fJ W k v l ∧ l.length * P.bytesOf e ≤ B ∧ ∀ n ∈ l, (Lit.int k n).wf = true := by
  obtain ⟨v, n, xs, e1, h1, h2, h3⟩ := h.slice ht (by omega)
  rw [hc] at h1 h3
  have hx : ∀ i, i < n → ∃ m, xs[i]? = some (.int k m) ∧ (Lit.int k m).wf = true := by
    intro i hi
    obtain ⟨m, e2, hw⟩ := (h3 i hi).int he
    have hl := h1.len
    refine ⟨m, ?_, hw⟩
    have := congrArg (fun l => l[0]?) e2
    simpa [List.getElem?_take, List.getElem?_drop] using this
  let l := xs.map fun | .int _ m => m | _ => 0
  have hl : l.length = n := by simp only [l, List.length_map]; have := h1.len; omega
  have hxs : xs = l.map (Value.int k) := by
    apply List.ext_getElem?
    intro i
    by_cases hi : i < n
    · obtain ⟨m, e2, -⟩ := hx i hi
      simp [l, e2]
    · have : xs.length ≤ i := by have := h1.len; omega
      simp [l, List.getElem?_eq_none this]
  refine ⟨v, l, e1, by rw [fJ, hl, ← hxs]; exact h1, by rw [hl]; exact h2, fun m hm => ?_⟩
  obtain ⟨i, hi⟩ := List.getElem?_of_mem hm
  have hi2 : i < n := by have := (List.getElem?_eq_some_iff.1 hi).1; omega
  obtain ⟨m', e2, hw⟩ := hx i hi2
  simp only [l, List.getElem?_map, e2, Option.map_some, Option.some.injEq] at hi
  subst hi
  exact hw
theorem acL {α : Type _} [Inhabited α] {n : Nat} {p : Nat → α → Prop} (h : ∀ k, k < n → ∃ l, p k l) (d : α) : ∃ ls : List α, ls.length = n ∧ ∀ k, k < n → p k (ls.getD k d) := by
  induction n with
  | zero => exact ⟨[], rfl, fun k hk => absurd hk (by omega)⟩
  | succ n ih =>
    obtain ⟨ls, h1, h2⟩ := ih fun k hk => h k (by omega)
    obtain ⟨l, hl⟩ := h n (by omega)
    refine ⟨ls ++ [l], by simp [h1], fun k hk => ?_⟩
    by_cases hkn : k < n
    · rw [List.getD_eq_getElem?_getD, List.getElem?_append_left (by omega), ← List.getD_eq_getElem?_getD]; exact h2 k hkn
    · obtain rfl : k = n := by omega
      rw [List.getD_eq_getElem?_getD, List.getElem?_append_right (by omega), h1, Nat.sub_self]; exact hl
theorem FI.row {t e q : TypeId} {k : IntKind} {cs : List Value} (ht : P.underlying t = some (.slice e)) (he : P.underlying e = some (.slice q)) (hq : P.underlying q = some (.int k)) (ce : P.cellsOf e = 1) (cq : P.cellsOf q = 1) (h : FI B enc P W t cs) :
    ∃ (v : Value) (vs : List Value) (ls : List (List Int)), cs = [v] ∧ Rd W 1 v ls.length vs ∧ ls.length * P.bytesOf e ≤ B ∧ ∀ j, j < ls.length → fJ W k (vs.getD j undef) (ls.getD j []) ∧ (ls.getD j []).length * P.bytesOf q ≤ B ∧ ∀ n ∈ ls.getD j [], (Lit.int k n).wf = true := by
  obtain ⟨v, n, vs, e1, h1, h2, h3⟩ := h.slice ht (by omega)
  rw [ce] at h1 h3
  obtain ⟨ls, rfl, hls⟩ := acL (n := n) (p := fun j l => fJ W k (vs.getD j undef) l ∧ l.length * P.bytesOf q ≤ B ∧ ∀ n ∈ l, (Lit.int k n).wf = true) (fun j hj => by
    obtain ⟨u, l, e3, g4, hb4, hw⟩ := (h3 j hj).ints he hq cq
    obtain rfl : vs.getD j undef = u := by
      have := congrArg (fun l => l[0]?) e3
      simp [List.getElem?_drop] at this
      rw [List.getD_eq_getElem?_getD, this]; rfl
    exact ⟨l, g4, hb4, hw⟩) []
  exact ⟨v, vs, ls, e1, h1, h2, hls⟩
theorem JH : ∀ {ts : List TypeId} {vs : List Value} {ds : List (DataW H)} {p : List MemPlace}, DataW.TrodAll enc P W 0 (fun _ => true) true ts vs ds p → (∀ n ∈ DataW.weightsEach P ts ds, n ≤ B) →
    vs.length = ts.length ∧ ds.length = ts.length ∧ ∀ (j : Nat) t v, ts[j]? = some t → vs[j]? = some v → FI B enc P W t v.cells.toList
  | [], _, _, _, h, _ => by obtain ⟨rfl, rfl, rfl⟩ := trodAll_nil h; simp
  | t :: ts, _, _, _, h, hw => by
    obtain ⟨v, vs1, d, ds1, a, b, rfl, rfl, rfl, ⟨fuel, h1⟩, h2⟩ := trodAll_cons h
    simp only [DataW.weightsEach, List.mem_append] at hw
    obtain ⟨i1, i2, i3⟩ := JH h2 fun n hn => hw n (.inr hn)
    refine ⟨by simp [i1], by simp [i2], fun j t' v' ht hv => ?_⟩
    cases j with
    | zero =>
      simp only [List.getElem?_cons_zero, Option.some.injEq] at ht hv
      subst ht; subst hv
      exact ⟨fuel, d, a, h1, fun n hn => hw n (.inl hn)⟩
    | succ j => exact i3 j t' v' (by simpa using ht) (by simpa using hv)
def DV (B : Nat) (enc : TypeId × Value → H) (P : Program) (W : World) : List TypeId → List Value → Prop
  | [], [] => True
  | t :: ts, v :: vs => (∃ base, Value.okWide P W .any base t v) ∧ FI B enc P W t v.cells.toList ∧ DV B enc P W ts vs
  | _, _ => False
abbrev Ins (enc : TypeId × Value → H) (P : Program) (W : World) (ts : List TypeId) (vs : List Value) : Prop := DV reachBytes enc P W ts vs
theorem DV.mk : ∀ {ts : List TypeId} {vs : List Value}, vs.length = ts.length → (∀ (j : Nat) t v, ts[j]? = some t → vs[j]? = some v → (∃ base, Value.okWide P W .any base t v) ∧ FI B enc P W t v.cells.toList) → DV B enc P W ts vs
  | [], [], _, _ => trivial
  | t :: ts, v :: vs, h, k => ⟨(k 0 t v rfl rfl).1, (k 0 t v rfl rfl).2, DV.mk (by simpa using h) fun j t' v' ht hv => k (j + 1) t' v' (by simpa using ht) (by simpa using hv)⟩
  | [], _ :: _, h, _ => by simp at h
  | _ :: _, [], h, _ => by simp at h
theorem DV.nil {args : Array Value} (h : DV B enc P W [] args.toList) : args = #[] := by rcases args with ⟨_ | ⟨_, _⟩⟩ <;> simp_all [DV]
theorem DV.cons {t : TypeId} {ts : List TypeId} {vs : List Value} (h : DV B enc P W (t :: ts) vs) : ∃ v vs', vs = v :: vs' ∧ (∃ base, Value.okWide P W .any base t v) ∧ FI B enc P W t v.cells.toList ∧ DV B enc P W ts vs' := by
  cases vs with
  | nil => exact h.elim
  | cons v vs' => exact ⟨v, vs', rfl, h⟩
theorem DV.nil' {vs : List Value} (h : DV B enc P W [] vs) : vs = [] := by cases vs with | nil => rfl | cons _ _ => exact h.elim
theorem DV.one {args : Array Value} {t : TypeId} (h : DV B enc P W [t] args.toList) : ∃ v, args = #[v] ∧ (∃ base, Value.okWide P W .any base t v) ∧ FI B enc P W t v.cells.toList := by
  obtain ⟨v, vs, e, h1, h2, h3⟩ := h.cons; obtain rfl := h3.nil'; exact ⟨v, by cases args; simp_all, h1, h2⟩
theorem DV.three {args : Array Value} {t t' t'' : TypeId} (h : DV B enc P W [t, t', t''] args.toList) : ∃ v v' v'', args = #[v, v', v''] ∧ ((∃ base, Value.okWide P W .any base t v) ∧ FI B enc P W t v.cells.toList) ∧ ((∃ base, Value.okWide P W .any base t' v') ∧ FI B enc P W t' v'.cells.toList) ∧ ((∃ base, Value.okWide P W .any base t'' v'') ∧ FI B enc P W t'' v''.cells.toList) := by
  obtain ⟨v, vs, e, h1, h2, h3⟩ := h.cons; obtain ⟨v', vs', rfl, h1', h2', h3'⟩ := h3.cons; obtain ⟨v'', vs'', rfl, ahQ, ahR, ahS⟩ := h3'.cons; obtain rfl := ahS.nil'
  exact ⟨v, v', v'', by cases args; simp_all, ⟨h1, h2⟩, ⟨h1', h2'⟩, ⟨ahQ, ahR⟩⟩
theorem JI {base : Nat} {sp : Nat → Bool} {held : Bool} : ∀ {ts : List TypeId} {vs : List Value} {ds : List (DataW H)} {p : List MemPlace}, DataW.TrodAll enc P W base sp held ts vs ds p → vs.length = ts.length ∧ ds.length = ts.length
  | [], _, _, _, h => by obtain ⟨rfl, rfl, rfl⟩ := trodAll_nil h; simp
  | t :: ts, _, _, _, h => by
    obtain ⟨v, vs1, d, ds1, a, b, rfl, rfl, rfl, _, h2⟩ := trodAll_cons h
    obtain ⟨i1, i2⟩ := JI h2
    simp [i1, i2]
theorem Hr (hl : laidOutB P = true) {W' : World} (hb : Below W.heap.size W W') : ∀ {ts : List TypeId} {vs : List Value} {ds : List (DataW H)} {p : List MemPlace}, (∀ t ∈ ts, P.readableRec t = true ∧ t < P.types.size) →
    DataW.TrodAll enc P W 0 (fun _ => true) true ts vs ds p → (∀ x ∈ p, x.block < W.heap.size) → DataW.TrodAll enc P W' 0 (fun b => decide (b < W.heap.size)) true ts vs ds p
  | [], _, _, _, _, h, _ => by obtain ⟨rfl, rfl, rfl⟩ := trodAll_nil h; exact trodAll_mk0
  | t :: ts, _, _, _, ht, h, hp => by
    obtain ⟨v, vs1, d, ds1, a, b, rfl, rfl, rfl, h1, h2⟩ := trodAll_cons h
    have hq := ht t (by simp)
    exact ⟨a, b, Below.trod hl hq.1 hq.2 h1 hb (fun x hx => hp x (by simp [hx])), Hr hl hb (fun t' h' => ht t' (by simp [h'])) h2 (fun x hx => hp x (by simp [hx])), rfl⟩
end
theorem YQ {α : Type _} {l : List α} (h : l.length = 3) : ∃ a b c, l = [a, b, c] := by match l, h with | [a, b, c], _ => exact ⟨a, b, c, rfl⟩
theorem aao {H : Type} {enc : TypeId × Value → H} {P : Program} {fn : Func} {s : ChangeSpec} {tb : TypeId} {ts : List TypeId} (laid : laidOutB P = true) (hpn : fn.params.toList = ts) (hres : fn.resultTypes = #[tb]) (htb : P.underlying tb = some .bool) (hvars : s.vars = [])
    (hts : ts.all (fun t => P.readableRec t && decide (t < P.types.size)) = true) (hspec : ∀ ds : List (DataW H), ds.length = ts.length → s.fn H ds = { results := [.lit (.bool true)], args := ds })
    {W W' : World} {args : Array Value} {ds gs : List (DataW H)} {before : List MemPlace} (hW : DataW.Whole enc P fn.params.toList s.vars false W args.toList ds gs before) (hb : Below W.heap.size W W') :
    s.post enc P fn false true false false W args (.bool true) W' := by
  have hW' := hW
  obtain ⟨p, q, hA, hV, rfl, hfz, hnd⟩ := hW
  rw [hvars] at hV
  obtain ⟨rfl, rfl⟩ : gs = [] ∧ q = [] := by cases gs <;> simp_all [DataW.TrodVars]
  have hn2 : ds.length = ts.length := by rw [← hpn]; exact (JI hA).2
  have hlt : ∀ x ∈ p, x.block < W.heap.size := fun x hx => by simpa using hW'.lt x (by simpa using hx)
  have hl := hspec ds hn2
  refine ⟨ds, [], p ++ [], [], p, [], hW', ?_, ?_, ?_, hb.frame _, fun h => by cases h⟩
  · rw [hres, List.append_nil, hl]
    exact trodAll_mk1 (shut_bool htb true)
  · rw [List.append_nil, hl]
    exact Hr laid hb (fun t ht => by simpa using List.all_eq_true.1 hts t (by rw [← hpn]; exact ht)) hA hlt
  · rw [hvars, List.append_nil, hl]
    rfl
theorem acM {H : Type} {enc : TypeId × Value → H} {P : Program} {fn : Func} {s : ChangeSpec} {ts : List TypeId} (hpn : fn.params.toList = ts) (hvars : s.vars = []) {W : World} {base : Nat} {args : Array Value} {ds gs : List (DataW H)} {before : List MemPlace}
    (hval : ∀ (j : Nat) t v, fn.params[j]? = some t → args[j]? = some v → Value.okWide P W .any base t v) (hW : DataW.Whole enc P fn.params.toList s.vars false W args.toList ds gs before)
    (hwt : (DataW.weightsEach P (fn.params.toList ++ s.plain.varTypes P) (ds ++ gs)).all (· ≤ reachBytes) = true) : Ins enc P W ts args.toList := by
  obtain ⟨p, q, hA, hV, rfl, hfz, hnd⟩ := hW
  rw [hvars] at hV
  obtain ⟨rfl, rfl⟩ : gs = [] ∧ q = [] := by cases gs <;> simp_all [DataW.TrodVars]
  have hw2 : ∀ n ∈ DataW.weightsEach P fn.params.toList ds, n ≤ reachBytes := by
    have e0 : s.plain.varTypes P = [] := by simp [ChangeSpec.plain, DataSpec.varTypes, hvars]
    rw [e0, List.append_nil, List.append_nil] at hwt
    simpa using hwt
  obtain ⟨hn1, hn2, hin⟩ := JH hA hw2
  rw [← hpn]
  exact DV.mk hn1 fun j t v ht hv => ⟨⟨base, hval j t v (by simpa using ht) (by simpa using hv)⟩, hin j t v ht hv⟩
theorem Oq {H : Type} {enc : TypeId × Value → H} {a : Assume} {C : Checked} {os : Os} {f : FuncId} {fn : Func} {s : ChangeSpec} {conds : List PathCond} {tb : TypeId} (ts : List TypeId) {lay : List (String × DataW Unit)}
    (own : ownKnob C.prog.godebug = none) (laid : laidOutB C.prog = true) (started : os.Started) (noInit : C.prog.inits.idxOf? f = none) (hfn : C.prog.funcs[f]? = some fn)
    (hpn : fn.params.toList = ts) (hres : fn.resultTypes = #[tb]) (htb : C.prog.underlying tb = some .bool) (hvars : s.vars = [])
    (hts : ts.all (fun t => C.prog.readableRec t && decide (t < C.prog.types.size)) = true)
    (hspec : ∀ ds : List (DataW H), ds.length = ts.length → s.fn H ds = { results := [.lit (.bool true)], args := ds })
    (witness : ∃ (w : World) (tape : Tape) (i : Input), w.os = os ∧ (w.forCall tape i).Shaped C.prog ∧ i.vars = [] ∧ Input.okWide C.prog (w.forCall tape i) .any w.heap.size f i ∧
      ((s.pre enc C.prog fn conds false (w.forCall tape i).memory i.args ∧ laidMetH C.prog lay (w.forCall tape i).memory) ∧ sizedMet enc C.prog fn (OpenSpec.ofChange s) false (w.forCall tape i).memory i.args) ∧ a.holds C.prog (lone (Frame.enter C.prog f i.args .normal) [] (w.forCall tape i)))
    (walk : ∀ (W : World) (args : Array Value), laidMetH C.prog lay W → Ins enc C.prog W ts args.toList → iQ C.prog f args W fun v W' => v = .bool true ∧ Below W.heap.size W W') :
    ReturnsInHanded a C os f .any (fun w args => (s.pre enc C.prog fn conds false w args ∧ laidMetH C.prog lay w) ∧ sizedMet enc C.prog fn (OpenSpec.ofChange s) false w args) (s.post enc C.prog fn false true false false) := by
  refine returnsInHanded_of_change_and (X := fun w _ => laidMetH C.prog lay w) (fun _ _ _ hh h => h.of_heap hh) own started noInit hfn witness ?_
  intro W base args ds gs before hval hW hcnd hwt hL hh
  exact Calls.mono (walk W args hL (acM hpn hvars hval hW hwt)) fun e W' ⟨v, he, hv, hb⟩ => ⟨v, he, by subst hv; exact aao laid hpn hres htb hvars hts hspec hW hb⟩
end Go.Proofs.YtpdeedplgmbopaaGreatDoor
end
section
namespace Go.Proofs.YtpdeedplgmbopaaGreatDoor

theorem own : ownKnob Tryz.prog.godebug = none := by kernel_rfl
theorem laid : laidOutB Tryz.prog = true := by kernel_rfl
end Go.Proofs.YtpdeedplgmbopaaGreatDoor
end
section
namespace Go.Proofs.YtpdeedplgmbopaaGreatDoor
open Go.RowKit
section
variable {P : Program} {L : List (Nat × Value)} {w0 w : World} {F : HP} {ty : TypeId}
def wS (P : Program) (fv : Value) (vs : List Value) (w : World) (T : Value → World → Prop) : Prop :=
  ∃ f first cap fn c, fv = .func (.func f) (List.toArray first) (List.toArray cap) ∧ P.funcs[f]? = some fn ∧ (fn.name == "runtime.NumGoroutine") = false ∧ fn.body = some c ∧ iQ P f (first ++ vs ++ cap).toArray w T
theorem qN {x : Operand} {args : List Operand} {ts : Array TypeId} {fv : Value} {vs : List Value} {T : Value → World → Prop} (hx : ev L x = some fv) (ha : FV L args = some vs) (h : wS P fv vs w T) :
    xU P L (.call ⟨.value x, args.toArray, ts⟩) ty w T := by
  obtain ⟨f, first, cap, fn, c, rfl, hf, hn, hb, hr⟩ := h
  exact yU (Vz hx ha hf hn hb) hr
def ajl (P : Program) (w0 : World) (F : HP) (fv : Value) (g : Int → Bool) : Prop :=
  fv.oneCell' = true ∧ ∀ (G : HP) (W : World), V w0 W (G • F) → ∀ r, wS P fv [.int .i32 r] W fun v W' => v = .bool (g r) ∧ V w0 W' (G • F)
theorem JJ {t e s n : Nat} {x : Operand} {b o : Nat} (ht : P.underlying t = some (.array n e)) (hs : ∀ w, (sizeOf e).run P w = .ok s w) (hx : ev L x = some (.pointer (some ⟨b, o, none⟩))) :
    Val P L (.slice t x none none none) ty w (.slice (some ⟨b, o, none⟩) n n) w := fun ρ hρ d pos qK g => by
  simp [execOp, hρ _ _ hx, Instr.sliceAt, run_underlying ht, Instr.sliceBounds, Instr.sureAddr, hs, Addr.add]
end
def FK (I : Hp) (k : IntKind) (v : Value) (l : List Int) : Prop := ∃ a c, v = .slice a l.length c ∧ l.length ≤ c ∧ (c : Int) ≤ 9223372036854775807 ∧
  (0 < l.length → ∃ b o cs e fr, a = some ⟨b, o, none⟩ ∧ I b = some (.cells cs e fr) ∧ ∀ j, j < l.length → cs[o + j]? = some (.int k (l.getD j 0)))
theorem FK.mono {I I' : Hp} {k : IntKind} {v : Value} {l : List Int} (hl : Hp.le I I') (h : FK I k v l) : FK I' k v l := by
  obtain ⟨a, c, h1, h2, h3, h4⟩ := h
  exact ⟨a, c, h1, h2, h3, fun hp => let ⟨b, o, cs, e, fr, e1, e2, e3⟩ := h4 hp; ⟨b, o, cs, e, fr, e1, hl _ _ e2, e3⟩⟩
def pF (k : IntKind) (v : Value) (l : List Int) : HP := know (fun I => FK I k v l) fun _ _ hl h => h.mono hl
theorem fJ.mk {w : World} {k : IntKind} {v : Value} {l : List Int} {a : Option Addr} {c : Nat} (h1 : v = .slice a l.length c) (h2 : l.length ≤ c) (h3 : (c : Int) ≤ 9223372036854775807)
    (h4 : 0 < l.length → ∃ b o, a = some ⟨b, o, none⟩ ∧ ∀ j, j < l.length → w.cell? ⟨b, o + j, none⟩ = some (.int k (l.getD j 0))) : fJ w k v l := by
  refine ⟨by simp, a, c, h1, h2, h3, fun hp => ?_⟩
  obtain ⟨b, o, e, hc⟩ := h4 hp
  refine ⟨b, o, e, fun j hj => ?_⟩
  rw [hc j (by omega)]
  simp [List.getD_eq_getElem?_getD, show j < l.length by omega]
theorem FK.rd {w : World} {n : Nat} {I : Hp} {k : IntKind} {v : Value} {l : List Int} (h : FK I k v l) (hI : ∀ k o, I k = some o → n ≤ k ∧ w.heap[k]? = some o) : fJ w k v l := by
  obtain ⟨a, c, h1, h2, h3, h4⟩ := h
  exact fJ.mk h1 h2 h3 fun hp => let ⟨b, o, cs, e, fr, e1, e2, e3⟩ := h4 hp; ⟨b, o, e1, fun j hj => kS (hI _ _ e2).2 (e3 j hj)⟩
section
variable {w0 w : World} {F : HP} {e : TypeId} {k : IntKind} {v : Value} {l : List Int}
theorem V.kD (H : V w0 w (pF k v l • F)) : fJ w k v l := let ⟨I, h, hI⟩ := H.uZ; h.rd hI
theorem rX {K K' : Hp → Prop} {hK : ∀ I I', Hp.le I I' → K I → K I'} {hK' : ∀ I I', Hp.le I I' → K' I → K' I'} (h : ∀ I, K I → K' I) (B : HP) : Qv (know K hK • B) (know K' hK' • B) := fun I x ha =>
  (rQ K' hK' B I x).2 ⟨h I ((rQ K hK B I x).1 ha).1, ((rQ K hK B I x).1 ha).2⟩
theorem sW {K K' M : Hp → Prop} {hK : ∀ I I', Hp.le I I' → K I → K I'} {hK' : ∀ I I', Hp.le I I' → K' I → K' I'} {hM : ∀ I I', Hp.le I I' → M I → M I'} (h : ∀ I, K I → K' I → M I) (B : HP) : Qv (know K hK • know K' hK' • B) (know M hM • B) := fun I x ha => by
  have h1 := (rQ K hK _ I x).1 ha
  have h2 := (rQ K' hK' _ I x).1 h1.2
  exact (rQ M hM B I x).2 ⟨h I h1.1 h2.1, h2.2⟩
theorem V.zn {K : Hp → Prop} {hK : ∀ I I', Hp.le I I' → K I → K I'} (h : ∀ I, K I) (H : V w0 w F) : V w0 w (know K hK • F) := H.GY fun I x ha => (rQ K hK F I x).2 ⟨h I, ha⟩
theorem V.mY (H : V w0 w (jw e k v l • F)) : V w0 w (pF k v l • F) := by
  rcases H.uO with ⟨a, rfl, h1, h2, H1⟩ | ⟨g, o, c, cur, rfl, h2, h3, h4, h5, H1⟩
  · have hl : l = [] := by simpa using h2
    subst hl
    exact H1.Qw.GY fun I x ha => (rQ _ _ F I x).2 ⟨⟨a, 0, rfl, by simp, by decide, fun h => by simp at h⟩, by rw [Go.Proofs.YtpdeedplgmbopaaGreatDoor.qL] at ha; exact ha⟩
  · refine H1.freeze.GY (rX (fun I hI => ⟨_, c, rfl, h2, h3, fun _ => ⟨g, o, cur, e, (0, 0), rfl, hI, fun j hj => ?_⟩⟩) F)
    rw [h5 j (by omega)]
    simp [List.getD_eq_getElem?_getD, hj]
end
end Go.Proofs.YtpdeedplgmbopaaGreatDoor
end
