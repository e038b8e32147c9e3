import Derived.Test.YtpdeedplgmbopaaGreatDoorZ2
import Derived.Test.YtpdeedplgmbopaaGreatDoorZ3
import Derived.Test.YtpdeedplgmbopaaGreatDoorProg
import Derived.ProofKit
import Derived.HandedShaped
import Derived.LaidMore
import Derived.OpenShut
import Derived.Stop.Joined
import Derived.Test.YtpdeedplgmbopaaGreatDoorRows
set_option linter.unusedSimpArgs false
set_option linter.unusedVariables false
/- Texts of mine, joined, their names in short: Short2 Inf Lift Own Fun Imm. -/
section
namespace Go.Proofs.YtpdeedplgmbopaaGreatDoor
open Go.RowKit
theorem O {α : Sort _} {a : α} : a = a := rfl
theorem aJ {v : Value} {l : List Value} (k : ∀ u ∈ l, u.oneCell' = true) (h : v.oneCell' = true := by first | rfl | assumption) : ∀ u ∈ v :: l, u.oneCell' = true := bG h k
theorem Cells.on {i o : Nat} {pl : List (Nat × Nat)} {z : List Value} {vs : List (Nat × Value)} {cs : List Value} {v zv : Value} (k : Cells (i + 1) (o + 1) pl z vs cs) (h : v.oneCell' = true := by first | rfl | assumption) : Cells i o ((o, 1) :: pl) (zv :: z) ((i, v) :: vs) (v :: cs) := .one h k
section
variable {L : List (Nat × Value)} {M : List (Nat × Value)} {i j k l m n o p : Nat} {v v1 v2 v3 v4 v5 v6 v7 : Value}
theorem lH (h : look L i = some v := by exact rfl) : Sub [(i, v)] L := .cons h (.nil _)
theorem sG (h : look L i = some v := by exact rfl) (h1 : look L j = some v1 := by exact rfl) : Sub [(i, v), (j, v1)] L := .cons h (lH h1)
theorem wW (h : look L i = some v := by exact rfl) (h1 : look L j = some v1 := by exact rfl) (h2 : look L k = some v2 := by exact rfl) : Sub [(i, v), (j, v1), (k, v2)] L := .cons h (sG h1 h2)
theorem FC (h : look L i = some v := by exact rfl) (h1 : look L j = some v1 := by exact rfl) (h2 : look L k = some v2 := by exact rfl) (h3 : look L l = some v3 := by exact rfl) : Sub [(i, v), (j, v1), (k, v2), (l, v3)] L := .cons h (wW h1 h2 h3)
theorem sb5 (h : look L i = some v := by exact rfl) (h1 : look L j = some v1 := by exact rfl) (h2 : look L k = some v2 := by exact rfl) (h3 : look L l = some v3 := by exact rfl) (h4 : look L m = some v4 := by exact rfl) : Sub [(i, v), (j, v1), (k, v2), (l, v3), (m, v4)] L := .cons h (FC h1 h2 h3 h4)
theorem sb6 (h : look L i = some v := by exact rfl) (h1 : look L j = some v1 := by exact rfl) (h2 : look L k = some v2 := by exact rfl) (h3 : look L l = some v3 := by exact rfl) (h4 : look L m = some v4 := by exact rfl) (h5 : look L n = some v5 := by exact rfl) : Sub [(i, v), (j, v1), (k, v2), (l, v3), (m, v4), (n, v5)] L := .cons h (sb5 h1 h2 h3 h4 h5)
end
section
variable {P : Program} {N : Sh} {Q : Exit → Act → World → Prop} {L : List (Nat × Value)} {w w' : World} {ops : Array Oper} {rest : List Oper} {op : Op} {ty ty' : TypeId} {pos pos' : String} {sU aiV : Array Edge} {d d' : Nat} {v v' : Value} {x y : Operand} {C D : Code} {id : Nat} {l : List Oper}
theorem iR (h : WC P N C Q L w) : WL P N ops (Exit.then (C.wpIn (fz N.ro) 0 P Q) Q) [] L w := bT (aU h)
theorem fO (hx : ev L x = some v) (h : WC P N C Q ((d, v) :: L) w) (hd : d < N.n := by exact gV rfl) : WL P N ops (Exit.then (C.wpIn (fz N.ro) 0 P Q) Q) [⟨some d, .assign x, ty, pos, sU, none⟩] L w := gW hx (iR h) hd
theorem jg (h : WL P N l.toArray (Exit.then (C.wpIn (fz N.ro) 0 P Q) Q) l L w) (hd : N.ro = none ∨ su l = true := by first | exact .inl rfl | exact .inr rfl) : WC P N (.seq (.region id l.toArray false) C) Q L w := aI (aF h hd)
theorem bI (hx : ev L x = some v) (h : WL P N (⟨some d, .move x, ty, pos, sU, none⟩ :: l).toArray (Exit.then (C.wpIn (fz N.ro) 0 P Q) Q) l ((d, v) :: L) w) (hd : N.ro = none ∨ su (⟨some d, .move x, ty, pos, sU, none⟩ :: l) = true := by first | exact .inl rfl | exact .inr rfl) (hn : d < N.n := by exact gV rfl) :
    WC P N (.seq (.region id (⟨some d, .move x, ty, pos, sU, none⟩ :: l).toArray false) C) Q L w := jg (bW hx h hn) hd
theorem kH (hx : ev L x = some v) (h : WC P N C Q ((d, v) :: L) w) (hd : N.ro = none ∨ su [⟨some d, .assign x, ty, pos, sU, none⟩] = true := by first | exact .inl rfl | exact .inr rfl) (hn : d < N.n := by exact gV rfl) :
    WC P N (.seq (.region id [⟨some d, .assign x, ty, pos, sU, none⟩].toArray false) C) Q L w := jg (fO hx h hn) hd
theorem fP (hx : ev L x = some v) (h : WQ N Q .ret ((d, v) :: L) w) (hd : d < N.n := by exact gV rfl) : WL P N ops (Exit.then (Code.ret.wpIn (fz N.ro) 0 P Q) Q) [⟨some d, .assign x, ty, pos, sU, none⟩] L w := fO hx (iL h) hd
theorem zk7 (h : WL P N l.toArray (Exit.then (C.wpIn (fz N.ro) 0 P Q) Q) l L w) (hd : N.ro = none ∨ su l = true := by first | exact .inl rfl | exact .inr rfl) :
    WL P N ops (Exit.then ((Code.seq (.region id l.toArray false) C).wpIn (fz N.ro) 0 P Q) Q) [] L w := iR (jg h hd)
theorem uS (hx : ev L x = some v) (h : WL P N (⟨some d, .move x, ty, pos, sU, none⟩ :: l).toArray (Exit.then (C.wpIn (fz N.ro) 0 P Q) Q) l ((d, v) :: L) w) (hd : N.ro = none ∨ su (⟨some d, .move x, ty, pos, sU, none⟩ :: l) = true := by first | exact .inl rfl | exact .inr rfl) (hn : d < N.n := by exact gV rfl) :
    WL P N ops (Exit.then ((Code.seq (.region id (⟨some d, .move x, ty, pos, sU, none⟩ :: l).toArray false) C).wpIn (fz N.ro) 0 P Q) Q) [] L w := iR (bI hx h hd hn)
theorem jS (hx : ev L x = some v) (h : WQ N Q .ret ((d, v) :: L) w) (hd : N.ro = none ∨ su [⟨some d, .assign x, ty, pos, sU, none⟩] = true := by first | exact .inl rfl | exact .inr rfl) (hn : d < N.n := by exact gV rfl) :
    WC P N (.seq (.region id [⟨some d, .assign x, ty, pos, sU, none⟩].toArray false) .ret) Q L w := kH hx (iL h) hd hn
theorem gy (h : WC P N C Q L w) : WC P N .skip (Exit.then (C.wpIn (fz N.ro) 0 P Q) Q) L w := bU (aU h)
theorem iW {b : Bool} (hx : ev L x = some (.bool b)) (ht : b = true → WC P N C Q L w) (hf : b = false → WC P N D Q L w) : WL P N ops (Exit.then ((Code.cond x C D).wpIn (fz N.ro) 0 P Q) Q) [] L w := iR (bg hx ht hf)
theorem zkc (h : WQ N Q .ret L w) : WL P N ops (Exit.then (Code.ret.wpIn (fz N.ro) 0 P Q) Q) [] L w := iR (iL h)
theorem rW (h : WC P N C (Exit.then (D.wpIn (fz N.ro) 0 P Q) Q) L w) : WL P N ops (Exit.then ((Code.seq C D).wpIn (fz N.ro) 0 P Q) Q) [] L w := iR (aI h)
theorem tX (hx : ev L x = some v) (h : WC P N C (Exit.then (D.wpIn (fz N.ro) 0 P Q) Q) ((d, v) :: L) w) (hd : d < N.n := by exact gV rfl) : WL P N ops (Exit.then ((Code.seq C D).wpIn (fz N.ro) 0 P Q) Q) [⟨some d, .assign x, ty, pos, sU, none⟩] L w := fO hx (aI h) hd
theorem jU (hx : ev L x = some v) (hy : ev ((d, v) :: L) y = some v') (h : WL P N ops Q rest ((d', v') :: (d, v) :: L) w) (hd : d < N.n := by exact gV rfl) (hd' : d' < N.n := by exact gV rfl) : WL P N ops Q (⟨some d, .move x, ty, pos, sU, none⟩ :: ⟨some d', .move y, ty', pos', aiV, none⟩ :: rest) L w := bW hx (bW hy h hd') hd
theorem mX {a : Addr} (hx : ev L x = some v) (hy : ev ((d, v) :: L) y = some (.pointer (some a))) (h : WL P N ops Q rest ((d', .pointer (some a)) :: (d, v) :: L) w) (hd : d < N.n := by exact gV rfl) (hd' : d' < N.n := by exact gV rfl) : WL P N ops Q (⟨some d, .move x, ty, pos, sU, none⟩ :: ⟨some d', .nilCheck y, ty', pos', aiV, none⟩ :: rest) L w := bW hx (dV hy h hd') hd
theorem wcA {b : Bool} (hx : ev L x = some (.bool b)) (ht : b = true → WC P N C Q L w) (hf : b = false → False := by intro h; (try simp only [Z] at h); first | contradiction | omega | (simp at h <;> omega)) : WC P N (.cond x C D) Q L w := bg hx ht fun h => (hf h).elim
theorem Yk {b : Bool} (hx : ev L x = some (.bool b)) (hf : b = false → WC P N D Q L w) (ht : b = true → False := by intro h; (try simp only [Z] at h); first | contradiction | omega | (simp at h <;> omega)) : WC P N (.cond x C D) Q L w := bg hx (fun h => (ht h).elim) hf
theorem wcE {b : Bool} (hx : ev L x = some (.bool b)) (ht : b = true → WC P N C Q L w) (hf : b = false → False := by intro h; (try simp only [Z] at h); simp at h) : WC P N (.cond x C D) Q L w := bg hx ht fun h => (hf h).elim
theorem JF {b : Bool} (hx : ev L x = some (.bool b)) (hf : b = false → WC P N D Q L w) (ht : b = true → False := by intro h; (try simp only [Z] at h); simp at h) : WC P N (.cond x C D) Q L w := bg hx (fun h => (ht h).elim) hf
theorem xsA {b : Bool} (hx : ev L x = some (.bool b)) (ht : b = true → WL P N ops Q rest ((d, .bool true) :: L) w) (hf : b = false → False := by intro h; (try simp only [Z] at h); first | contradiction | omega | (simp at h <;> omega)) (hd : d < N.n := by exact gV rfl) : WL P N ops Q (⟨some d, .move x, ty, pos, sU, none⟩ :: rest) L w := jY hx ht (fun h => (hf h).elim) hd
theorem xsB {b : Bool} (hx : ev L x = some (.bool b)) (hf : b = false → WL P N ops Q rest ((d, .bool false) :: L) w) (ht : b = true → False := by intro h; (try simp only [Z] at h); first | contradiction | omega | (simp at h <;> omega)) (hd : d < N.n := by exact gV rfl) : WL P N ops Q (⟨some d, .move x, ty, pos, sU, none⟩ :: rest) L w := jY hx (fun h => (ht h).elim) hf hd
theorem xsE {b : Bool} (hx : ev L x = some (.bool b)) (ht : b = true → WL P N ops Q rest ((d, .bool true) :: L) w) (hf : b = false → False := by intro h; (try simp only [Z] at h); simp at h) (hd : d < N.n := by exact gV rfl) : WL P N ops Q (⟨some d, .move x, ty, pos, sU, none⟩ :: rest) L w := jY hx ht (fun h => (hf h).elim) hd
theorem OB {b : Bool} (hx : ev L x = some (.bool b)) (hf : b = false → WL P N ops Q rest ((d, .bool false) :: L) w) (ht : b = true → False := by intro h; (try simp only [Z] at h); simp at h) (hd : d < N.n := by exact gV rfl) : WL P N ops Q (⟨some d, .move x, ty, pos, sU, none⟩ :: rest) L w := jY hx (fun h => (ht h).elim) hf hd
end
section
variable {N : Sh} {L : List (Nat × Value)} {w : World} {P : Program} {fn : Func} {S : Value → World → Prop} {t u : Nat} {v x : Value}
theorem we0 (hr : fn.results = #[]) (h : S (.tuple #[]) w) (hd : N.ds = [] := by rfl) : WQ N (qP P fn S) .ret L w := oU (.inl rfl) hr h hd
theorem dL (hr : fn.results = #[.tmp t]) (hv : look L t = some v) (h : S v w) (hd : N.ds = [] := by rfl) : WQ N (qP P fn S) .ret L w := ae3 (.inl rfl) hr hv h hd
theorem MO (hr : fn.results = #[.tmp t, .tmp u]) (hv : look L t = some v) (hx : look L u = some x) (h : S (.tuple #[v, x]) w) (hd : N.ds = [] := by rfl) : WQ N (qP P fn S) .ret L w := ae4 (.inl rfl) hr hv hx h hd
end
section
variable {P : Program} {L : List (Nat × Value)} {w0 w : World} {F : HP} {ty : TypeId} {t : TypeId} {b : Nat} {l : List Value} {et : TypeId} {u : Value} {x y : Operand}
theorem st2 (o : Nat) {x0 x1 : Value} (H : V w0 w (gJ b (.cells l.toArray et (0, 0)) • F)) (hs : ∀ w, (sizeOf t).run P w = .ok 1 w) (hx : ev L x = some (.pointer (some ⟨b, o, none⟩)) := by exact rfl) (hy : ev L y = some u := by exact rfl) (h1 : u.oneCell' = true := by first | rfl | assumption)
    (ho : Nat.ble (o + 1) l.length = true := by exact rfl) (hl : l.set o u = [x0, x1] := by exact rfl) : zU P L (.store t x y) ty w fun _ w' => V w0 w' (gJ b (.cells [x0, x1].toArray et (0, 0)) • F) := ig o H hs hx hy h1 ho hl
theorem st3 (o : Nat) {x0 x1 x2 : Value} (H : V w0 w (gJ b (.cells l.toArray et (0, 0)) • F)) (hs : ∀ w, (sizeOf t).run P w = .ok 1 w) (hx : ev L x = some (.pointer (some ⟨b, o, none⟩)) := by exact rfl) (hy : ev L y = some u := by exact rfl) (h1 : u.oneCell' = true := by first | rfl | assumption)
    (ho : Nat.ble (o + 1) l.length = true := by exact rfl) (hl : l.set o u = [x0, x1, x2] := by exact rfl) : zU P L (.store t x y) ty w fun _ w' => V w0 w' (gJ b (.cells [x0, x1, x2].toArray et (0, 0)) • F) := ig o H hs hx hy h1 ho hl
theorem st5 (o : Nat) {x0 x1 x2 x3 x4 : Value} (H : V w0 w (gJ b (.cells l.toArray et (0, 0)) • F)) (hs : ∀ w, (sizeOf t).run P w = .ok 1 w) (hx : ev L x = some (.pointer (some ⟨b, o, none⟩)) := by exact rfl) (hy : ev L y = some u := by exact rfl) (h1 : u.oneCell' = true := by first | rfl | assumption)
    (ho : Nat.ble (o + 1) l.length = true := by exact rfl) (hl : l.set o u = [x0, x1, x2, x3, x4] := by exact rfl) : zU P L (.store t x y) ty w fun _ w' => V w0 w' (gJ b (.cells [x0, x1, x2, x3, x4].toArray et (0, 0)) • F) := ig o H hs hx hy h1 ho hl
theorem nO (o : Nat) {x0 x1 x2 x3 x4 x5 x6 x7 x8 x9 x10 x11 x12 BK x14 x15 x16 : Value} (H : V w0 w (gJ b (.cells l.toArray et (0, 0)) • F)) (hs : ∀ w, (sizeOf t).run P w = .ok 1 w) (hx : ev L x = some (.pointer (some ⟨b, o, none⟩)) := by exact rfl) (hy : ev L y = some u := by exact rfl) (h1 : u.oneCell' = true := by first | rfl | assumption)
    (ho : Nat.ble (o + 1) l.length = true := by exact rfl) (hl : l.set o u = [x0, x1, x2, x3, x4, x5, x6, x7, x8, x9, x10, x11, x12, BK, x14, x15, x16] := by exact rfl) : zU P L (.store t x y) ty w fun _ w' => V w0 w' (gJ b (.cells [x0, x1, x2, x3, x4, x5, x6, x7, x8, x9, x10, x11, x12, BK, x14, x15, x16].toArray et (0, 0)) • F) := ig o H hs hx hy h1 ho hl
theorem iw (o : Nat) {x0 x1 x2 x3 x4 x5 x6 x7 x8 x9 x10 x11 x12 BK x14 x15 x16 x17 x18 x19 x20 x21 Dn x23 x24 x25 Dp x27 x28 x29 x30 x31 x32 Eb : Value} (H : V w0 w (gJ b (.cells l.toArray et (0, 0)) • F)) (hs : ∀ w, (sizeOf t).run P w = .ok 1 w) (hx : ev L x = some (.pointer (some ⟨b, o, none⟩)) := by exact rfl) (hy : ev L y = some u := by exact rfl) (h1 : u.oneCell' = true := by first | rfl | assumption)
    (ho : Nat.ble (o + 1) l.length = true := by exact rfl) (hl : l.set o u = [x0, x1, x2, x3, x4, x5, x6, x7, x8, x9, x10, x11, x12, BK, x14, x15, x16, x17, x18, x19, x20, x21, Dn, x23, x24, x25, Dp, x27, x28, x29, x30, x31, x32, Eb] := by exact rfl) : zU P L (.store t x y) ty w fun _ w' => V w0 w' (gJ b (.cells [x0, x1, x2, x3, x4, x5, x6, x7, x8, x9, x10, x11, x12, BK, x14, x15, x16, x17, x18, x19, x20, x21, Dn, x23, x24, x25, Dp, x27, x28, x29, x30, x31, x32, Eb].toArray et (0, 0)) • F) := ig o H hs hx hy h1 ho hl
theorem qJ (o : Nat) {x0 x1 x2 x3 x4 x5 x6 x7 x8 x9 x10 x11 x12 BK x14 x15 x16 x17 x18 x19 x20 x21 Dn x23 x24 x25 Dp x27 x28 x29 x30 x31 x32 Eb x34 Vz VA VB x38 x39 x40 x41 : Value} (H : V w0 w (gJ b (.cells l.toArray et (0, 0)) • F)) (hs : ∀ w, (sizeOf t).run P w = .ok 1 w) (hx : ev L x = some (.pointer (some ⟨b, o, none⟩)) := by exact rfl) (hy : ev L y = some u := by exact rfl) (h1 : u.oneCell' = true := by first | rfl | assumption)
    (ho : Nat.ble (o + 1) l.length = true := by exact rfl) (hl : l.set o u = [x0, x1, x2, x3, x4, x5, x6, x7, x8, x9, x10, x11, x12, BK, x14, x15, x16, x17, x18, x19, x20, x21, Dn, x23, x24, x25, Dp, x27, x28, x29, x30, x31, x32, Eb, x34, Vz, VA, VB, x38, x39, x40, x41] := by exact rfl) : zU P L (.store t x y) ty w fun _ w' => V w0 w' (gJ b (.cells [x0, x1, x2, x3, x4, x5, x6, x7, x8, x9, x10, x11, x12, BK, x14, x15, x16, x17, x18, x19, x20, x21, Dn, x23, x24, x25, Dp, x27, x28, x29, x30, x31, x32, Eb, x34, Vz, VA, VB, x38, x39, x40, x41].toArray et (0, 0)) • F) := ig o H hs hx hy h1 ho hl
end
section
variable {P : Program} {f n : Nat} {fn : Func} {c : Code} {a b d e g h : Value} {S : Value → World → Prop} {w : World}
theorem aaY (hf : P.funcs[f]? = some fn) (hN : fn.ntmps = n) (k : WC P (Sh.of n) c (qP P fn S) [] w) (hb : fn.body = some c := by exact rfl) (hl : 0 ≤ n := by exact Nat.le_of_ble_eq_true rfl) : jf P f #[] w S := xqR hf hN k hb hl
theorem jE (hf : P.funcs[f]? = some fn) (hN : fn.ntmps = n) (k : WC P (Sh.of n) c (qP P fn S) [(0, a)] w) (hb : fn.body = some c := by exact rfl) (hl : 1 ≤ n := by exact Nat.le_of_ble_eq_true rfl) : jf P f #[a] w S := xqR hf hN k hb hl
theorem qo (hf : P.funcs[f]? = some fn) (hN : fn.ntmps = n) (k : WC P (Sh.of n) c (qP P fn S) [(0, a), (1, b)] w) (hb : fn.body = some c := by exact rfl) (hl : 2 ≤ n := by exact Nat.le_of_ble_eq_true rfl) : jf P f #[a, b] w S := xqR hf hN k hb hl
theorem EU (hf : P.funcs[f]? = some fn) (hN : fn.ntmps = n) (k : WC P (Sh.of n) c (qP P fn S) [(0, a), (1, b), (2, d)] w) (hb : fn.body = some c := by exact rfl) (hl : 3 ≤ n := by exact Nat.le_of_ble_eq_true rfl) : jf P f #[a, b, d] w S := xqR hf hN k hb hl
theorem Ug (hf : P.funcs[f]? = some fn) (hN : fn.ntmps = n) (k : WC P (Sh.of n) c (qP P fn S) [(0, a), (1, b), (2, d), (3, e)] w) (hb : fn.body = some c := by exact rfl) (hl : 4 ≤ n := by exact Nat.le_of_ble_eq_true rfl) : jf P f #[a, b, d, e] w S := xqR hf hN k hb hl
theorem akg (hf : P.funcs[f]? = some fn) (hN : fn.ntmps = n) (k : WC P (Sh.of n) c (qP P fn S) [(0, a), (1, b), (2, d), (3, e), (4, g)] w) (hb : fn.body = some c := by exact rfl) (hl : 5 ≤ n := by exact Nat.le_of_ble_eq_true rfl) : jf P f #[a, b, d, e, g] w S := xqR hf hN k hb hl
end
end Go.Proofs.YtpdeedplgmbopaaGreatDoor
end
section
namespace Go.Proofs.YtpdeedplgmbopaaGreatDoor
open Go.RowKit
open _root_.Go.Proofs.Tryz
theorem adg : (prog.info? 133).map (fun i => (i.zero, i.size, i.bytes)) = some (some (.agg #[.int .i64 0, .string .empty]), 2, 24) := by kernel_rfl
theorem DF : (prog.info? 189).map (fun i => (i.zero, i.size, i.bytes)) = some (some (.agg #[.int .i64 0, .slice none 0 0, .slice none 0 0]), 3, 56) := by kernel_rfl
theorem XD : (prog.info? 21).map (fun i => (i.zero, i.size, i.bytes)) = some (some (.int .i32 0), 1, 4) := by kernel_rfl
theorem aia : (prog.info? 218).map (fun i => (i.zero, i.size, i.bytes)) = some (some (.agg #[.string .empty, .int .i64 0]), 2, 24) := by kernel_rfl
theorem agM : (prog.info? 22).map (fun i => (i.zero, i.size, i.bytes)) = some (some (.slice none 0 0), 1, 24) := by kernel_rfl
theorem aeH : (prog.info? 226).map (fun i => (i.zero, i.size, i.bytes)) = some (some (.slice none 0 0), 1, 24) := by kernel_rfl
theorem aj4 : (prog.info? 3).map (fun i => (i.zero, i.size, i.bytes)) = some (some (.int .i64 0), 1, 8) := by kernel_rfl
theorem Na : (prog.info? 80).map (fun i => (i.zero, i.size, i.bytes)) = some (some (.slice none 0 0), 1, 24) := by kernel_rfl
theorem afT : (prog.info? 9).map (fun i => (i.zero, i.size, i.bytes)) = some (some (.string .empty), 1, 16) := by kernel_rfl
theorem aiB : (prog.info? 172).map (·.size) = some 12 := by kernel_rfl
theorem xQ : (prog.info? 189).map (·.size) = some 3 := by kernel_rfl
theorem Y0 : (prog.info? 218).map (·.size) = some 2 := by kernel_rfl
theorem acz : (prog.info? 46).map (·.size) = some 3 := by kernel_rfl
theorem agN : (prog.info? 50).map (·.size) = some 17 := by kernel_rfl
theorem ajm : (prog.info? 77).map (·.size) = some 11 := by kernel_rfl
theorem qM : type_of% @results11 := @results11
theorem jw : type_of% @results124 := @results124
theorem wX : type_of% @results145 := @results145
theorem sN : type_of% @results160 := @results160
theorem qc : type_of% @results163 := @results163
theorem sS : type_of% @results168 := @results168
theorem aiN : type_of% @results17 := @results17
theorem dO : type_of% @results184 := @results184
theorem sO : type_of% @results189 := @results189
theorem sQ : type_of% @results190 := @results190
theorem qV : type_of% @results199 := @results199
theorem mg : type_of% @results202 := @results202
theorem iF : type_of% @results31 := @results31
theorem eF : type_of% @results47 := @results47
theorem rG : type_of% @sizeOf117 := @sizeOf117
theorem tK : type_of% @sizeOf166 := @sizeOf166
theorem iU : type_of% @sizeOf172 := @sizeOf172
theorem dB : type_of% @sizeOf189 := @sizeOf189
theorem fV : type_of% @sizeOf2 := @sizeOf2
theorem bP : type_of% @sizeOf21 := @sizeOf21
theorem bD : type_of% @sizeOf22 := @sizeOf22
theorem iZ : type_of% @sizeOf226 := @sizeOf226
theorem fC : type_of% @sizeOf233 := @sizeOf233
theorem aj : type_of% @sizeOf3 := @sizeOf3
theorem fA : type_of% @sizeOf37 := @sizeOf37
theorem aT : type_of% @sizeOf4 := @sizeOf4
theorem qH : type_of% @sizeOf41 := @sizeOf41
theorem jC : type_of% @sizeOf50 := @sizeOf50
theorem nX : type_of% @sizeOf72 := @sizeOf72
theorem aY : type_of% @sizeOf77 := @sizeOf77
theorem dA : type_of% @sizeOf80 := @sizeOf80
theorem kM : type_of% @sizeOf9 := @sizeOf9
theorem xw : type_of% @underlying104 := @underlying104
theorem mQ : type_of% @underlying113 := @underlying113
theorem rH : type_of% @underlying115 := @underlying115
theorem jl : type_of% @underlying117 := @underlying117
theorem fZ : type_of% @underlying119 := @underlying119
theorem jk : type_of% @underlying122 := @underlying122
theorem aB : type_of% @underlying130 := @underlying130
theorem jB : type_of% @underlying149 := @underlying149
theorem pO : type_of% @underlying151 := @underlying151
theorem pK : type_of% @underlying153 := @underlying153
theorem pX : type_of% @underlying155 := @underlying155
theorem jM : type_of% @underlying166 := @underlying166
theorem jT : type_of% @underlying167 := @underlying167
theorem ql : type_of% @underlying168 := @underlying168
theorem mV : type_of% @underlying170 := @underlying170
theorem fG : type_of% @underlying172 := @underlying172
theorem aX : type_of% @underlying174 := @underlying174
theorem bn : type_of% @underlying189 := @underlying189
theorem bZ : type_of% @underlying197 := @underlying197
theorem gq : type_of% @underlying2 := @underlying2
theorem dP : type_of% @underlying207 := @underlying207
theorem bC : type_of% @underlying21 := @underlying21
theorem pW : type_of% @underlying218 := @underlying218
theorem ah : type_of% @underlying22 := @underlying22
theorem cO : type_of% @underlying226 := @underlying226
theorem dD : type_of% @underlying233 := @underlying233
theorem dw : type_of% @underlying235 := @underlying235
theorem aA : type_of% @underlying3 := @underlying3
theorem kQ : type_of% @underlying33 := @underlying33
theorem bY : type_of% @underlying37 := @underlying37
theorem bJ : type_of% @underlying4 := @underlying4
theorem jG : type_of% @underlying41 := @underlying41
theorem fK : type_of% @underlying46 := @underlying46
theorem gQ : type_of% @underlying47 := @underlying47
theorem kP : type_of% @underlying48 := @underlying48
theorem aG : type_of% @underlying50 := @underlying50
theorem jX : type_of% @underlying72 := @underlying72
theorem wC : type_of% @underlying73 := @underlying73
theorem oV : type_of% @underlying74 := @underlying74
theorem oW : type_of% @underlying75 := @underlying75
theorem aS : type_of% @underlying77 := @underlying77
theorem nK : type_of% @underlying78 := @underlying78
theorem aZ : type_of% @underlying80 := @underlying80
theorem ay : type_of% @underlying82 := @underlying82
theorem tH : type_of% @underlying87 := @underlying87
theorem iD : type_of% @underlying9 := @underlying9
theorem sW : type_of% @zeroValue122 := @zeroValue122
theorem fJ : type_of% @zeroValue189 := @zeroValue189
theorem lW : type_of% @zeroValue21 := @zeroValue21
theorem kW : type_of% @zeroValue50 := @zeroValue50
theorem qR : type_of% @zeroValue77 := @zeroValue77
theorem qQ : type_of% @zeroValue80 := @zeroValue80
end Go.Proofs.YtpdeedplgmbopaaGreatDoor
end
section
namespace Go.Proofs.YtpdeedplgmbopaaGreatDoor
open Go.ChangeShapes Go.WideShapes Go.ChangeAt Go.RowKit
section
variable {H : Type} {enc : TypeId × Value → H} {P : Program} {W : World} {B : Nat}
def Jg (B : Nat) (enc : TypeId × Value → H) (P : Program) (W : World) (t : TypeId) (cs : List Value) : Prop :=
  ∃ fuel d p, DataW.trod enc P W 0 (fun _ => true) true fuel t cs = some (d, p) ∧ ∀ n ∈ d.weights P t, n ≤ B
abbrev In (enc : TypeId × Value → H) (P : Program) (W : World) (t : TypeId) (cs : List Value) : Prop := Jg reachBytes enc P W t cs
theorem Jg.bool {t : TypeId} {cs : List Value} (ht : P.underlying t = some .bool) (h : Jg B enc P W t cs) : ∃ b, cs = [.bool b] := by
  obtain ⟨fuel, d, p, h1, -⟩ := h; obtain ⟨b, e, -⟩ := DataW.trod_bool ht h1; exact ⟨b, e⟩
theorem Jg.int {t : TypeId} {cs : List Value} {k : IntKind} (ht : P.underlying t = some (.int k)) (h : Jg B enc P W t cs) : ∃ n, cs = [.int k n] ∧ (Lit.int k n).wf = true := by
  obtain ⟨fuel, d, p, h1, -⟩ := h; obtain ⟨n, e, -, hw⟩ := DataW.trod_int ht h1; exact ⟨n, e, hw⟩
theorem Jg.string {t : TypeId} {cs : List Value} (ht : P.underlying t = some .string) (h : Jg B enc P W t cs) : ∃ s : ByteArray, cs = [.string s] ∧ s.size ≤ B := by
  obtain ⟨fuel, d, p, h1, hw⟩ := h; obtain ⟨s, e, hx, hm⟩ := DataW.trod_string ht h1
  simp only [Prod.mk.injEq] at hx
  obtain ⟨rfl, -⟩ := hx
  have h2 := hw s.data.toList.length (by simp only [DataW.weights, List.mem_singleton])
  rw [Array.length_toList] at h2
  exact ⟨s, e, h2⟩
theorem NH {ts : List TypeId} {ds : List (DataW H)} {j : Nat} {t : TypeId} {d : DataW H} (ht : ts[j]? = some t) (hd : ds[j]? = some d) (h : ∀ n ∈ DataW.weightsEach P ts ds, n ≤ B) : ∀ n ∈ d.weights P t, n ≤ B :=
  fun n hn => h n (DataW.weights_mem_each ht hd n hn)
theorem OC {e : TypeId} {ds : List (DataW H)} {d : DataW H} (hd : d ∈ ds) (h : ∀ n ∈ DataW.weightsAll P e ds, n ≤ B) : ∀ n ∈ d.weights P e, n ≤ B := by
  intro n hn
  induction ds with
  | nil => cases hd
  | cons x r ih =>
    simp only [DataW.weightsAll, List.mem_append] at h
    rcases List.mem_cons.1 hd with rfl | hd
    · exact h n (.inl hn)
    · exact ih hd fun n hn => h n (.inr hn)
theorem Jg.struct {t : TypeId} {fs : Array Field} {cs : List Value} (ht : P.underlying t = some (.struct fs)) (h : Jg B enc P W t cs) :
    cs.length = P.cellsOf t ∧ ∀ (i : Nat) (f : Field), fs[i]? = some f → Jg B enc P W f.type ((cs.drop f.offset).take (P.cellsOf f.type)) := by
  obtain ⟨fuel, d, p, h1, hw⟩ := h
  obtain ⟨xs, n, -, hx, hl, hl2, hf⟩ := DataW.trod_struct ht h1
  simp only [Prod.mk.injEq] at hx
  obtain ⟨rfl, -⟩ := hx
  refine ⟨hl, fun i f hi => ?_⟩
  have hlt : i < xs.length := by rw [hl2]; exact (Array.getElem?_eq_some_iff.1 hi).1
  refine ⟨n, xs[i].1, xs[i].2, by rw [hf i f hi, List.getElem?_eq_getElem hlt], ?_⟩
  simp only [DataW.weights, ht] at hw
  exact NH (ts := fs.toList.map (·.type)) (ds := xs.map (·.1)) (j := i) (by simp [hi]) (by simp [List.getElem?_eq_getElem hlt]) hw
theorem Jg.slice {t e : TypeId} {cs : List Value} (ht : P.underlying t = some (.slice e)) (hz : 0 < P.cellsOf e) (h : Jg B enc P W t cs) :
    ∃ v n xs, cs = [v] ∧ Rd W (P.cellsOf e) v n xs ∧ n * P.bytesOf e ≤ B ∧ ∀ k, k < n → Jg B enc P W e ((xs.drop (k * P.cellsOf e)).take (P.cellsOf e)) := by
  obtain ⟨fuel, d, p, h1, hw⟩ := h
  rcases DataW.trod_slice ht h1 with ⟨rfl, hx⟩ | ⟨a, len, cap, elems, rest, n, -, rfl, hx, -, hl, hm, hel, hget, -⟩
  · exact ⟨_, 0, [], rfl, ⟨by simp, none, 0, rfl, by simp, by decide, fun h => absurd h (by decide)⟩, by simp, fun k hk => absurd hk (by omega)⟩
  simp only [Prod.mk.injEq] at hx
  obtain ⟨rfl, -⟩ := hx
  simp only [DataW.weights, ht, List.mem_cons, List.mem_append] at hw
  have h2 := hw _ (.inl rfl)
  simp only [List.length_map] at h2
  have key : ∀ i, i < len → ∃ cs, W.cells? 0 (a.add (i * P.cellsOf e)) (P.cellsOf e) = some cs ∧ Jg B enc P W e cs := by
    intro i hi
    have h3 := hget i hi
    have hi2 : i < elems.length := by omega
    rw [List.getElem?_eq_getElem hi2] at h3
    obtain ⟨cs, e1, e2⟩ := Option.bind_eq_some_iff.1 h3
    exact ⟨cs, e1, n, elems[i].1, elems[i].2, e2, fun m hm => OC (ds := elems.map (·.1)) (List.mem_map.2 ⟨elems[i], List.getElem_mem hi2, rfl⟩) (fun n hn => hw n (.inr (.inl hn))) m hm⟩
  obtain ⟨C, hC⟩ : ∃ C : Nat → List Value, ∀ i, i < len → W.cells? 0 (a.add (i * P.cellsOf e)) (P.cellsOf e) = some (C i) ∧ Jg B enc P W e (C i) := by
    classical
    exact ⟨fun i => if hi : i < len then Classical.choose (key i hi) else [], fun i hi => by simp only [dif_pos hi]; exact Classical.choose_spec (key i hi)⟩
  have spot : 0 < len → a.spot = none := by
    intro hp
    obtain ⟨-, -, hc⟩ := World.cells?_some (hC 0 hp).1
    have h3 := hc 0 hz
    have hlen := (World.cells?_some (hC 0 hp).1).2.1
    rw [List.getElem?_eq_getElem (by omega)] at h3
    simp only [Nat.zero_mul, Addr.add, if_true] at h3
    unfold World.cell? at h3
    cases hs : a.spot with
    | none => rfl
    | some q => rw [hs] at h3; split at h3 <;> simp at h3
  let xs : List Value := (List.range len).flatMap C
  have hlC : ∀ i, i < len → (C i).length = P.cellsOf e := fun i hi => (World.cells?_some (hC i hi).1).2.1
  have aco : ∀ m, m ≤ len → ((List.range m).flatMap C).length = m * P.cellsOf e := by
    intro m hm
    induction m with
    | zero => simp
    | succ m ih => rw [List.range_succ, List.flatMap_append, List.length_append, ih (by omega)]; simp [hlC m (by omega), Nat.succ_mul]
  have hcut : ∀ k, k < len → ((xs.drop (k * P.cellsOf e)).take (P.cellsOf e)) = C k := by
    intro k hk
    show ((((List.range len).flatMap C).drop (k * P.cellsOf e)).take (P.cellsOf e)) = C k
    have e1 : List.range len = List.range k ++ [k] ++ (List.range (len - (k + 1))).map ((k + 1) + ·) := by
      have := @List.range_add (k + 1) (len - (k + 1))
      rw [show k + 1 + (len - (k + 1)) = len by omega] at this
      rw [this, List.range_succ]
    have hk1 := aco k (by omega)
    have hck := hlC k hk
    rw [e1, List.flatMap_append, List.flatMap_append, List.append_assoc]
    rw [List.drop_append, hk1]
    simp [hk1, List.take_append, hck]
  refine ⟨_, len, xs, rfl, ⟨aco len (Nat.le_refl _), some a, cap, rfl, hl, by unfold maxLen at hm; omega, fun hp => ⟨a.block, a.off, ?_, fun j hj => ?_⟩⟩, ?_, fun k hk => ?_⟩
  · have := spot hp; cases a; simp_all
  · have hk : j / P.cellsOf e < len := Nat.div_lt_of_lt_mul (by rw [Nat.mul_comm]; exact hj)
    have hr : j % P.cellsOf e < P.cellsOf e := Nat.mod_lt _ hz
    have hc := (World.cells?_some (hC _ hk).1).2.2 _ hr
    have e0 : a = ⟨a.block, a.off, none⟩ := by have := spot hp; cases a; simp_all
    have ej : j / P.cellsOf e * P.cellsOf e + j % P.cellsOf e = j := by rw [Nat.mul_comm]; exact Nat.div_add_mod ..
    rw [e0, yM, yM, Nat.add_assoc, ej] at hc
    rw [hc, ← hcut _ hk, List.getElem?_take_of_lt hr, List.getElem?_drop, ej, List.getD_eq_getElem?_getD, List.getElem?_eq_getElem (by show j < ((List.range len).flatMap C).length; rw [aco len (Nat.le_refl _)]; exact hj)]
    rfl
  · have : len * P.bytesOf e ≤ (elems.length + rest.length) * P.bytesOf e := Nat.mul_le_mul_right _ (by omega)
    omega
  · rw [hcut k hk]; exact (hC k hk).2
theorem Jg.ints {t e : TypeId} {k : IntKind} {cs : List Value} (ht : P.underlying t = some (.slice e)) (he : P.underlying e = some (.int k)) (hc : P.cellsOf e = 1) (h : Jg B enc P W t cs) :
    ∃ v l, cs = [v] ∧ gB W k v l ∧ l.length * P.bytesOf e ≤ B ∧ ∀ n ∈ l, (Lit.int k n).wf = true := by
  obtain ⟨v, n, xs, e1, h1, h2, h3⟩ := h.slice ht (by omega)
  rw [hc] at h1 h3
  have hx : ∀ i, i < n → ∃ m, xs[i]? = some (.int k m) ∧ (Lit.int k m).wf = true := by
    intro i hi
    obtain ⟨m, e2, hw⟩ := (h3 i hi).int he
    have hl := h1.len
    refine ⟨m, ?_, hw⟩
    have := congrArg (fun l => l[0]?) e2
    simpa [List.getElem?_take, List.getElem?_drop] using this
  let l := xs.map fun | .int _ m => m | _ => 0
  have hl : l.length = n := by simp only [l, List.length_map]; have := h1.len; omega
  have hxs : xs = l.map (Value.int k) := by
    apply List.ext_getElem?
    intro i
    by_cases hi : i < n
    · obtain ⟨m, e2, -⟩ := hx i hi
      simp [l, e2]
    · have : xs.length ≤ i := by have := h1.len; omega
      simp [l, List.getElem?_eq_none this]
  refine ⟨v, l, e1, by rw [gB, hl, ← hxs]; exact h1, by rw [hl]; exact h2, fun m hm => ?_⟩
  obtain ⟨i, hi⟩ := List.getElem?_of_mem hm
  have hi2 : i < n := by have := (List.getElem?_eq_some_iff.1 hi).1; omega
  obtain ⟨m', e2, hw⟩ := hx i hi2
  simp only [l, List.getElem?_map, e2, Option.map_some, Option.some.injEq] at hi
  subst hi
  exact hw
theorem afe {α : Type _} [Inhabited α] {n : Nat} {p : Nat → α → Prop} (h : ∀ k, k < n → ∃ l, p k l) (d : α) : ∃ ls : List α, ls.length = n ∧ ∀ k, k < n → p k (ls.getD k d) := by
  induction n with
  | zero => exact ⟨[], rfl, fun k hk => absurd hk (by omega)⟩
  | succ n ih =>
    obtain ⟨ls, h1, h2⟩ := ih fun k hk => h k (by omega)
    obtain ⟨l, hl⟩ := h n (by omega)
    refine ⟨ls ++ [l], by simp [h1], fun k hk => ?_⟩
    by_cases hkn : k < n
    · rw [List.getD_eq_getElem?_getD, List.getElem?_append_left (by omega), ← List.getD_eq_getElem?_getD]; exact h2 k hkn
    · obtain rfl : k = n := by omega
      rw [List.getD_eq_getElem?_getD, List.getElem?_append_right (by omega), h1, Nat.sub_self]; exact hl
theorem Jg.row {t e q : TypeId} {k : IntKind} {cs : List Value} (ht : P.underlying t = some (.slice e)) (he : P.underlying e = some (.slice q)) (hq : P.underlying q = some (.int k)) (ce : P.cellsOf e = 1) (cq : P.cellsOf q = 1) (h : Jg B enc P W t cs) :
    ∃ (v : Value) (vs : List Value) (ls : List (List Int)), cs = [v] ∧ Rd W 1 v ls.length vs ∧ ls.length * P.bytesOf e ≤ B ∧ ∀ j, j < ls.length → gB W k (vs.getD j undef) (ls.getD j []) ∧ (ls.getD j []).length * P.bytesOf q ≤ B ∧ ∀ n ∈ ls.getD j [], (Lit.int k n).wf = true := by
  obtain ⟨v, n, vs, e1, h1, h2, h3⟩ := h.slice ht (by omega)
  rw [ce] at h1 h3
  obtain ⟨ls, rfl, hls⟩ := afe (n := n) (p := fun j l => gB W k (vs.getD j undef) l ∧ l.length * P.bytesOf q ≤ B ∧ ∀ n ∈ l, (Lit.int k n).wf = true) (fun j hj => by
    obtain ⟨u, l, e3, g4, hb4, hw⟩ := (h3 j hj).ints he hq cq
    obtain rfl : vs.getD j undef = u := by
      have := congrArg (fun l => l[0]?) e3
      simp [List.getElem?_drop] at this
      rw [List.getD_eq_getElem?_getD, this]; rfl
    exact ⟨l, g4, hb4, hw⟩) []
  exact ⟨v, vs, ls, e1, h1, h2, hls⟩
theorem MQ : ∀ {ts : List TypeId} {vs : List Value} {ds : List (DataW H)} {p : List MemPlace}, DataW.TrodAll enc P W 0 (fun _ => true) true ts vs ds p → (∀ n ∈ DataW.weightsEach P ts ds, n ≤ B) →
    vs.length = ts.length ∧ ds.length = ts.length ∧ ∀ (j : Nat) t v, ts[j]? = some t → vs[j]? = some v → Jg B enc P W t v.cells.toList
  | [], _, _, _, h, _ => by obtain ⟨rfl, rfl, rfl⟩ := trodAll_nil h; simp
  | t :: ts, _, _, _, h, hw => by
    obtain ⟨v, vs1, d, ds1, a, b, rfl, rfl, rfl, ⟨fuel, h1⟩, h2⟩ := trodAll_cons h
    simp only [DataW.weightsEach, List.mem_append] at hw
    obtain ⟨i1, i2, i3⟩ := MQ h2 fun n hn => hw n (.inr hn)
    refine ⟨by simp [i1], by simp [i2], fun j t' v' ht hv => ?_⟩
    cases j with
    | zero =>
      simp only [List.getElem?_cons_zero, Option.some.injEq] at ht hv
      subst ht; subst hv
      exact ⟨fuel, d, a, h1, fun n hn => hw n (.inl hn)⟩
    | succ j => exact i3 j t' v' (by simpa using ht) (by simpa using hv)
def Gx (B : Nat) (enc : TypeId × Value → H) (P : Program) (W : World) : List TypeId → List Value → Prop
  | [], [] => True
  | t :: ts, v :: vs => (∃ base, Value.okWide P W .any base t v) ∧ Jg B enc P W t v.cells.toList ∧ Gx B enc P W ts vs
  | _, _ => False
abbrev Ins (enc : TypeId × Value → H) (P : Program) (W : World) (ts : List TypeId) (vs : List Value) : Prop := Gx reachBytes enc P W ts vs
theorem Gx.mk : ∀ {ts : List TypeId} {vs : List Value}, vs.length = ts.length → (∀ (j : Nat) t v, ts[j]? = some t → vs[j]? = some v → (∃ base, Value.okWide P W .any base t v) ∧ Jg B enc P W t v.cells.toList) → Gx B enc P W ts vs
  | [], [], _, _ => trivial
  | t :: ts, v :: vs, h, k => ⟨(k 0 t v rfl rfl).1, (k 0 t v rfl rfl).2, Gx.mk (by simpa using h) fun j t' v' ht hv => k (j + 1) t' v' (by simpa using ht) (by simpa using hv)⟩
  | [], _ :: _, h, _ => by simp at h
  | _ :: _, [], h, _ => by simp at h
theorem Gx.nil {args : Array Value} (h : Gx B enc P W [] args.toList) : args = #[] := by rcases args with ⟨_ | ⟨_, _⟩⟩ <;> simp_all [Gx]
theorem Gx.cons {t : TypeId} {ts : List TypeId} {vs : List Value} (h : Gx B enc P W (t :: ts) vs) : ∃ v vs', vs = v :: vs' ∧ (∃ base, Value.okWide P W .any base t v) ∧ Jg B enc P W t v.cells.toList ∧ Gx B enc P W ts vs' := by
  cases vs with
  | nil => exact h.elim
  | cons v vs' => exact ⟨v, vs', rfl, h⟩
theorem Gx.nil' {vs : List Value} (h : Gx B enc P W [] vs) : vs = [] := by cases vs with | nil => rfl | cons _ _ => exact h.elim
theorem Gx.one {args : Array Value} {t : TypeId} (h : Gx B enc P W [t] args.toList) : ∃ v, args = #[v] ∧ (∃ base, Value.okWide P W .any base t v) ∧ Jg B enc P W t v.cells.toList := by
  obtain ⟨v, vs, e, h1, h2, h3⟩ := h.cons; obtain rfl := h3.nil'; exact ⟨v, by cases args; simp_all, h1, h2⟩
theorem Gx.two {args : Array Value} {t t' : TypeId} (h : Gx B enc P W [t, t'] args.toList) : ∃ v v', args = #[v, v'] ∧ ((∃ base, Value.okWide P W .any base t v) ∧ Jg B enc P W t v.cells.toList) ∧ ((∃ base, Value.okWide P W .any base t' v') ∧ Jg B enc P W t' v'.cells.toList) := by
  obtain ⟨v, vs, e, h1, h2, h3⟩ := h.cons; obtain ⟨v', vs', rfl, h1', h2', h3'⟩ := h3.cons; obtain rfl := h3'.nil'
  exact ⟨v, v', by cases args; simp_all, ⟨h1, h2⟩, ⟨h1', h2'⟩⟩
theorem MR {base : Nat} {sp : Nat → Bool} {held : Bool} : ∀ {ts : List TypeId} {vs : List Value} {ds : List (DataW H)} {p : List MemPlace}, DataW.TrodAll enc P W base sp held ts vs ds p → vs.length = ts.length ∧ ds.length = ts.length
  | [], _, _, _, h => by obtain ⟨rfl, rfl, rfl⟩ := trodAll_nil h; simp
  | t :: ts, _, _, _, h => by
    obtain ⟨v, vs1, d, ds1, a, b, rfl, rfl, rfl, _, h2⟩ := trodAll_cons h
    obtain ⟨i1, i2⟩ := MR h2
    simp [i1, i2]
theorem Ko (hl : laidOutB P = true) {W' : World} (hb : Below W.heap.size W W') : ∀ {ts : List TypeId} {vs : List Value} {ds : List (DataW H)} {p : List MemPlace}, (∀ t ∈ ts, P.readableRec t = true ∧ t < P.types.size) →
    DataW.TrodAll enc P W 0 (fun _ => true) true ts vs ds p → (∀ x ∈ p, x.block < W.heap.size) → DataW.TrodAll enc P W' 0 (fun b => decide (b < W.heap.size)) true ts vs ds p
  | [], _, _, _, _, h, _ => by obtain ⟨rfl, rfl, rfl⟩ := trodAll_nil h; exact trodAll_mk0
  | t :: ts, _, _, _, ht, h, hp => by
    obtain ⟨v, vs1, d, ds1, a, b, rfl, rfl, rfl, h1, h2⟩ := trodAll_cons h
    have hq := ht t (by simp)
    exact ⟨a, b, Below.trod hl hq.1 hq.2 h1 hb (fun x hx => hp x (by simp [hx])), Ko hl hb (fun t' h' => ht t' (by simp [h'])) h2 (fun x hx => hp x (by simp [hx])), rfl⟩
end
theorem aff {α : Type _} {l : List α} (h : l.length = 2) : ∃ a b, l = [a, b] := by match l, h with | [a, b], _ => exact ⟨a, b, rfl⟩
theorem acp {H : Type} {enc : TypeId × Value → H} {P : Program} {fn : Func} {s : ChangeSpec} {tb : TypeId} {ts : List TypeId} (laid : laidOutB P = true) (hpn : fn.params.toList = ts) (hres : fn.resultTypes = #[tb]) (htb : P.underlying tb = some .bool) (hvars : s.vars = [])
    (hts : ts.all (fun t => P.readableRec t && decide (t < P.types.size)) = true) (hspec : ∀ ds : List (DataW H), ds.length = ts.length → s.fn H ds = { results := [.lit (.bool true)], args := ds })
    {W W' : World} {args : Array Value} {ds gs : List (DataW H)} {before : List MemPlace} (hW : DataW.Whole enc P fn.params.toList s.vars false W args.toList ds gs before) (hb : Below W.heap.size W W') :
    s.post enc P fn false true false false W args (.bool true) W' := by
  have hW' := hW
  obtain ⟨p, q, hA, hV, rfl, hfz, hnd⟩ := hW
  rw [hvars] at hV
  obtain ⟨rfl, rfl⟩ : gs = [] ∧ q = [] := by cases gs <;> simp_all [DataW.TrodVars]
  have hn2 : ds.length = ts.length := by rw [← hpn]; exact (MR hA).2
  have hlt : ∀ x ∈ p, x.block < W.heap.size := fun x hx => by simpa using hW'.lt x (by simpa using hx)
  have hl := hspec ds hn2
  refine ⟨ds, [], p ++ [], [], p, [], hW', ?_, ?_, ?_, hb.frame _, fun h => by cases h⟩
  · rw [hres, List.append_nil, hl]
    exact trodAll_mk1 (shut_bool htb true)
  · rw [List.append_nil, hl]
    exact Ko laid hb (fun t ht => by simpa using List.all_eq_true.1 hts t (by rw [← hpn]; exact ht)) hA hlt
  · rw [hvars, List.append_nil, hl]
    rfl
theorem afg {H : Type} {enc : TypeId × Value → H} {P : Program} {fn : Func} {s : ChangeSpec} {ts : List TypeId} (hpn : fn.params.toList = ts) (hvars : s.vars = []) {W : World} {base : Nat} {args : Array Value} {ds gs : List (DataW H)} {before : List MemPlace}
    (hval : ∀ (j : Nat) t v, fn.params[j]? = some t → args[j]? = some v → Value.okWide P W .any base t v) (hW : DataW.Whole enc P fn.params.toList s.vars false W args.toList ds gs before)
    (hwt : (DataW.weightsEach P (fn.params.toList ++ s.plain.varTypes P) (ds ++ gs)).all (· ≤ reachBytes) = true) : Ins enc P W ts args.toList := by
  obtain ⟨p, q, hA, hV, rfl, hfz, hnd⟩ := hW
  rw [hvars] at hV
  obtain ⟨rfl, rfl⟩ : gs = [] ∧ q = [] := by cases gs <;> simp_all [DataW.TrodVars]
  have hw2 : ∀ n ∈ DataW.weightsEach P fn.params.toList ds, n ≤ reachBytes := by
    have e0 : s.plain.varTypes P = [] := by simp [ChangeSpec.plain, DataSpec.varTypes, hvars]
    rw [e0, List.append_nil, List.append_nil] at hwt
    simpa using hwt
  obtain ⟨hn1, hn2, hin⟩ := MQ hA hw2
  rw [← hpn]
  exact Gx.mk hn1 fun j t v ht hv => ⟨⟨base, hval j t v (by simpa using ht) (by simpa using hv)⟩, hin j t v ht hv⟩
theorem QX {H : Type} {enc : TypeId × Value → H} {a : Assume} {C : Checked} {os : Os} {f : FuncId} {fn : Func} {s : ChangeSpec} {conds : List PathCond} {tb : TypeId} (ts : List TypeId) {lay : List (String × DataW Unit)}
    (own : ownKnob C.prog.godebug = none) (laid : laidOutB C.prog = true) (started : os.Started) (noInit : C.prog.inits.idxOf? f = none) (hfn : C.prog.funcs[f]? = some fn)
    (hpn : fn.params.toList = ts) (hres : fn.resultTypes = #[tb]) (htb : C.prog.underlying tb = some .bool) (hvars : s.vars = [])
    (hts : ts.all (fun t => C.prog.readableRec t && decide (t < C.prog.types.size)) = true)
    (hspec : ∀ ds : List (DataW H), ds.length = ts.length → s.fn H ds = { results := [.lit (.bool true)], args := ds })
    (witness : ∃ (w : World) (tape : Tape) (i : Input), w.os = os ∧ (w.forCall tape i).Shaped C.prog ∧ i.vars = [] ∧ Input.okWide C.prog (w.forCall tape i) .any w.heap.size f i ∧
      ((s.pre enc C.prog fn conds false (w.forCall tape i).memory i.args ∧ laidMetH C.prog lay (w.forCall tape i).memory) ∧ sizedMet enc C.prog fn (OpenSpec.ofChange s) false (w.forCall tape i).memory i.args) ∧ a.holds C.prog (lone (Frame.enter C.prog f i.args .normal) [] (w.forCall tape i)))
    (walk : ∀ (W : World) (args : Array Value), laidMetH C.prog lay W → Ins enc C.prog W ts args.toList → jf C.prog f args W fun v W' => v = .bool true ∧ Below W.heap.size W W') :
    ReturnsInHanded a C os f .any (fun w args => (s.pre enc C.prog fn conds false w args ∧ laidMetH C.prog lay w) ∧ sizedMet enc C.prog fn (OpenSpec.ofChange s) false w args) (s.post enc C.prog fn false true false false) := by
  refine returnsInHanded_of_change_and (X := fun w _ => laidMetH C.prog lay w) (fun _ _ _ hh h => h.of_heap hh) own started noInit hfn witness ?_
  intro W base args ds gs before hval hW hcnd hwt hL hh
  exact Calls.mono (walk W args hL (afg hpn hvars hval hW hwt)) fun e W' ⟨v, he, hv, hb⟩ => ⟨v, he, by subst hv; exact acp laid hpn hres htb hvars hts hspec hW hb⟩
end Go.Proofs.YtpdeedplgmbopaaGreatDoor
end
section
namespace Go.Proofs.YtpdeedplgmbopaaGreatDoor

theorem own : ownKnob Tryz.prog.godebug = none := by kernel_rfl
theorem laid : laidOutB Tryz.prog = true := by kernel_rfl
end Go.Proofs.YtpdeedplgmbopaaGreatDoor
end
section
namespace Go.Proofs.YtpdeedplgmbopaaGreatDoor
open Go.RowKit
section
variable {P : Program} {L : List (Nat × Value)} {w0 w : World} {F : HP} {ty : TypeId}
def zo (P : Program) (fv : Value) (vs : List Value) (w : World) (T : Value → World → Prop) : Prop :=
  ∃ f first cap fn c, fv = .func (.func f) (List.toArray first) (List.toArray cap) ∧ P.funcs[f]? = some fn ∧ (fn.name == "runtime.NumGoroutine") = false ∧ fn.body = some c ∧ jf P f (first ++ vs ++ cap).toArray w T
theorem uF {x : Operand} {args : List Operand} {ts : Array TypeId} {fv : Value} {vs : List Value} {T : Value → World → Prop} (hx : ev L x = some fv) (ha : Je L args = some vs) (h : zo P fv vs w T) :
    zU P L (.call ⟨.value x, args.toArray, ts⟩) ty w T := by
  obtain ⟨f, first, cap, fn, c, rfl, hf, hn, hb, hr⟩ := h
  exact uU (Yc hx ha hf hn hb) hr
def alK (P : Program) (w0 : World) (F : HP) (fv : Value) (g : Int → Bool) : Prop :=
  fv.oneCell' = true ∧ ∀ (G : HP) (W : World), V w0 W (G • F) → ∀ r, zo P fv [.int .i32 r] W fun v W' => v = .bool (g r) ∧ V w0 W' (G • F)
theorem MS {t e s n : Nat} {x : Operand} {b o : Nat} (ht : P.underlying t = some (.array n e)) (hs : ∀ w, (sizeOf e).run P w = .ok s w) (hx : ev L x = some (.pointer (some ⟨b, o, none⟩))) :
    Val P L (.slice t x none none none) ty w (.slice (some ⟨b, o, none⟩) n n) w := fun ρ hρ d pos sU g => by
  simp [execOp, hρ _ _ hx, Instr.sliceAt, run_underlying ht, Instr.sliceBounds, Instr.sureAddr, hs, Addr.add]
end
def I8 (I : Hp) (k : IntKind) (v : Value) (l : List Int) : Prop := ∃ a c, v = .slice a l.length c ∧ l.length ≤ c ∧ (c : Int) ≤ 9223372036854775807 ∧
  (0 < l.length → ∃ b o cs e fr, a = some ⟨b, o, none⟩ ∧ I b = some (.cells cs e fr) ∧ ∀ j, j < l.length → cs[o + j]? = some (.int k (l.getD j 0)))
theorem I8.mono {I I' : Hp} {k : IntKind} {v : Value} {l : List Int} (hl : Hp.le I I') (h : I8 I k v l) : I8 I' k v l := by
  obtain ⟨a, c, h1, h2, h3, h4⟩ := h
  exact ⟨a, c, h1, h2, h3, fun hp => let ⟨b, o, cs, e, fr, e1, e2, e3⟩ := h4 hp; ⟨b, o, cs, e, fr, e1, hl _ _ e2, e3⟩⟩
def qZ (k : IntKind) (v : Value) (l : List Int) : HP := know (fun I => I8 I k v l) fun _ _ hl h => h.mono hl
theorem gB.mk {w : World} {k : IntKind} {v : Value} {l : List Int} {a : Option Addr} {c : Nat} (h1 : v = .slice a l.length c) (h2 : l.length ≤ c) (h3 : (c : Int) ≤ 9223372036854775807)
    (h4 : 0 < l.length → ∃ b o, a = some ⟨b, o, none⟩ ∧ ∀ j, j < l.length → w.cell? ⟨b, o + j, none⟩ = some (.int k (l.getD j 0))) : gB w k v l := by
  refine ⟨by simp, a, c, h1, h2, h3, fun hp => ?_⟩
  obtain ⟨b, o, e, hc⟩ := h4 hp
  refine ⟨b, o, e, fun j hj => ?_⟩
  rw [hc j (by omega)]
  simp [List.getD_eq_getElem?_getD, show j < l.length by omega]
theorem I8.rd {w : World} {n : Nat} {I : Hp} {k : IntKind} {v : Value} {l : List Int} (h : I8 I k v l) (hI : ∀ k o, I k = some o → n ≤ k ∧ w.heap[k]? = some o) : gB w k v l := by
  obtain ⟨a, c, h1, h2, h3, h4⟩ := h
  exact gB.mk h1 h2 h3 fun hp => let ⟨b, o, cs, e, fr, e1, e2, e3⟩ := h4 hp; ⟨b, o, e1, fun j hj => iI (hI _ _ e2).2 (e3 j hj)⟩
section
variable {w0 w : World} {F : HP} {e : TypeId} {k : IntKind} {v : Value} {l : List Int}
theorem V.lK (H : V w0 w (qZ k v l • F)) : gB w k v l := let ⟨I, h, hI⟩ := H.yL; h.rd hI
theorem vG {K K' : Hp → Prop} {hK : ∀ I I', Hp.le I I' → K I → K I'} {hK' : ∀ I I', Hp.le I I' → K' I → K' I'} (h : ∀ I, K I → K' I) (B : HP) : TV (know K hK • B) (know K' hK' • B) := fun I x ha =>
  (vC K' hK' B I x).2 ⟨h I ((vC K hK B I x).1 ha).1, ((vC K hK B I x).1 ha).2⟩
theorem vH {K K' M : Hp → Prop} {hK : ∀ I I', Hp.le I I' → K I → K I'} {hK' : ∀ I I', Hp.le I I' → K' I → K' I'} {hM : ∀ I I', Hp.le I I' → M I → M I'} (h : ∀ I, K I → K' I → M I) (B : HP) : TV (know K hK • know K' hK' • B) (know M hM • B) := fun I x ha => by
  have h1 := (vC K hK _ I x).1 ha
  have h2 := (vC K' hK' _ I x).1 h1.2
  exact (vC M hM B I x).2 ⟨h I h1.1 h2.1, h2.2⟩
theorem V.BU {K : Hp → Prop} {hK : ∀ I I', Hp.le I I' → K I → K I'} (h : ∀ I, K I) (H : V w0 w F) : V w0 w (know K hK • F) := H.JD fun I x ha => (vC K hK F I x).2 ⟨h I, ha⟩
theorem V.oC (H : V w0 w (je e k v l • F)) : V w0 w (qZ k v l • F) := by
  rcases H.xZ with ⟨a, rfl, h1, h2, H1⟩ | ⟨g, o, c, cur, rfl, h2, h3, h4, h5, H1⟩
  · have hl : l = [] := by simpa using h2
    subst hl
    exact H1.TW.JD fun I x ha => (vC _ _ F I x).2 ⟨⟨a, 0, rfl, by simp, by decide, fun h => by simp at h⟩, by rw [Go.Proofs.YtpdeedplgmbopaaGreatDoor.tV] at ha; exact ha⟩
  · refine H1.freeze.JD (vG (fun I hI => ⟨_, c, rfl, h2, h3, fun _ => ⟨g, o, cur, e, (0, 0), rfl, hI, fun j hj => ?_⟩⟩) F)
    rw [h5 j (by omega)]
    simp [List.getD_eq_getElem?_getD, hj]
end
end Go.Proofs.YtpdeedplgmbopaaGreatDoor
end
