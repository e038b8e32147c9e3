import Derived.Test.YtimndnfpcomhlaaGreatDoorZ2
import Derived.Test.YtimndnfpcomhlaaGreatDoorZ3
import Derived.Test.YtimndnfpcomhlaaGreatDoorProg
import Derived.ProofKit
import Derived.HandedShaped
import Derived.LaidMore
import Derived.OpenShut
import Derived.Stop.Joined
import Derived.Test.YtimndnfpcomhlaaGreatDoorRows
import Derived.JoinedCond
import Derived.Deep.CondSized
import Derived.Test.YtimndnfpcomhlaaGreatDoorTie
import Derived.Lay
import Derived.Deep.DeepHandedRow
set_option linter.unusedSimpArgs false
set_option linter.unusedVariables false
/- Texts of mine, joined, their names in short: Short2 Inf Lift Own Upto ELaid Fun Imm Tab. -/
section
namespace Go.Proofs.YtimndnfpcomhlaaGreatDoor
open Go.RowKit
theorem O {α : Sort _} {a : α} : a = a := rfl
theorem aF {v : Value} {l : List Value} (k : ∀ u ∈ l, u.oneCell' = true) (h : v.oneCell' = true := by first | rfl | assumption) : ∀ u ∈ v :: l, u.oneCell' = true := aZ h k
theorem Cells.on {i o : Nat} {pl : List (Nat × Nat)} {z : List Value} {vs : List (Nat × Value)} {cs : List Value} {v zv : Value} (k : Cells (i + 1) (o + 1) pl z vs cs) (h : v.oneCell' = true := by first | rfl | assumption) : Cells i o ((o, 1) :: pl) (zv :: z) ((i, v) :: vs) (v :: cs) := .one h k
section
variable {L : List (Nat × Value)} {M : List (Nat × Value)} {i j k l m n o p : Nat} {v v1 v2 v3 v4 v5 v6 v7 : Value}
theorem sJ (h : look L i = some v := by exact rfl) : Sub [(i, v)] L := .cons h (.nil _)
theorem vT (h : look L i = some v := by exact rfl) (h1 : look L j = some v1 := by exact rfl) : Sub [(i, v), (j, v1)] L := .cons h (sJ h1)
theorem Gf (h : look L i = some v := by exact rfl) (h1 : look L j = some v1 := by exact rfl) (h2 : look L k = some v2 := by exact rfl) : Sub [(i, v), (j, v1), (k, v2)] L := .cons h (vT h1 h2)
theorem SC (h : look L i = some v := by exact rfl) (h1 : look L j = some v1 := by exact rfl) (h2 : look L k = some v2 := by exact rfl) (h3 : look L l = some v3 := by exact rfl) : Sub [(i, v), (j, v1), (k, v2), (l, v3)] L := .cons h (Gf h1 h2 h3)
theorem sb5 (h : look L i = some v := by exact rfl) (h1 : look L j = some v1 := by exact rfl) (h2 : look L k = some v2 := by exact rfl) (h3 : look L l = some v3 := by exact rfl) (h4 : look L m = some v4 := by exact rfl) : Sub [(i, v), (j, v1), (k, v2), (l, v3), (m, v4)] L := .cons h (SC h1 h2 h3 h4)
theorem sb6 (h : look L i = some v := by exact rfl) (h1 : look L j = some v1 := by exact rfl) (h2 : look L k = some v2 := by exact rfl) (h3 : look L l = some v3 := by exact rfl) (h4 : look L m = some v4 := by exact rfl) (h5 : look L n = some v5 := by exact rfl) : Sub [(i, v), (j, v1), (k, v2), (l, v3), (m, v4), (n, v5)] L := .cons h (sb5 h1 h2 h3 h4 h5)
end
section
variable {P : Program} {N : Sh} {Q : Exit → Act → World → Prop} {L : List (Nat × Value)} {w w' : World} {ops : Array Oper} {rest : List Oper} {op : Op} {ty ty' : TypeId} {pos pos' : String} {nY aax : Array Edge} {d d' : Nat} {v v' : Value} {x y : Operand} {C D : Code} {id : Nat} {l : List Oper}
theorem iT (h : WC P N C Q L w) : WL P N ops (Exit.then (C.wpIn (fz N.ro) 0 P Q) Q) [] L w := bY (bg h)
theorem gY (hx : ev L x = some v) (h : WC P N C Q ((d, v) :: L) w) (hd : d < N.n := by exact jY rfl) : WL P N ops (Exit.then (C.wpIn (fz N.ro) 0 P Q) Q) [⟨some d, .assign x, ty, pos, nY, none⟩] L w := lU hx (iT h) hd
theorem jg (h : WL P N l.toArray (Exit.then (C.wpIn (fz N.ro) 0 P Q) Q) l L w) (hd : N.ro = none ∨ nI l = true := by first | exact .inl rfl | exact .inr rfl) : WC P N (.seq (.region id l.toArray false) C) Q L w := aO (aC h hd)
theorem bM (hx : ev L x = some v) (h : WL P N (⟨some d, .move x, ty, pos, nY, none⟩ :: l).toArray (Exit.then (C.wpIn (fz N.ro) 0 P Q) Q) l ((d, v) :: L) w) (hd : N.ro = none ∨ nI (⟨some d, .move x, ty, pos, nY, none⟩ :: l) = true := by first | exact .inl rfl | exact .inr rfl) (hn : d < N.n := by exact jY rfl) :
    WC P N (.seq (.region id (⟨some d, .move x, ty, pos, nY, none⟩ :: l).toArray false) C) Q L w := jg (cZ hx h hn) hd
theorem lZ (hx : ev L x = some v) (h : WC P N C Q ((d, v) :: L) w) (hd : N.ro = none ∨ nI [⟨some d, .assign x, ty, pos, nY, none⟩] = true := by first | exact .inl rfl | exact .inr rfl) (hn : d < N.n := by exact jY rfl) :
    WC P N (.seq (.region id [⟨some d, .assign x, ty, pos, nY, none⟩].toArray false) C) Q L w := jg (gY hx h hn) hd
theorem iW (hx : ev L x = some v) (h : WQ N Q .ret ((d, v) :: L) w) (hd : d < N.n := by exact jY rfl) : WL P N ops (Exit.then (Code.ret.wpIn (fz N.ro) 0 P Q) Q) [⟨some d, .assign x, ty, pos, nY, none⟩] L w := gY hx (rV h) hd
theorem Xy (h : WL P N l.toArray (Exit.then (C.wpIn (fz N.ro) 0 P Q) Q) l L w) (hd : N.ro = none ∨ nI l = true := by first | exact .inl rfl | exact .inr rfl) :
    WL P N ops (Exit.then ((Code.seq (.region id l.toArray false) C).wpIn (fz N.ro) 0 P Q) Q) [] L w := iT (jg h hd)
theorem sU (hx : ev L x = some v) (h : WL P N (⟨some d, .move x, ty, pos, nY, none⟩ :: l).toArray (Exit.then (C.wpIn (fz N.ro) 0 P Q) Q) l ((d, v) :: L) w) (hd : N.ro = none ∨ nI (⟨some d, .move x, ty, pos, nY, none⟩ :: l) = true := by first | exact .inl rfl | exact .inr rfl) (hn : d < N.n := by exact jY rfl) :
    WL P N ops (Exit.then ((Code.seq (.region id (⟨some d, .move x, ty, pos, nY, none⟩ :: l).toArray false) C).wpIn (fz N.ro) 0 P Q) Q) [] L w := iT (bM hx h hd hn)
theorem lF (hx : ev L x = some v) (h : WQ N Q .ret ((d, v) :: L) w) (hd : N.ro = none ∨ nI [⟨some d, .assign x, ty, pos, nY, none⟩] = true := by first | exact .inl rfl | exact .inr rfl) (hn : d < N.n := by exact jY rfl) :
    WC P N (.seq (.region id [⟨some d, .assign x, ty, pos, nY, none⟩].toArray false) .ret) Q L w := lZ hx (rV h) hd hn
theorem iq (h : WC P N C Q L w) : WC P N .skip (Exit.then (C.wpIn (fz N.ro) 0 P Q) Q) L w := fU (bg h)
theorem kK {b : Bool} (hx : ev L x = some (.bool b)) (ht : b = true → WC P N C Q L w) (hf : b = false → WC P N D Q L w) : WL P N ops (Exit.then ((Code.cond x C D).wpIn (fz N.ro) 0 P Q) Q) [] L w := iT (bI hx ht hf)
theorem zkc (h : WQ N Q .ret L w) : WL P N ops (Exit.then (Code.ret.wpIn (fz N.ro) 0 P Q) Q) [] L w := iT (rV h)
theorem qj (h : WC P N C (Exit.then (D.wpIn (fz N.ro) 0 P Q) Q) L w) : WL P N ops (Exit.then ((Code.seq C D).wpIn (fz N.ro) 0 P Q) Q) [] L w := iT (aO h)
theorem tJ (hx : ev L x = some v) (h : WC P N C (Exit.then (D.wpIn (fz N.ro) 0 P Q) Q) ((d, v) :: L) w) (hd : d < N.n := by exact jY rfl) : WL P N ops (Exit.then ((Code.seq C D).wpIn (fz N.ro) 0 P Q) Q) [⟨some d, .assign x, ty, pos, nY, none⟩] L w := gY hx (aO h) hd
theorem mQ (hx : ev L x = some v) (hy : ev ((d, v) :: L) y = some v') (h : WL P N ops Q rest ((d', v') :: (d, v) :: L) w) (hd : d < N.n := by exact jY rfl) (hd' : d' < N.n := by exact jY rfl) : WL P N ops Q (⟨some d, .move x, ty, pos, nY, none⟩ :: ⟨some d', .move y, ty', pos', aax, none⟩ :: rest) L w := cZ hx (cZ hy h hd') hd
theorem ny {a : Addr} (hx : ev L x = some v) (hy : ev ((d, v) :: L) y = some (.pointer (some a))) (h : WL P N ops Q rest ((d', .pointer (some a)) :: (d, v) :: L) w) (hd : d < N.n := by exact jY rfl) (hd' : d' < N.n := by exact jY rfl) : WL P N ops Q (⟨some d, .move x, ty, pos, nY, none⟩ :: ⟨some d', .nilCheck y, ty', pos', aax, none⟩ :: rest) L w := cZ hx (dM hy h hd') hd
theorem wcA {b : Bool} (hx : ev L x = some (.bool b)) (ht : b = true → WC P N C Q L w) (hf : b = false → False := by intro h; (try simp only [aH] at h); first | contradiction | omega | (simp at h <;> omega)) : WC P N (.cond x C D) Q L w := bI hx ht fun h => (hf h).elim
theorem O7 {b : Bool} (hx : ev L x = some (.bool b)) (hf : b = false → WC P N D Q L w) (ht : b = true → False := by intro h; (try simp only [aH] at h); first | contradiction | omega | (simp at h <;> omega)) : WC P N (.cond x C D) Q L w := bI hx (fun h => (ht h).elim) hf
theorem wcE {b : Bool} (hx : ev L x = some (.bool b)) (ht : b = true → WC P N C Q L w) (hf : b = false → False := by intro h; (try simp only [aH] at h); simp at h) : WC P N (.cond x C D) Q L w := bI hx ht fun h => (hf h).elim
theorem I8 {b : Bool} (hx : ev L x = some (.bool b)) (hf : b = false → WC P N D Q L w) (ht : b = true → False := by intro h; (try simp only [aH] at h); simp at h) : WC P N (.cond x C D) Q L w := bI hx (fun h => (ht h).elim) hf
theorem xsA {b : Bool} (hx : ev L x = some (.bool b)) (ht : b = true → WL P N ops Q rest ((d, .bool true) :: L) w) (hf : b = false → False := by intro h; (try simp only [aH] at h); first | contradiction | omega | (simp at h <;> omega)) (hd : d < N.n := by exact jY rfl) : WL P N ops Q (⟨some d, .move x, ty, pos, nY, none⟩ :: rest) L w := qC hx ht (fun h => (hf h).elim) hd
theorem Um {b : Bool} (hx : ev L x = some (.bool b)) (hf : b = false → WL P N ops Q rest ((d, .bool false) :: L) w) (ht : b = true → False := by intro h; (try simp only [aH] at h); first | contradiction | omega | (simp at h <;> omega)) (hd : d < N.n := by exact jY rfl) : WL P N ops Q (⟨some d, .move x, ty, pos, nY, none⟩ :: rest) L w := qC hx (fun h => (ht h).elim) hf hd
theorem xsE {b : Bool} (hx : ev L x = some (.bool b)) (ht : b = true → WL P N ops Q rest ((d, .bool true) :: L) w) (hf : b = false → False := by intro h; (try simp only [aH] at h); simp at h) (hd : d < N.n := by exact jY rfl) : WL P N ops Q (⟨some d, .move x, ty, pos, nY, none⟩ :: rest) L w := qC hx ht (fun h => (hf h).elim) hd
theorem JO {b : Bool} (hx : ev L x = some (.bool b)) (hf : b = false → WL P N ops Q rest ((d, .bool false) :: L) w) (ht : b = true → False := by intro h; (try simp only [aH] at h); simp at h) (hd : d < N.n := by exact jY rfl) : WL P N ops Q (⟨some d, .move x, ty, pos, nY, none⟩ :: rest) L w := qC hx (fun h => (ht h).elim) hf hd
end
section
variable {N : Sh} {L : List (Nat × Value)} {w : World} {P : Program} {fn : Func} {S : Value → World → Prop} {t u : Nat} {v x : Value}
theorem we0 (hr : fn.results = #[]) (h : S (.tuple #[]) w) (hd : N.ds = [] := by rfl) : WQ N (mg P fn S) .ret L w := gQ (.inl rfl) hr h hd
theorem fB (hr : fn.results = #[.tmp t]) (hv : look L t = some v) (h : S v w) (hd : N.ds = [] := by rfl) : WQ N (mg P fn S) .ret L w := Xj (.inl rfl) hr hv h hd
theorem DL (hr : fn.results = #[.tmp t, .tmp u]) (hv : look L t = some v) (hx : look L u = some x) (h : S (.tuple #[v, x]) w) (hd : N.ds = [] := by rfl) : WQ N (mg P fn S) .ret L w := Xk (.inl rfl) hr hv hx h hd
end
section
variable {P : Program} {L : List (Nat × Value)} {w0 w : World} {F : HP} {ty : TypeId} {t : TypeId} {b : Nat} {l : List Value} {et : TypeId} {u : Value} {x y : Operand}
theorem st2 (o : Nat) {x0 x1 : Value} (H : V w0 w (dR b (.cells l.toArray et (0, 0)) • F)) (hs : ∀ w, (sizeOf t).run P w = .ok 1 w) (hx : ev L x = some (.pointer (some ⟨b, o, none⟩)) := by exact rfl) (hy : ev L y = some u := by exact rfl) (h1 : u.oneCell' = true := by first | rfl | assumption)
    (ho : Nat.ble (o + 1) l.length = true := by exact rfl) (hl : l.set o u = [x0, x1] := by exact rfl) : vP P L (.store t x y) ty w fun _ w' => V w0 w' (dR b (.cells [x0, x1].toArray et (0, 0)) • F) := fM o H hs hx hy h1 ho hl
theorem st3 (o : Nat) {x0 x1 x2 : Value} (H : V w0 w (dR b (.cells l.toArray et (0, 0)) • F)) (hs : ∀ w, (sizeOf t).run P w = .ok 1 w) (hx : ev L x = some (.pointer (some ⟨b, o, none⟩)) := by exact rfl) (hy : ev L y = some u := by exact rfl) (h1 : u.oneCell' = true := by first | rfl | assumption)
    (ho : Nat.ble (o + 1) l.length = true := by exact rfl) (hl : l.set o u = [x0, x1, x2] := by exact rfl) : vP P L (.store t x y) ty w fun _ w' => V w0 w' (dR b (.cells [x0, x1, x2].toArray et (0, 0)) • F) := fM o H hs hx hy h1 ho hl
theorem Xz (o : Nat) {x0 x1 x2 x3 x4 : Value} (H : V w0 w (dR b (.cells l.toArray et (0, 0)) • F)) (hs : ∀ w, (sizeOf t).run P w = .ok 1 w) (hx : ev L x = some (.pointer (some ⟨b, o, none⟩)) := by exact rfl) (hy : ev L y = some u := by exact rfl) (h1 : u.oneCell' = true := by first | rfl | assumption)
    (ho : Nat.ble (o + 1) l.length = true := by exact rfl) (hl : l.set o u = [x0, x1, x2, x3, x4] := by exact rfl) : vP P L (.store t x y) ty w fun _ w' => V w0 w' (dR b (.cells [x0, x1, x2, x3, x4].toArray et (0, 0)) • F) := fM o H hs hx hy h1 ho hl
theorem Jd (o : Nat) {x0 x1 x2 x3 x4 x5 x6 x7 x8 x9 x10 x11 x12 yV x14 x15 x16 : Value} (H : V w0 w (dR b (.cells l.toArray et (0, 0)) • F)) (hs : ∀ w, (sizeOf t).run P w = .ok 1 w) (hx : ev L x = some (.pointer (some ⟨b, o, none⟩)) := by exact rfl) (hy : ev L y = some u := by exact rfl) (h1 : u.oneCell' = true := by first | rfl | assumption)
    (ho : Nat.ble (o + 1) l.length = true := by exact rfl) (hl : l.set o u = [x0, x1, x2, x3, x4, x5, x6, x7, x8, x9, x10, x11, x12, yV, x14, x15, x16] := by exact rfl) : vP P L (.store t x y) ty w fun _ w' => V w0 w' (dR b (.cells [x0, x1, x2, x3, x4, x5, x6, x7, x8, x9, x10, x11, x12, yV, x14, x15, x16].toArray et (0, 0)) • F) := fM o H hs hx hy h1 ho hl
theorem dN (o : Nat) {x0 x1 x2 x3 x4 x5 x6 x7 x8 x9 x10 x11 x12 yV x14 x15 x16 x17 x18 x19 x20 x21 zM x23 x24 x25 zN x27 x28 x29 x30 x31 x32 Bq : Value} (H : V w0 w (dR b (.cells l.toArray et (0, 0)) • F)) (hs : ∀ w, (sizeOf t).run P w = .ok 1 w) (hx : ev L x = some (.pointer (some ⟨b, o, none⟩)) := by exact rfl) (hy : ev L y = some u := by exact rfl) (h1 : u.oneCell' = true := by first | rfl | assumption)
    (ho : Nat.ble (o + 1) l.length = true := by exact rfl) (hl : l.set o u = [x0, x1, x2, x3, x4, x5, x6, x7, x8, x9, x10, x11, x12, yV, x14, x15, x16, x17, x18, x19, x20, x21, zM, x23, x24, x25, zN, x27, x28, x29, x30, x31, x32, Bq] := by exact rfl) : vP P L (.store t x y) ty w fun _ w' => V w0 w' (dR b (.cells [x0, x1, x2, x3, x4, x5, x6, x7, x8, x9, x10, x11, x12, yV, x14, x15, x16, x17, x18, x19, x20, x21, zM, x23, x24, x25, zN, x27, x28, x29, x30, x31, x32, Bq].toArray et (0, 0)) • F) := fM o H hs hx hy h1 ho hl
theorem ED (o : Nat) {x0 x1 x2 x3 x4 x5 x6 x7 x8 x9 x10 x11 x12 yV x14 x15 x16 x17 x18 x19 x20 x21 zM x23 x24 x25 zN x27 x28 x29 x30 x31 x32 Bq x34 x35 x36 x37 x38 x39 x40 x41 : Value} (H : V w0 w (dR b (.cells l.toArray et (0, 0)) • F)) (hs : ∀ w, (sizeOf t).run P w = .ok 1 w) (hx : ev L x = some (.pointer (some ⟨b, o, none⟩)) := by exact rfl) (hy : ev L y = some u := by exact rfl) (h1 : u.oneCell' = true := by first | rfl | assumption)
    (ho : Nat.ble (o + 1) l.length = true := by exact rfl) (hl : l.set o u = [x0, x1, x2, x3, x4, x5, x6, x7, x8, x9, x10, x11, x12, yV, x14, x15, x16, x17, x18, x19, x20, x21, zM, x23, x24, x25, zN, x27, x28, x29, x30, x31, x32, Bq, x34, x35, x36, x37, x38, x39, x40, x41] := by exact rfl) : vP P L (.store t x y) ty w fun _ w' => V w0 w' (dR b (.cells [x0, x1, x2, x3, x4, x5, x6, x7, x8, x9, x10, x11, x12, yV, x14, x15, x16, x17, x18, x19, x20, x21, zM, x23, x24, x25, zN, x27, x28, x29, x30, x31, x32, Bq, x34, x35, x36, x37, x38, x39, x40, x41].toArray et (0, 0)) • F) := fM o H hs hx hy h1 ho hl
end
section
variable {P : Program} {f n : Nat} {fn : Func} {c : Code} {a b d e g h : Value} {S : Value → World → Prop} {w : World}
theorem Zb (hf : P.funcs[f]? = some fn) (hN : fn.ntmps = n) (k : WC P (Sh.of n) c (mg P fn S) [] w) (hb : fn.body = some c := by exact rfl) (hl : 0 ≤ n := by exact Nat.le_of_ble_eq_true rfl) : iU P f #[] w S := Xv hf hN k hb hl
theorem ji (hf : P.funcs[f]? = some fn) (hN : fn.ntmps = n) (k : WC P (Sh.of n) c (mg P fn S) [(0, a)] w) (hb : fn.body = some c := by exact rfl) (hl : 1 ≤ n := by exact Nat.le_of_ble_eq_true rfl) : iU P f #[a] w S := Xv hf hN k hb hl
theorem oP (hf : P.funcs[f]? = some fn) (hN : fn.ntmps = n) (k : WC P (Sh.of n) c (mg P fn S) [(0, a), (1, b)] w) (hb : fn.body = some c := by exact rfl) (hl : 2 ≤ n := by exact Nat.le_of_ble_eq_true rfl) : iU P f #[a, b] w S := Xv hf hN k hb hl
theorem FQ (hf : P.funcs[f]? = some fn) (hN : fn.ntmps = n) (k : WC P (Sh.of n) c (mg P fn S) [(0, a), (1, b), (2, d)] w) (hb : fn.body = some c := by exact rfl) (hl : 3 ≤ n := by exact Nat.le_of_ble_eq_true rfl) : iU P f #[a, b, d] w S := Xv hf hN k hb hl
theorem SE (hf : P.funcs[f]? = some fn) (hN : fn.ntmps = n) (k : WC P (Sh.of n) c (mg P fn S) [(0, a), (1, b), (2, d), (3, e)] w) (hb : fn.body = some c := by exact rfl) (hl : 4 ≤ n := by exact Nat.le_of_ble_eq_true rfl) : iU P f #[a, b, d, e] w S := Xv hf hN k hb hl
theorem adi (hf : P.funcs[f]? = some fn) (hN : fn.ntmps = n) (k : WC P (Sh.of n) c (mg P fn S) [(0, a), (1, b), (2, d), (3, e), (4, g)] w) (hb : fn.body = some c := by exact rfl) (hl : 5 ≤ n := by exact Nat.le_of_ble_eq_true rfl) : iU P f #[a, b, d, e, g] w S := Xv hf hN k hb hl
end
end Go.Proofs.YtimndnfpcomhlaaGreatDoor
end
section
namespace Go.Proofs.YtimndnfpcomhlaaGreatDoor
open Go.RowKit
open _root_.Go.Proofs.Tryz
theorem AB : (prog.info? 124).map (fun i => (i.zero, i.size, i.bytes)) = some (some (.agg #[.int .i64 0, .slice none 0 0, .slice none 0 0]), 3, 56) := by kernel_rfl
theorem MI : (prog.info? 152).map (fun i => (i.zero, i.size, i.bytes)) = some (some (.agg #[.string .empty, .int .i64 0]), 2, 24) := by kernel_rfl
theorem abq : (prog.info? 21).map (fun i => (i.zero, i.size, i.bytes)) = some (some (.int .i32 0), 1, 4) := by kernel_rfl
theorem abg : (prog.info? 34).map (fun i => (i.zero, i.size, i.bytes)) = some (some (.slice none 0 0), 1, 24) := by kernel_rfl
theorem ER : (prog.info? 5).map (fun i => (i.zero, i.size, i.bytes)) = some (some (.int .u8 0), 1, 1) := by kernel_rfl
theorem NG : (prog.info? 67).map (fun i => (i.zero, i.size, i.bytes)) = some (some (.slice none 0 0), 1, 24) := by kernel_rfl
theorem YR : (prog.info? 88).map (fun i => (i.zero, i.size, i.bytes)) = some (some (.agg #[.int .i64 0, .string .empty]), 2, 24) := by kernel_rfl
theorem aan : (prog.info? 9).map (fun i => (i.zero, i.size, i.bytes)) = some (some (.string .empty), 1, 16) := by kernel_rfl
theorem qU : (prog.info? 124).map (·.size) = some 3 := by kernel_rfl
theorem Qv : (prog.info? 152).map (·.size) = some 2 := by kernel_rfl
theorem Yy : (prog.info? 40).map (·.size) = some 3 := by kernel_rfl
theorem YS : (prog.info? 44).map (·.size) = some 17 := by kernel_rfl
theorem aaY : (prog.info? 65).map (·.size) = some 11 := by kernel_rfl
theorem lH : type_of% @results115 := @results115
theorem kM : type_of% @results121 := @results121
theorem ku : type_of% @results54 := @results54
theorem kY : type_of% @results7 := @results7
theorem fA : type_of% @results8 := @results8
theorem kD : type_of% @sizeOf117 := @sizeOf117
theorem bG : type_of% @sizeOf124 := @sizeOf124
theorem jd : type_of% @sizeOf152 := @sizeOf152
theorem gW : type_of% @sizeOf164 := @sizeOf164
theorem dw : type_of% @sizeOf166 := @sizeOf166
theorem jS : type_of% @sizeOf2 := @sizeOf2
theorem jr : type_of% @sizeOf21 := @sizeOf21
theorem iZ : type_of% @sizeOf22 := @sizeOf22
theorem aj : type_of% @sizeOf3 := @sizeOf3
theorem dD : type_of% @sizeOf34 := @sizeOf34
theorem aQ : type_of% @sizeOf4 := @sizeOf4
theorem kZ : type_of% @sizeOf44 := @sizeOf44
theorem jl : type_of% @sizeOf5 := @sizeOf5
theorem iD : type_of% @sizeOf60 := @sizeOf60
theorem kJ : type_of% @sizeOf62 := @sizeOf62
theorem aJ : type_of% @sizeOf65 := @sizeOf65
theorem bV : type_of% @sizeOf67 := @sizeOf67
theorem lM : type_of% @underlying102 := @underlying102
theorem lK : type_of% @underlying104 := @underlying104
theorem lN : type_of% @underlying110 := @underlying110
theorem eX : type_of% @underlying112 := @underlying112
theorem fP : type_of% @underlying117 := @underlying117
theorem fO : type_of% @underlying119 := @underlying119
theorem aS : type_of% @underlying124 := @underlying124
theorem bH : type_of% @underlying136 := @underlying136
theorem fQ : type_of% @underlying149 := @underlying149
theorem iy : type_of% @underlying152 := @underlying152
theorem bQ : type_of% @underlying155 := @underlying155
theorem aW : type_of% @underlying162 := @underlying162
theorem bJ : type_of% @underlying164 := @underlying164
theorem bF : type_of% @underlying166 := @underlying166
theorem bC : type_of% @underlying168 := @underlying168
theorem jJ : type_of% @underlying2 := @underlying2
theorem fH : type_of% @underlying21 := @underlying21
theorem bT : type_of% @underlying22 := @underlying22
theorem nX : type_of% @underlying27 := @underlying27
theorem ay : type_of% @underlying3 := @underlying3
theorem aG : type_of% @underlying34 := @underlying34
theorem dJ : type_of% @underlying36 := @underlying36
theorem bW : type_of% @underlying4 := @underlying4
theorem jo : type_of% @underlying40 := @underlying40
theorem fC : type_of% @underlying41 := @underlying41
theorem iO : type_of% @underlying42 := @underlying42
theorem aT : type_of% @underlying44 := @underlying44
theorem lC : type_of% @underlying48 := @underlying48
theorem dn : type_of% @underlying5 := @underlying5
theorem dU : type_of% @underlying60 := @underlying60
theorem nT : type_of% @underlying61 := @underlying61
theorem iM : type_of% @underlying62 := @underlying62
theorem lD : type_of% @underlying63 := @underlying63
theorem aA : type_of% @underlying65 := @underlying65
theorem aU : type_of% @underlying67 := @underlying67
theorem ah : type_of% @underlying69 := @underlying69
theorem mJ : type_of% @underlying79 := @underlying79
theorem dP : type_of% @underlying81 := @underlying81
theorem kG : type_of% @underlying9 := @underlying9
theorem dB : type_of% @zeroValue124 := @zeroValue124
theorem nV : type_of% @zeroValue152 := @zeroValue152
theorem iG : type_of% @zeroValue44 := @zeroValue44
theorem jU : type_of% @zeroValue5 := @zeroValue5
theorem mF : type_of% @zeroValue65 := @zeroValue65
end Go.Proofs.YtimndnfpcomhlaaGreatDoor
end
section
namespace Go.Proofs.YtimndnfpcomhlaaGreatDoor
open Go.ChangeShapes Go.WideShapes Go.ChangeAt Go.RowKit
section
variable {H : Type} {enc : TypeId × Value → H} {P : Program} {W : World} {B : Nat}
def yX (B : Nat) (enc : TypeId × Value → H) (P : Program) (W : World) (t : TypeId) (cs : List Value) : Prop :=
  ∃ fuel d p, DataW.trod enc P W 0 (fun _ => true) true fuel t cs = some (d, p) ∧ ∀ n ∈ d.weights P t, n ≤ B
abbrev In (enc : TypeId × Value → H) (P : Program) (W : World) (t : TypeId) (cs : List Value) : Prop := yX reachBytes enc P W t cs
theorem yX.bool {t : TypeId} {cs : List Value} (ht : P.underlying t = some .bool) (h : yX B enc P W t cs) : ∃ b, cs = [.bool b] := by
  obtain ⟨fuel, d, p, h1, -⟩ := h; obtain ⟨b, e, -⟩ := DataW.trod_bool ht h1; exact ⟨b, e⟩
theorem yX.int {t : TypeId} {cs : List Value} {k : IntKind} (ht : P.underlying t = some (.int k)) (h : yX B enc P W t cs) : ∃ n, cs = [.int k n] ∧ (Lit.int k n).wf = true := by
  obtain ⟨fuel, d, p, h1, -⟩ := h; obtain ⟨n, e, -, hw⟩ := DataW.trod_int ht h1; exact ⟨n, e, hw⟩
theorem yX.string {t : TypeId} {cs : List Value} (ht : P.underlying t = some .string) (h : yX B enc P W t cs) : ∃ s : ByteArray, cs = [.string s] ∧ s.size ≤ B := by
  obtain ⟨fuel, d, p, h1, hw⟩ := h; obtain ⟨s, e, hx, hm⟩ := DataW.trod_string ht h1
  simp only [Prod.mk.injEq] at hx
  obtain ⟨rfl, -⟩ := hx
  have h2 := hw s.data.toList.length (by simp only [DataW.weights, List.mem_singleton])
  rw [Array.length_toList] at h2
  exact ⟨s, e, h2⟩
theorem FT {ts : List TypeId} {ds : List (DataW H)} {j : Nat} {t : TypeId} {d : DataW H} (ht : ts[j]? = some t) (hd : ds[j]? = some d) (h : ∀ n ∈ DataW.weightsEach P ts ds, n ≤ B) : ∀ n ∈ d.weights P t, n ≤ B :=
  fun n hn => h n (DataW.weights_mem_each ht hd n hn)
theorem GK {e : TypeId} {ds : List (DataW H)} {d : DataW H} (hd : d ∈ ds) (h : ∀ n ∈ DataW.weightsAll P e ds, n ≤ B) : ∀ n ∈ d.weights P e, n ≤ B := by
  intro n hn
  induction ds with
  | nil => cases hd
  | cons x r ih =>
    simp only [DataW.weightsAll, List.mem_append] at h
    rcases List.mem_cons.1 hd with rfl | hd
    · exact h n (.inl hn)
    · exact ih hd fun n hn => h n (.inr hn)
theorem yX.struct {t : TypeId} {fs : Array Field} {cs : List Value} (ht : P.underlying t = some (.struct fs)) (h : yX B enc P W t cs) :
    cs.length = P.cellsOf t ∧ ∀ (i : Nat) (f : Field), fs[i]? = some f → yX B enc P W f.type ((cs.drop f.offset).take (P.cellsOf f.type)) := by
  obtain ⟨fuel, d, p, h1, hw⟩ := h
  obtain ⟨xs, n, -, hx, hl, hl2, hf⟩ := DataW.trod_struct ht h1
  simp only [Prod.mk.injEq] at hx
  obtain ⟨rfl, -⟩ := hx
  refine ⟨hl, fun i f hi => ?_⟩
  have hlt : i < xs.length := by rw [hl2]; exact (Array.getElem?_eq_some_iff.1 hi).1
  refine ⟨n, xs[i].1, xs[i].2, by rw [hf i f hi, List.getElem?_eq_getElem hlt], ?_⟩
  simp only [DataW.weights, ht] at hw
  exact FT (ts := fs.toList.map (·.type)) (ds := xs.map (·.1)) (j := i) (by simp [hi]) (by simp [List.getElem?_eq_getElem hlt]) hw
theorem yX.slice {t e : TypeId} {cs : List Value} (ht : P.underlying t = some (.slice e)) (hz : 0 < P.cellsOf e) (h : yX B enc P W t cs) :
    ∃ v n xs, cs = [v] ∧ Rd W (P.cellsOf e) v n xs ∧ n * P.bytesOf e ≤ B ∧ ∀ k, k < n → yX B enc P W e ((xs.drop (k * P.cellsOf e)).take (P.cellsOf e)) := by
  obtain ⟨fuel, d, p, h1, hw⟩ := h
  rcases DataW.trod_slice ht h1 with ⟨rfl, hx⟩ | ⟨a, len, cap, elems, rest, n, -, rfl, hx, -, hl, hm, hel, hget, -⟩
  · exact ⟨_, 0, [], rfl, ⟨by simp, none, 0, rfl, by simp, by decide, fun h => absurd h (by decide)⟩, by simp, fun k hk => absurd hk (by omega)⟩
  simp only [Prod.mk.injEq] at hx
  obtain ⟨rfl, -⟩ := hx
  simp only [DataW.weights, ht, List.mem_cons, List.mem_append] at hw
  have h2 := hw _ (.inl rfl)
  simp only [List.length_map] at h2
  have key : ∀ i, i < len → ∃ cs, W.cells? 0 (a.add (i * P.cellsOf e)) (P.cellsOf e) = some cs ∧ yX B enc P W e cs := by
    intro i hi
    have h3 := hget i hi
    have hi2 : i < elems.length := by omega
    rw [List.getElem?_eq_getElem hi2] at h3
    obtain ⟨cs, e1, e2⟩ := Option.bind_eq_some_iff.1 h3
    exact ⟨cs, e1, n, elems[i].1, elems[i].2, e2, fun m hm => GK (ds := elems.map (·.1)) (List.mem_map.2 ⟨elems[i], List.getElem_mem hi2, rfl⟩) (fun n hn => hw n (.inr (.inl hn))) m hm⟩
  obtain ⟨C, hC⟩ : ∃ C : Nat → List Value, ∀ i, i < len → W.cells? 0 (a.add (i * P.cellsOf e)) (P.cellsOf e) = some (C i) ∧ yX B enc P W e (C i) := by
    classical
    exact ⟨fun i => if hi : i < len then Classical.choose (key i hi) else [], fun i hi => by simp only [dif_pos hi]; exact Classical.choose_spec (key i hi)⟩
  have spot : 0 < len → a.spot = none := by
    intro hp
    obtain ⟨-, -, hc⟩ := World.cells?_some (hC 0 hp).1
    have h3 := hc 0 hz
    have hlen := (World.cells?_some (hC 0 hp).1).2.1
    rw [List.getElem?_eq_getElem (by omega)] at h3
    simp only [Nat.zero_mul, Addr.add, if_true] at h3
    unfold World.cell? at h3
    cases hs : a.spot with
    | none => rfl
    | some q => rw [hs] at h3; split at h3 <;> simp at h3
  let xs : List Value := (List.range len).flatMap C
  have hlC : ∀ i, i < len → (C i).length = P.cellsOf e := fun i hi => (World.cells?_some (hC i hi).1).2.1
  have UA : ∀ m, m ≤ len → ((List.range m).flatMap C).length = m * P.cellsOf e := by
    intro m hm
    induction m with
    | zero => simp
    | succ m ih => rw [List.range_succ, List.flatMap_append, List.length_append, ih (by omega)]; simp [hlC m (by omega), Nat.succ_mul]
  have hcut : ∀ k, k < len → ((xs.drop (k * P.cellsOf e)).take (P.cellsOf e)) = C k := by
    intro k hk
    show ((((List.range len).flatMap C).drop (k * P.cellsOf e)).take (P.cellsOf e)) = C k
    have e1 : List.range len = List.range k ++ [k] ++ (List.range (len - (k + 1))).map ((k + 1) + ·) := by
      have := @List.range_add (k + 1) (len - (k + 1))
      rw [show k + 1 + (len - (k + 1)) = len by omega] at this
      rw [this, List.range_succ]
    have hk1 := UA k (by omega)
    have hck := hlC k hk
    rw [e1, List.flatMap_append, List.flatMap_append, List.append_assoc]
    rw [List.drop_append, hk1]
    simp [hk1, List.take_append, hck]
  refine ⟨_, len, xs, rfl, ⟨UA len (Nat.le_refl _), some a, cap, rfl, hl, by unfold maxLen at hm; omega, fun hp => ⟨a.block, a.off, ?_, fun j hj => ?_⟩⟩, ?_, fun k hk => ?_⟩
  · have := spot hp; cases a; simp_all
  · have hk : j / P.cellsOf e < len := Nat.div_lt_of_lt_mul (by rw [Nat.mul_comm]; exact hj)
    have hr : j % P.cellsOf e < P.cellsOf e := Nat.mod_lt _ hz
    have hc := (World.cells?_some (hC _ hk).1).2.2 _ hr
    have e0 : a = ⟨a.block, a.off, none⟩ := by have := spot hp; cases a; simp_all
    have ej : j / P.cellsOf e * P.cellsOf e + j % P.cellsOf e = j := by rw [Nat.mul_comm]; exact Nat.div_add_mod ..
    rw [e0, uw, uw, Nat.add_assoc, ej] at hc
    rw [hc, ← hcut _ hk, List.getElem?_take_of_lt hr, List.getElem?_drop, ej, List.getD_eq_getElem?_getD, List.getElem?_eq_getElem (by show j < ((List.range len).flatMap C).length; rw [UA len (Nat.le_refl _)]; exact hj)]
    rfl
  · have : len * P.bytesOf e ≤ (elems.length + rest.length) * P.bytesOf e := Nat.mul_le_mul_right _ (by omega)
    omega
  · rw [hcut k hk]; exact (hC k hk).2
theorem yX.ints {t e : TypeId} {k : IntKind} {cs : List Value} (ht : P.underlying t = some (.slice e)) (he : P.underlying e = some (.int k)) (hc : P.cellsOf e = 1) (h : yX B enc P W t cs) :
    ∃ v l, cs = [v] ∧ mM W k v l ∧ l.length * P.bytesOf e ≤ B ∧ ∀ n ∈ l, (Lit.int k n).wf = true := by
  obtain ⟨v, n, xs, e1, h1, h2, h3⟩ := h.slice ht (by omega)
  rw [hc] at h1 h3
  have hx : ∀ i, i < n → ∃ m, xs[i]? = some (.int k m) ∧ (Lit.int k m).wf = true := by
    intro i hi
    obtain ⟨m, e2, hw⟩ := (h3 i hi).int he
    have hl := h1.len
    refine ⟨m, ?_, hw⟩
    have := congrArg (fun l => l[0]?) e2
    simpa [List.getElem?_take, List.getElem?_drop] using this
  let l := xs.map fun | .int _ m => m | _ => 0
  have hl : l.length = n := by simp only [l, List.length_map]; have := h1.len; omega
  have hxs : xs = l.map (Value.int k) := by
    apply List.ext_getElem?
    intro i
    by_cases hi : i < n
    · obtain ⟨m, e2, -⟩ := hx i hi
      simp [l, e2]
    · have : xs.length ≤ i := by have := h1.len; omega
      simp [l, List.getElem?_eq_none this]
  refine ⟨v, l, e1, by rw [mM, hl, ← hxs]; exact h1, by rw [hl]; exact h2, fun m hm => ?_⟩
  obtain ⟨i, hi⟩ := List.getElem?_of_mem hm
  have hi2 : i < n := by have := (List.getElem?_eq_some_iff.1 hi).1; omega
  obtain ⟨m', e2, hw⟩ := hx i hi2
  simp only [l, List.getElem?_map, e2, Option.map_some, Option.some.injEq] at hi
  subst hi
  exact hw
theorem XA {α : Type _} [Inhabited α] {n : Nat} {p : Nat → α → Prop} (h : ∀ k, k < n → ∃ l, p k l) (d : α) : ∃ ls : List α, ls.length = n ∧ ∀ k, k < n → p k (ls.getD k d) := by
  induction n with
  | zero => exact ⟨[], rfl, fun k hk => absurd hk (by omega)⟩
  | succ n ih =>
    obtain ⟨ls, h1, h2⟩ := ih fun k hk => h k (by omega)
    obtain ⟨l, hl⟩ := h n (by omega)
    refine ⟨ls ++ [l], by simp [h1], fun k hk => ?_⟩
    by_cases hkn : k < n
    · rw [List.getD_eq_getElem?_getD, List.getElem?_append_left (by omega), ← List.getD_eq_getElem?_getD]; exact h2 k hkn
    · obtain rfl : k = n := by omega
      rw [List.getD_eq_getElem?_getD, List.getElem?_append_right (by omega), h1, Nat.sub_self]; exact hl
theorem yX.row {t e q : TypeId} {k : IntKind} {cs : List Value} (ht : P.underlying t = some (.slice e)) (he : P.underlying e = some (.slice q)) (hq : P.underlying q = some (.int k)) (ce : P.cellsOf e = 1) (cq : P.cellsOf q = 1) (h : yX B enc P W t cs) :
    ∃ (v : Value) (vs : List Value) (ls : List (List Int)), cs = [v] ∧ Rd W 1 v ls.length vs ∧ ls.length * P.bytesOf e ≤ B ∧ ∀ j, j < ls.length → mM W k (vs.getD j undef) (ls.getD j []) ∧ (ls.getD j []).length * P.bytesOf q ≤ B ∧ ∀ n ∈ ls.getD j [], (Lit.int k n).wf = true := by
  obtain ⟨v, n, vs, e1, h1, h2, h3⟩ := h.slice ht (by omega)
  rw [ce] at h1 h3
  obtain ⟨ls, rfl, hls⟩ := XA (n := n) (p := fun j l => mM W k (vs.getD j undef) l ∧ l.length * P.bytesOf q ≤ B ∧ ∀ n ∈ l, (Lit.int k n).wf = true) (fun j hj => by
    obtain ⟨u, l, e3, g4, hb4, hw⟩ := (h3 j hj).ints he hq cq
    obtain rfl : vs.getD j undef = u := by
      have := congrArg (fun l => l[0]?) e3
      simp [List.getElem?_drop] at this
      rw [List.getD_eq_getElem?_getD, this]; rfl
    exact ⟨l, g4, hb4, hw⟩) []
  exact ⟨v, vs, ls, e1, h1, h2, hls⟩
theorem EZ : ∀ {ts : List TypeId} {vs : List Value} {ds : List (DataW H)} {p : List MemPlace}, DataW.TrodAll enc P W 0 (fun _ => true) true ts vs ds p → (∀ n ∈ DataW.weightsEach P ts ds, n ≤ B) →
    vs.length = ts.length ∧ ds.length = ts.length ∧ ∀ (j : Nat) t v, ts[j]? = some t → vs[j]? = some v → yX B enc P W t v.cells.toList
  | [], _, _, _, h, _ => by obtain ⟨rfl, rfl, rfl⟩ := trodAll_nil h; simp
  | t :: ts, _, _, _, h, hw => by
    obtain ⟨v, vs1, d, ds1, a, b, rfl, rfl, rfl, ⟨fuel, h1⟩, h2⟩ := trodAll_cons h
    simp only [DataW.weightsEach, List.mem_append] at hw
    obtain ⟨i1, i2, i3⟩ := EZ h2 fun n hn => hw n (.inr hn)
    refine ⟨by simp [i1], by simp [i2], fun j t' v' ht hv => ?_⟩
    cases j with
    | zero =>
      simp only [List.getElem?_cons_zero, Option.some.injEq] at ht hv
      subst ht; subst hv
      exact ⟨fuel, d, a, h1, fun n hn => hw n (.inl hn)⟩
    | succ j => exact i3 j t' v' (by simpa using ht) (by simpa using hv)
def zY (B : Nat) (enc : TypeId × Value → H) (P : Program) (W : World) : List TypeId → List Value → Prop
  | [], [] => True
  | t :: ts, v :: vs => (∃ base, Value.okWide P W .any base t v) ∧ yX B enc P W t v.cells.toList ∧ zY B enc P W ts vs
  | _, _ => False
abbrev Ins (enc : TypeId × Value → H) (P : Program) (W : World) (ts : List TypeId) (vs : List Value) : Prop := zY reachBytes enc P W ts vs
theorem zY.mk : ∀ {ts : List TypeId} {vs : List Value}, vs.length = ts.length → (∀ (j : Nat) t v, ts[j]? = some t → vs[j]? = some v → (∃ base, Value.okWide P W .any base t v) ∧ yX B enc P W t v.cells.toList) → zY B enc P W ts vs
  | [], [], _, _ => trivial
  | t :: ts, v :: vs, h, k => ⟨(k 0 t v rfl rfl).1, (k 0 t v rfl rfl).2, zY.mk (by simpa using h) fun j t' v' ht hv => k (j + 1) t' v' (by simpa using ht) (by simpa using hv)⟩
  | [], _ :: _, h, _ => by simp at h
  | _ :: _, [], h, _ => by simp at h
theorem zY.nil {args : Array Value} (h : zY B enc P W [] args.toList) : args = #[] := by rcases args with ⟨_ | ⟨_, _⟩⟩ <;> simp_all [zY]
theorem zY.cons {t : TypeId} {ts : List TypeId} {vs : List Value} (h : zY B enc P W (t :: ts) vs) : ∃ v vs', vs = v :: vs' ∧ (∃ base, Value.okWide P W .any base t v) ∧ yX B enc P W t v.cells.toList ∧ zY B enc P W ts vs' := by
  cases vs with
  | nil => exact h.elim
  | cons v vs' => exact ⟨v, vs', rfl, h⟩
theorem zY.nil' {vs : List Value} (h : zY B enc P W [] vs) : vs = [] := by cases vs with | nil => rfl | cons _ _ => exact h.elim
theorem zY.one {args : Array Value} {t : TypeId} (h : zY B enc P W [t] args.toList) : ∃ v, args = #[v] ∧ (∃ base, Value.okWide P W .any base t v) ∧ yX B enc P W t v.cells.toList := by
  obtain ⟨v, vs, e, h1, h2, h3⟩ := h.cons; obtain rfl := h3.nil'; exact ⟨v, by cases args; simp_all, h1, h2⟩
theorem zY.three {args : Array Value} {t t' t'' : TypeId} (h : zY B enc P W [t, t', t''] args.toList) : ∃ v v' v'', args = #[v, v', v''] ∧ ((∃ base, Value.okWide P W .any base t v) ∧ yX B enc P W t v.cells.toList) ∧ ((∃ base, Value.okWide P W .any base t' v') ∧ yX B enc P W t' v'.cells.toList) ∧ ((∃ base, Value.okWide P W .any base t'' v'') ∧ yX B enc P W t'' v''.cells.toList) := by
  obtain ⟨v, vs, e, h1, h2, h3⟩ := h.cons; obtain ⟨v', vs', rfl, h1', h2', h3'⟩ := h3.cons; obtain ⟨v'', vs'', rfl, abF, abG, abH⟩ := h3'.cons; obtain rfl := abH.nil'
  exact ⟨v, v', v'', by cases args; simp_all, ⟨h1, h2⟩, ⟨h1', h2'⟩, ⟨abF, abG⟩⟩
theorem E5 {base : Nat} {sp : Nat → Bool} {held : Bool} : ∀ {ts : List TypeId} {vs : List Value} {ds : List (DataW H)} {p : List MemPlace}, DataW.TrodAll enc P W base sp held ts vs ds p → vs.length = ts.length ∧ ds.length = ts.length
  | [], _, _, _, h => by obtain ⟨rfl, rfl, rfl⟩ := trodAll_nil h; simp
  | t :: ts, _, _, _, h => by
    obtain ⟨v, vs1, d, ds1, a, b, rfl, rfl, rfl, _, h2⟩ := trodAll_cons h
    obtain ⟨i1, i2⟩ := E5 h2
    simp [i1, i2]
theorem DN (hl : laidOutB P = true) {W' : World} (hb : Below W.heap.size W W') : ∀ {ts : List TypeId} {vs : List Value} {ds : List (DataW H)} {p : List MemPlace}, (∀ t ∈ ts, P.readableRec t = true ∧ t < P.types.size) →
    DataW.TrodAll enc P W 0 (fun _ => true) true ts vs ds p → (∀ x ∈ p, x.block < W.heap.size) → DataW.TrodAll enc P W' 0 (fun b => decide (b < W.heap.size)) true ts vs ds p
  | [], _, _, _, _, h, _ => by obtain ⟨rfl, rfl, rfl⟩ := trodAll_nil h; exact trodAll_mk0
  | t :: ts, _, _, _, ht, h, hp => by
    obtain ⟨v, vs1, d, ds1, a, b, rfl, rfl, rfl, h1, h2⟩ := trodAll_cons h
    have hq := ht t (by simp)
    exact ⟨a, b, Below.trod hl hq.1 hq.2 h1 hb (fun x hx => hp x (by simp [hx])), DN hl hb (fun t' h' => ht t' (by simp [h'])) h2 (fun x hx => hp x (by simp [hx])), rfl⟩
end
theorem SG {α : Type _} {l : List α} (h : l.length = 3) : ∃ a b c, l = [a, b, c] := by match l, h with | [a, b, c], _ => exact ⟨a, b, c, rfl⟩
theorem UC {H : Type} {enc : TypeId × Value → H} {P : Program} {fn : Func} {s : ChangeSpec} {tb : TypeId} {ts : List TypeId} (laid : laidOutB P = true) (hpn : fn.params.toList = ts) (hres : fn.resultTypes = #[tb]) (htb : P.underlying tb = some .bool) (hvars : s.vars = [])
    (hts : ts.all (fun t => P.readableRec t && decide (t < P.types.size)) = true) (hspec : ∀ ds : List (DataW H), ds.length = ts.length → s.fn H ds = { results := [.lit (.bool true)], args := ds })
    {W W' : World} {args : Array Value} {ds gs : List (DataW H)} {before : List MemPlace} (hW : DataW.Whole enc P fn.params.toList s.vars false W args.toList ds gs before) (hb : Below W.heap.size W W') :
    s.post enc P fn false true false false W args (.bool true) W' := by
  have hW' := hW
  obtain ⟨p, q, hA, hV, rfl, hfz, hnd⟩ := hW
  rw [hvars] at hV
  obtain ⟨rfl, rfl⟩ : gs = [] ∧ q = [] := by cases gs <;> simp_all [DataW.TrodVars]
  have hn2 : ds.length = ts.length := by rw [← hpn]; exact (E5 hA).2
  have hlt : ∀ x ∈ p, x.block < W.heap.size := fun x hx => by simpa using hW'.lt x (by simpa using hx)
  have hl := hspec ds hn2
  refine ⟨ds, [], p ++ [], [], p, [], hW', ?_, ?_, ?_, hb.frame _, fun h => by cases h⟩
  · rw [hres, List.append_nil, hl]
    exact trodAll_mk1 (shut_bool htb true)
  · rw [List.append_nil, hl]
    exact DN laid hb (fun t ht => by simpa using List.all_eq_true.1 hts t (by rw [← hpn]; exact ht)) hA hlt
  · rw [hvars, List.append_nil, hl]
    rfl
theorem XB {H : Type} {enc : TypeId × Value → H} {P : Program} {fn : Func} {s : ChangeSpec} {ts : List TypeId} (hpn : fn.params.toList = ts) (hvars : s.vars = []) {W : World} {base : Nat} {args : Array Value} {ds gs : List (DataW H)} {before : List MemPlace}
    (hval : ∀ (j : Nat) t v, fn.params[j]? = some t → args[j]? = some v → Value.okWide P W .any base t v) (hW : DataW.Whole enc P fn.params.toList s.vars false W args.toList ds gs before)
    (hwt : (DataW.weightsEach P (fn.params.toList ++ s.plain.varTypes P) (ds ++ gs)).all (· ≤ reachBytes) = true) : Ins enc P W ts args.toList := by
  obtain ⟨p, q, hA, hV, rfl, hfz, hnd⟩ := hW
  rw [hvars] at hV
  obtain ⟨rfl, rfl⟩ : gs = [] ∧ q = [] := by cases gs <;> simp_all [DataW.TrodVars]
  have hw2 : ∀ n ∈ DataW.weightsEach P fn.params.toList ds, n ≤ reachBytes := by
    have e0 : s.plain.varTypes P = [] := by simp [ChangeSpec.plain, DataSpec.varTypes, hvars]
    rw [e0, List.append_nil, List.append_nil] at hwt
    simpa using hwt
  obtain ⟨hn1, hn2, hin⟩ := EZ hA hw2
  rw [← hpn]
  exact zY.mk hn1 fun j t v ht hv => ⟨⟨base, hval j t v (by simpa using ht) (by simpa using hv)⟩, hin j t v ht hv⟩
theorem Je {H : Type} {enc : TypeId × Value → H} {a : Assume} {C : Checked} {os : Os} {f : FuncId} {fn : Func} {s : ChangeSpec} {conds : List PathCond} {tb : TypeId} (ts : List TypeId) {lay : List (String × DataW Unit)}
    (own : ownKnob C.prog.godebug = none) (laid : laidOutB C.prog = true) (started : os.Started) (noInit : C.prog.inits.idxOf? f = none) (hfn : C.prog.funcs[f]? = some fn)
    (hpn : fn.params.toList = ts) (hres : fn.resultTypes = #[tb]) (htb : C.prog.underlying tb = some .bool) (hvars : s.vars = [])
    (hts : ts.all (fun t => C.prog.readableRec t && decide (t < C.prog.types.size)) = true)
    (hspec : ∀ ds : List (DataW H), ds.length = ts.length → s.fn H ds = { results := [.lit (.bool true)], args := ds })
    (witness : ∃ (w : World) (tape : Tape) (i : Input), w.os = os ∧ (w.forCall tape i).Shaped C.prog ∧ i.vars = [] ∧ Input.okWide C.prog (w.forCall tape i) .any w.heap.size f i ∧
      ((s.pre enc C.prog fn conds false (w.forCall tape i).memory i.args ∧ laidMetH C.prog lay (w.forCall tape i).memory) ∧ sizedMet enc C.prog fn (OpenSpec.ofChange s) false (w.forCall tape i).memory i.args) ∧ a.holds C.prog (lone (Frame.enter C.prog f i.args .normal) [] (w.forCall tape i)))
    (walk : ∀ (W : World) (args : Array Value), laidMetH C.prog lay W → Ins enc C.prog W ts args.toList → iU C.prog f args W fun v W' => v = .bool true ∧ Below W.heap.size W W') :
    ReturnsInHanded a C os f .any (fun w args => (s.pre enc C.prog fn conds false w args ∧ laidMetH C.prog lay w) ∧ sizedMet enc C.prog fn (OpenSpec.ofChange s) false w args) (s.post enc C.prog fn false true false false) := by
  refine returnsInHanded_of_change_and (X := fun w _ => laidMetH C.prog lay w) (fun _ _ _ hh h => h.of_heap hh) own started noInit hfn witness ?_
  intro W base args ds gs before hval hW hcnd hwt hL hh
  exact Calls.mono (walk W args hL (XB hpn hvars hval hW hwt)) fun e W' ⟨v, he, hv, hb⟩ => ⟨v, he, by subst hv; exact UC laid hpn hres htb hvars hts hspec hW hb⟩
end Go.Proofs.YtimndnfpcomhlaaGreatDoor
end
section
namespace Go.Proofs.YtimndnfpcomhlaaGreatDoor

theorem own : ownKnob Tryz.prog.godebug = none := by kernel_rfl
theorem laid : laidOutB Tryz.prog = true := by kernel_rfl
end Go.Proofs.YtimndnfpcomhlaaGreatDoor
end
section
namespace Go.Proofs.YtimndnfpcomhlaaGreatDoor
open Go.ChangeShapes Go.WideShapes Go.ChangeAt Go.RowKit
section
variable {H : Type} {P : Program} {M : Nat}
theorem UD (d : DataW H) : 1 ≤ Rows.uptoBulk d := by
  cases d with
  | lit l => cases l <;> simp [Rows.uptoBulk]
  | nil => simp [Rows.uptoBulk]
  | ptr d => simp [Rows.uptoBulk]
  | slice elems spare => simp [Rows.uptoBulk]
  | agg parts => simp [Rows.uptoBulk]
  | iface t d => simp [Rows.uptoBulk]
  | map entries => simp [Rows.uptoBulk]
  | held h => simp [Rows.uptoBulk]
theorem MV (l : List (DataW H)) : l.length ≤ Rows.uptoBulkAll l := by
  induction l with
  | nil => simp [Rows.uptoBulkAll]
  | cons x r ih => have := UD x; simp only [Rows.uptoBulkAll, List.length_cons]; omega
theorem KU (l : List (Lit × DataW H)) : l.length ≤ Rows.uptoBulkEntries l := by
  induction l with
  | nil => simp [Rows.uptoBulkEntries]
  | cons x r ih =>
    have : 1 ≤ Rows.uptoBulkEntry x := by
      obtain ⟨k, d⟩ := x
      cases k <;> simp [Rows.uptoBulkEntry]
    simp only [Rows.uptoBulkEntries, List.length_cons]; omega
def uD (n : Nat) : Option TypeDesc → Bool
  | some (.pointer e) => decide (e < n)
  | some (.slice e) => decide (e < n)
  | some (.array _ e) => decide (e < n)
  | some (.struct fs) => fs.toList.all fun f => decide (f.type < n)
  | some (.map k e) => decide (k < n) && decide (e < n)
  | _ => true
def yA (P : Program) (M n : Nat) : Bool := (List.range n).all fun t => decide (2 * P.bytesOf t ≤ M) && uD n (P.underlying t)
theorem xA {n : Nat} (hG : yA P M n = true) {t : TypeId} (ht : t < n) : 2 * P.bytesOf t ≤ M ∧ uD n (P.underlying t) = true := by
  have := List.all_eq_true.1 hG t (List.mem_range.2 ht)
  simpa using this
theorem KW {a b c : Nat} (h : a ≤ b) (hc : c ≤ M) : a * c ≤ b * M := Nat.mul_le_mul h hc
mutual
theorem tK {z : Nat} (hG : yA P M z = true) (h1 : 1 ≤ M) : ∀ (d : DataW H) (t : TypeId) (n : Nat), t < z → n ∈ d.weights P t → n ≤ Rows.uptoBulk d * M
  | .lit l, t, n, ht, h => by
    cases l with
    | string b =>
      simp only [DataW.weights, List.mem_singleton] at h
      subst h
      simp only [Rows.uptoBulk]
      have := KW (M := M) (a := b.length) (b := b.length + 1) (c := 1) (by omega) h1
      omega
    | _ => simp [DataW.weights] at h
  | .nil, t, n, ht, h => by simp [DataW.weights] at h
  | .ptr d, t, n, ht, h => by
    simp only [DataW.weights] at h
    split at h
    · rename_i e he
      have hp := (xA hG ht).2
      rw [he] at hp
      have := tK hG h1 d _ n (by simpa [uD] using hp) h
      simp only [Rows.uptoBulk, Nat.add_mul]; omega
    · simp at h
  | .slice elems spare, t, n, ht, h => by
    simp only [DataW.weights] at h
    split at h
    · rename_i e he
      have hp := (xA hG ht).2
      rw [he] at hp
      have he' : e < z := by simpa [uD] using hp
      simp only [List.mem_cons, List.mem_append] at h
      simp only [Rows.uptoBulk, Nat.add_mul]
      rcases h with rfl | h | h
      · have l1 := MV elems
        have l2 := MV spare
        have := KW (M := M) (a := elems.length + spare.length) (b := Rows.uptoBulkAll elems + Rows.uptoBulkAll spare) (c := P.bytesOf e) (by omega) (by have := (xA hG he').1; omega)
        rw [Nat.add_mul (Rows.uptoBulkAll elems)] at this
        omega
      · have := rP hG h1 elems _ n he' h; omega
      · have := rP hG h1 spare _ n he' h; omega
    · simp at h
  | .agg parts, t, n, ht, h => by
    simp only [DataW.weights] at h
    simp only [Rows.uptoBulk, Nat.add_mul]
    split at h
    · rename_i fs he
      have hp := (xA hG ht).2
      rw [he] at hp
      have := yB hG h1 parts _ n (fun t' ht' => by
        obtain ⟨f, hf, rfl⟩ := List.mem_map.1 ht'
        simpa using List.all_eq_true.1 hp f hf) h
      omega
    · rename_i k e he
      have hp := (xA hG ht).2
      rw [he] at hp
      have := rP hG h1 parts _ n (by simpa [uD] using hp) h
      omega
    · simp at h
  | .iface t' d, t, n, ht, h => by simp [DataW.weights] at h
  | .map entries, t, n, ht, h => by
    simp only [DataW.weights] at h
    simp only [Rows.uptoBulk, Nat.add_mul]
    split at h
    · rename_i k e he
      have hp := (xA hG ht).2
      rw [he] at hp
      have hke : k < z ∧ e < z := by simpa [uD] using hp
      simp only [List.mem_cons] at h
      rcases h with rfl | h
      · have := KW (M := M) (KU entries) (c := P.bytesOf k + P.bytesOf e) (by have := (xA hG hke.1).1; have := (xA hG hke.2).1; omega); omega
      · have := qR hG h1 entries _ n hke.2 h; omega
    · simp at h
  | .held x, t, n, ht, h => by simp [DataW.weights] at h
theorem rP {z : Nat} (hG : yA P M z = true) (h1 : 1 ≤ M) : ∀ (l : List (DataW H)) (t : TypeId) (n : Nat), t < z → n ∈ DataW.weightsAll P t l → n ≤ Rows.uptoBulkAll l * M
  | [], t, n, ht, h => by simp [DataW.weightsAll] at h
  | d :: r, t, n, ht, h => by
    simp only [DataW.weightsAll, List.mem_append] at h
    simp only [Rows.uptoBulkAll, Nat.add_mul]
    rcases h with h | h
    · have := tK hG h1 d _ n ht h; omega
    · have := rP hG h1 r _ n ht h; omega
theorem yB {z : Nat} (hG : yA P M z = true) (h1 : 1 ≤ M) : ∀ (l : List (DataW H)) (ts : List TypeId) (n : Nat), (∀ t ∈ ts, t < z) → n ∈ DataW.weightsEach P ts l → n ≤ Rows.uptoBulkAll l * M
  | [], ts, n, ht, h => by cases ts <;> simp [DataW.weightsEach] at h
  | d :: r, [], n, ht, h => by simp [DataW.weightsEach] at h
  | d :: r, t :: ts, n, ht, h => by
    simp only [DataW.weightsEach, List.mem_append] at h
    simp only [Rows.uptoBulkAll, Nat.add_mul]
    rcases h with h | h
    · have := tK hG h1 d _ n (ht t (by simp)) h; omega
    · have := yB hG h1 r _ n (fun x hx => ht x (by simp [hx])) h; omega
theorem qR {z : Nat} (hG : yA P M z = true) (h1 : 1 ≤ M) : ∀ (l : List (Lit × DataW H)) (t : TypeId) (n : Nat), t < z → n ∈ DataW.weightsEntries P t l → n ≤ Rows.uptoBulkEntries l * M
  | [], t, n, ht, h => by simp [DataW.weightsEntries] at h
  | (k, d) :: r, t, n, ht, h => by
    cases k with
    | string b =>
      simp only [DataW.weightsEntries, DataW.weightsEntry, List.mem_append, List.mem_cons] at h
      simp only [Rows.uptoBulkEntries, Rows.uptoBulkEntry, Nat.add_mul]
      have hb := KW (M := M) (a := b.length) (b := b.length) (c := 1) (by omega) h1
      rcases h with (h | h) | h
      · omega
      · have := tK hG h1 d _ n ht h; omega
      · have := qR hG h1 r _ n ht h; omega
    | _ =>
      simp only [DataW.weightsEntries, DataW.weightsEntry, List.mem_append] at h
      simp only [Rows.uptoBulkEntries, Rows.uptoBulkEntry, Nat.add_mul]
      rcases h with h | h
      · have := tK hG h1 d _ n ht h; omega
      · have := qR hG h1 r _ n ht h; omega
end
end
abbrev GL : List (String × DataW Unit) := [("unicode/utf8.acceptRanges", Rows.laid_unicode_utf8_acceptRanges), ("unicode/utf8.first", Rows.laid_unicode_utf8_first)]
theorem XC {W : World} (h : laidMetH Tryz.prog GL W) : True ∧ True := ⟨trivial, trivial⟩
theorem UE (os : Os) (args : Array Value) : laidMetH Tryz.prog GL ((World.laidAll Tryz.prog os GL).forCall (fun _ _ => 0) ⟨#[], args, []⟩).memory := by
  rw [MakeChecks.laidMetH_plain _ _ _ (by kernel_rfl)]; exact laidMet_laidAll _ (by kernel_rfl) (by kernel_rfl)
end Go.Proofs.YtimndnfpcomhlaaGreatDoor
end
section
namespace Go.Proofs.YtimndnfpcomhlaaGreatDoor
open Go.RowKit
section
variable {P : Program} {L : List (Nat × Value)} {w0 w : World} {F : HP} {ty : TypeId}
def Yu (P : Program) (fv : Value) (vs : List Value) (w : World) (T : Value → World → Prop) : Prop :=
  ∃ f first cap fn c, fv = .func (.func f) (List.toArray first) (List.toArray cap) ∧ P.funcs[f]? = some fn ∧ (fn.name == "runtime.NumGoroutine") = false ∧ fn.body = some c ∧ iU P f (first ++ vs ++ cap).toArray w T
def ac1 (P : Program) (w0 : World) (F : HP) (fv : Value) (g : Int → Bool) : Prop :=
  fv.oneCell' = true ∧ ∀ (G : HP) (W : World), V w0 W (G • F) → ∀ r, Yu P fv [.int .i32 r] W fun v W' => v = .bool (g r) ∧ V w0 W' (G • F)
end
def BP (I : Hp) (k : IntKind) (v : Value) (l : List Int) : Prop := ∃ a c, v = .slice a l.length c ∧ l.length ≤ c ∧ (c : Int) ≤ 9223372036854775807 ∧
  (0 < l.length → ∃ b o cs e fr, a = some ⟨b, o, none⟩ ∧ I b = some (.cells cs e fr) ∧ ∀ j, j < l.length → cs[o + j]? = some (.int k (l.getD j 0)))
theorem BP.mono {I I' : Hp} {k : IntKind} {v : Value} {l : List Int} (hl : Hp.le I I') (h : BP I k v l) : BP I' k v l := by
  obtain ⟨a, c, h1, h2, h3, h4⟩ := h
  exact ⟨a, c, h1, h2, h3, fun hp => let ⟨b, o, cs, e, fr, e1, e2, e3⟩ := h4 hp; ⟨b, o, cs, e, fr, e1, hl _ _ e2, e3⟩⟩
def FU (k : IntKind) (v : Value) (l : List Int) : HP := know (fun I => BP I k v l) fun _ _ hl h => h.mono hl
theorem mM.mk {w : World} {k : IntKind} {v : Value} {l : List Int} {a : Option Addr} {c : Nat} (h1 : v = .slice a l.length c) (h2 : l.length ≤ c) (h3 : (c : Int) ≤ 9223372036854775807)
    (h4 : 0 < l.length → ∃ b o, a = some ⟨b, o, none⟩ ∧ ∀ j, j < l.length → w.cell? ⟨b, o + j, none⟩ = some (.int k (l.getD j 0))) : mM w k v l := by
  refine ⟨by simp, a, c, h1, h2, h3, fun hp => ?_⟩
  obtain ⟨b, o, e, hc⟩ := h4 hp
  refine ⟨b, o, e, fun j hj => ?_⟩
  rw [hc j (by omega)]
  simp [List.getD_eq_getElem?_getD, show j < l.length by omega]
theorem BP.rd {w : World} {n : Nat} {I : Hp} {k : IntKind} {v : Value} {l : List Int} (h : BP I k v l) (hI : ∀ k o, I k = some o → n ≤ k ∧ w.heap[k]? = some o) : mM w k v l := by
  obtain ⟨a, c, h1, h2, h3, h4⟩ := h
  exact mM.mk h1 h2 h3 fun hp => let ⟨b, o, cs, e, fr, e1, e2, e3⟩ := h4 hp; ⟨b, o, e1, fun j hj => iP (hI _ _ e2).2 (e3 j hj)⟩
section
variable {w0 w : World} {F : HP} {e : TypeId} {k : IntKind} {v : Value} {l : List Int}
theorem V.CY (H : V w0 w (FU k v l • F)) : mM w k v l := let ⟨I, h, hI⟩ := H.xw; h.rd hI
theorem tN {K K' : Hp → Prop} {hK : ∀ I I', Hp.le I I' → K I → K I'} {hK' : ∀ I I', Hp.le I I' → K' I → K' I'} (h : ∀ I, K I → K' I) (B : HP) : KN (know K hK • B) (know K' hK' • B) := fun I x ha =>
  (oN K' hK' B I x).2 ⟨h I ((oN K hK B I x).1 ha).1, ((oN K hK B I x).1 ha).2⟩
theorem uX {K K' M : Hp → Prop} {hK : ∀ I I', Hp.le I I' → K I → K I'} {hK' : ∀ I I', Hp.le I I' → K' I → K' I'} {hM : ∀ I I', Hp.le I I' → M I → M I'} (h : ∀ I, K I → K' I → M I) (B : HP) : KN (know K hK • know K' hK' • B) (know M hM • B) := fun I x ha => by
  have h1 := (oN K hK _ I x).1 ha
  have h2 := (oN K' hK' _ I x).1 h1.2
  exact (oN M hM B I x).2 ⟨h I h1.1 h2.1, h2.2⟩
theorem V.Gg {K : Hp → Prop} {hK : ∀ I I', Hp.le I I' → K I → K I'} (h : ∀ I, K I) (H : V w0 w F) : V w0 w (know K hK • F) := H.F7 fun I x ha => (oN K hK F I x).2 ⟨h I, ha⟩
theorem V.oJ (H : V w0 w (jR e k v l • F)) : V w0 w (FU k v l • F) := by
  rcases H.wV with ⟨a, rfl, h1, h2, H1⟩ | ⟨g, o, c, cur, rfl, h2, h3, h4, h5, H1⟩
  · have hl : l = [] := by simpa using h2
    subst hl
    exact H1.KO.F7 fun I x ha => (oN _ _ F I x).2 ⟨⟨a, 0, rfl, by simp, by decide, fun h => by simp at h⟩, by rw [Go.Proofs.YtimndnfpcomhlaaGreatDoor.oh] at ha; exact ha⟩
  · refine H1.freeze.F7 (tN (fun I hI => ⟨_, c, rfl, h2, h3, fun _ => ⟨g, o, cur, e, (0, 0), rfl, hI, fun j hj => ?_⟩⟩) F)
    rw [h5 j (by omega)]
    simp [List.getD_eq_getElem?_getD, hj]
end
end Go.Proofs.YtimndnfpcomhlaaGreatDoor
end
section
namespace Go.Proofs.YtimndnfpcomhlaaGreatDoor
open Go.RowKit
open _root_.Go.Proofs.Tryz
def lG (r : Int) : Bool := decide (0 ≤ r ∧ r < 55296 ∨ 57343 < r ∧ r ≤ 1114111)
def MW (r : Int) : Bool := decide (0 ≤ r ∧ r < 32 ∨ 127 ≤ r ∧ r ≤ 159)
def within (r : Int) (T : List (Int × Int)) : Bool := T.any fun x => decide (x.1 ≤ r ∧ r ≤ x.2)
def Yv : List (Int × Int) := [(768, 879), (1155, 1161), (1425, 1469), (1552, 1562), (1611, 1631), (3633, 3633), (3636, 3642), (3655, 3662), (6832, 6911), (7616, 7679), (8203, 8207), (8400, 8447), (12441, 12442), (65024, 65039), (65056, 65071)]
def Yw : List (Int × Int) := [(4352, 4447), (11904, 12350), (12353, 13311), (13312, 19903), (19968, 40959), (40960, 42191), (44032, 55203), (63744, 64255), (65072, 65135), (65280, 65376), (65504, 65510), (127744, 128591), (129280, 129535), (131072, 262141)]
def UF (r : Int) : Int := if !lG r || MW r || within r Yv then 0 else if within r Yw then 2 else 1
def Gh (r : Int) : Bool :=
  if r < 192 then decide (48 ≤ r ∧ r ≤ 57 ∨ 65 ≤ r ∧ r ≤ 90 ∨ 97 ≤ r ∧ r ≤ 122)
  else if r = 215 ∨ r = 247 ∨ r = 65533 ∨ 8192 ≤ r ∧ r ≤ 8303 ∨ 12288 ≤ r ∧ r ≤ 12351 ∨ 65280 ≤ r ∧ r ≤ 65295 then false
  else lG r && decide (0 < UF r)
theorem V.cell {w0 w : World} {F : HP} (H : V w0 w F) {a : Addr} {v : Value} (h : w0.cell? a = some v) : w.cell? a = some v := (H.base.cell (World.block_lt_of_cell? _ _ h)).trans h
theorem SH {w : World} {b o : Nat} {u v : Value} (h : w.cell? ⟨b, o, none⟩ = some u) (k : w.cell? ⟨b, o + 1, none⟩ = some v) : ∀ (j : Nat) x, ([u, v] : List Value)[j]? = some x → w.cell? ⟨b, o + j, none⟩ = some x := by
  intro j x hj
  match j, hj with
  | 0, hj => cases hj; exact h
  | 1, hj => cases hj; exact k
  | j + 2, hj => simp at hj
def QN (T : List (Int × Int)) : List Value := T.flatMap fun x => [.int .i32 x.1, .int .i32 x.2]
structure adj (w : World) : Prop where
  ac2 : Rd w 2 (.slice (some ⟨0, 0, none⟩) 15 15) 15 (QN Yv)
  ac3 : Rd w 2 (.slice (some ⟨1, 0, none⟩) 14 14) 14 (QN Yw)
section
variable {w0 w : World} {F : HP} {r : Int}
theorem SI : iU prog 120 #[.int .i32 r] w fun v w' => v = .bool (lG r) ∧ w = w' := by
 refine ji func120 ntmps120 ?_
 refine lZ O (aO (bn (bM O (aV (BZ O O) (qC O (fun h1 => ?_) (fun h1 => ?_))))))
 ·(try simp only [aH] at h1)
  refine bU (cZ O (bU (aV (fJ O O) (pW O O (gY O (bI O (fun h2 => ?_) (fun h2 => ?_)))))))
  ·(try simp only [aH] at h2)
   refine lF O (bD (aK (fB results120 O ?_)))
   refine ⟨?_, O⟩; congr 1; first | (symm; rw [lG, decide_eq_true_eq]; omega) | (symm; rw [lG, decide_eq_false_iff_not]; omega) | (rw [lG, decide_eq_decide]; omega)
  ·(try simp only [aH] at h2)
   refine bM O (aV (fJ O O) (qC O (fun h3 => ?_) (fun h3 => ?_)))
   ·(try simp only [aH] at h3)
    refine bU (cZ O (bU (aV (BZ O O) (pW O O (gY O (bI O (fun h4 => ?_) (fun h4 => ?_)))))))
    ·(try simp only [aH] at h4)
     refine lF O (bD (aK (fB results120 O ?_)))
     refine ⟨?_, O⟩; congr 1; first | (symm; rw [lG, decide_eq_true_eq]; omega) | (symm; rw [lG, decide_eq_false_iff_not]; omega) | (rw [lG, decide_eq_decide]; omega)
    ·(try simp only [aH] at h4)
     refine fU (aN (bg (lF O (fB results120 O ?_))))
     refine ⟨?_, O⟩; congr 1; first | (symm; rw [lG, decide_eq_true_eq]; omega) | (symm; rw [lG, decide_eq_false_iff_not]; omega) | (rw [lG, decide_eq_decide]; omega)
   ·(try simp only [aH] at h3)
    refine dH (dH (lV O O (gY O (vO (fU (aN (bg (lF O (fB results120 O ?_)))))))))
    refine ⟨?_, O⟩; congr 1; first | (symm; rw [lG, decide_eq_true_eq]; omega) | (symm; rw [lG, decide_eq_false_iff_not]; omega) | (rw [lG, decide_eq_decide]; omega)
 ·(try simp only [aH] at h1)
  refine dH (dH (lV O O (gY O (vO (bM O (aV (fJ O O) (qC O (fun h5 => ?_) (fun h5 => ?_))))))))
  ·(try simp only [aH] at h5)
   exfalso; first | contradiction | omega
  ·(try simp only [aH] at h5)
   refine dH (dH (lV O O (gY O (vO (fU (aN (bg (lF O (fB results120 O ?_)))))))))
   refine ⟨?_, O⟩; congr 1; first | (symm; rw [lG, decide_eq_true_eq]; omega) | (symm; rw [lG, decide_eq_false_iff_not]; omega) | (rw [lG, decide_eq_decide]; omega)
theorem Zc : iU prog 116 #[.int .i32 r] w fun v w' => v = .bool (lG r) ∧ w = w' := by
  refine ji func116 ntmps116 ?_
  refine lZ O (bM O (dZ O func120 (SI) ?_))
  rintro _ _ ⟨rfl, rfl⟩
  refine iW O (fB results116 O ?_)
  exact ⟨O, O⟩
end
end Go.Proofs.YtimndnfpcomhlaaGreatDoor
end
