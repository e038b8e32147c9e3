import Derived.Test.YtimndnfpcomhlaaGreatDoorZ4
import Derived.Test.YtimndnfpcomhlaaGreatDoorZ7
import Derived.Test.YtimndnfpcomhlaaGreatDoorZ5
import Derived.Test.YtimndnfpcomhlaaGreatDoorZ3
set_option linter.unusedSimpArgs false
set_option linter.unusedVariables false
/- Texts of mine, joined, their names in short: Flat Undo1 Undo2 Eds UList Range UList2 UList3. -/
section
namespace Go.Proofs.YtimndnfpcomhlaaGreatDoor
open Go.RowKit
theorem U5 {α : Type _} {enc : α → List Value} {sz : Nat} (he : ∀ a, (enc a).length = sz) (l : List α) : (l.flatMap enc).length = l.length * sz := by
  induction l with
  | nil => simp
  | cons a l ih => simp [he, ih, Nat.add_mul, Nat.add_comm]
theorem kH {α : Type _} {enc : α → List Value} {sz : Nat} (he : ∀ a, (enc a).length = sz) {l : List α} {k : Nat} (hk : k < l.length) (d : α) : ((l.flatMap enc).drop (k * sz)).take sz = enc (l.getD k d) := by
  have h1 : l = l.take k ++ l.getD k d :: l.drop (k + 1) := by
    rw [List.getD_eq_getElem?_getD, List.getElem?_eq_getElem hk]
    simp
  have h2 : ((l.take k).flatMap enc).length = k * sz := by rw [U5 he, List.length_take, Nat.min_eq_left (by omega)]
  conv => lhs; rw [h1]
  rw [List.flatMap_append, List.drop_append, h2]
  simp [h2, List.take_append, he]
theorem Lm {α : Type _} [Inhabited α] {sz n : Nat} {enc : α → List Value} {xs : List Value} {p : α → Prop} (hx : xs.length = n * sz) (h : ∀ k, k < n → ∃ a, (xs.drop (k * sz)).take sz = enc a ∧ p a) : ∃ l : List α, l.length = n ∧ xs = l.flatMap enc ∧ ∀ k, k < n → p (l.getD k default) := by
  induction n generalizing xs with
  | zero => exact ⟨[], rfl, by simpa using List.eq_nil_of_length_eq_zero (by simpa using hx), fun k hk => by omega⟩
  | succ n ih =>
    obtain ⟨a, h1, h2⟩ := h 0 (by omega)
    rw [Nat.zero_mul, List.drop_zero] at h1
    obtain ⟨l, g1, g2, g3⟩ := ih (xs := xs.drop sz) (by rw [List.length_drop, hx, Nat.succ_mul]; omega) (fun k hk => by
      obtain ⟨b, h3, h4⟩ := h (k + 1) (by omega)
      exact ⟨b, by rw [← h3, List.drop_drop, Nat.succ_mul, Nat.add_comm], h4⟩)
    refine ⟨a :: l, by simp [g1], ?_, fun k hk => ?_⟩
    · rw [List.flatMap_cons, ← g2, ← h1, List.take_append_drop]
    · cases k with
      | zero => exact h2
      | succ k => exact g3 k (by omega)
theorem jC {P : Program} {L : List (Nat × Value)} {w : World} {ty : TypeId} {x : Operand} {t : TypeId} {d : TypeDesc} {b o n c sz n' k : Nat} {xs ys : List Value} (hr : Rd w sz (.slice (some ⟨b, o, none⟩) n c) n' xs) (hk : k < n') (hu : P.underlying t = some d) (hd : KT d = true) (hs : ∀ w, (sizeOf t).run P w = .ok sz w)
    (hx : ev L x = some (.pointer (some ⟨b, o + (k : Int).toNat * sz, none⟩))) (hy : (xs.drop (k * sz)).take sz = ys) (hl : ys.length = sz) : Val P L (.load t x) ty w (.agg ys.toArray) w :=
  yZ (by rw [hu]; rfl) (JL hu hd) hs hl hx (fun j u hj => by
    have hjl : j < sz := by rw [← hl]; exact (List.getElem?_eq_some_iff.1 hj).1
    rw [hr.atS hk hjl, List.getD_eq_getElem?_getD]
    rw [← hy, List.getElem?_take, if_pos hjl, List.getElem?_drop] at hj
    rw [hj]; rfl)
end Go.Proofs.YtimndnfpcomhlaaGreatDoor
end
section
namespace Go.Proofs.YtimndnfpcomhlaaGreatDoor
open Go.RowKit
open _root_.Go.Proofs.Tryz
section
variable {w0 w : World} {F : HP} {v d s z d2 z2 u1 u2 u3 : Value} {L dl il dl2 il2 l1 l2 l3 : List Int} {a a2 : Int}
def abM (L : List Int) (a : Int) (dl : List Int) : Bool := decide (0 ≤ a ∧ a + dl.length ≤ L.length) && ((L.drop a.toNat).take dl.length == dl)
def uE (L : List Int) (a : Int) (dl il : List Int) : Int := if abM L a dl then (if 1024 < (L.length : Int) - dl.length + il.length then 3 else 0) else 1
def uL (L : List Int) (a : Int) (dl il : List Int) : List Int := if uE L a dl il = 0 then L.take a.toNat ++ il ++ L.drop (a.toNat + dl.length) else []
abbrev edV (a : Int) (d z : Value) : Value := .agg #[.int .i64 a, d, z]
theorem wI (H : V w0 w F) (hd : kP w0 F .i32 d dl) (hi : kP w0 F .i32 z il) (b2 : dl.length ≤ 35184372087808) (b3 : il.length ≤ 35184372087808) :
  iU prog 109 #[edV a d z] w fun v' w' => ∃ d' s', v' = edV a d' s' ∧ V w0 w' (jR 21 .i32 d' dl • jR 21 .i32 s' il • F) := by
 refine ji func109 ntmps109 ?_
 refine jg (jL (jG (l := [_, _, _]) H O O) ?_)
 rintro _ w1 ⟨b1, rfl, H1⟩
 refine jL (fE (l := [_, _, _]) H1 dB O) ?_
 rintro _ w2 ⟨b2, rfl, H2⟩
 refine qj ?_
 have U6 := H2.drew
 have yL := V.kp (U6.f2.f2)
 refine xP [1, 3, 6] yL O (fV 0 O yL 0 aS O aj O (jq 1 O yL (fun W hW => jV ay O ((Kp.h hW).f2).get.2 O) (fV 2 O yL 1 aS O dD O (jq 3 O yL (fun W hW => jV aG O ((Kp.h hW).f2).get.2 O) (fV 5 O yL 2 aS O dD O (jq 6 O yL (fun W hW => jV aG O ((Kp.h hW).f2).get.2 O) (mP 4 O (wu O func93 (sK U6 (fun W HW => hd _ (HW.right.right)) (by omega))) ?_)))))))
 rintro u3 w3 H3
 have wG := V.kp (H3.f3.f3.f3)
 refine dK wG (fun W hW => (Kp.h hW).right.f2.f2) ?_
 refine mP 7 O (wu O func93 (sK H3 (fun W HW => hi _ (HW.right.right.right)) (by omega))) ?_
 rintro u4 w4 H4
 have kW := V.kp (H4.f4.f4.f4.f4)
 refine dK kW (fun W hW => (Kp.h hW).right.f3.f3.f3) ?_
 obtain ⟨au3, cu3, eu3, -⟩ := mM.open ((H4.f2).aP)
 subst eu3
 obtain ⟨au4, cu4, eu4, -⟩ := mM.open ((H4).aP)
 subst eu4
 refine jW 8 O kW (fun _ => lQ (pl := #[(0, 1), (1, 1), (2, 1)]) (#[_, _, _]) aS dB (fun w => by kernel_rfl) O (O)) ?_
 refine eF 9 O (by kernel_rfl) (dh 0 (l' := [_, _, _]) (us := [_, _, _]) H4.f3 bG O O O (aF (aZ (by first | rfl | exact Rd.one ((H4.f2).aP)) (aZ (by first | rfl | exact Rd.one ((H4).aP)) bK))) O O) ?_
 rintro _ w7 H7
 have yM := V.kp (H7.f4.f4.f4.f4)
 refine iC yM (by kernel_rfl) ?_
 refine qp (bg (rV ?_))
 refine rW (.inl O) (Pv results109 O aS O (by rw [qU]; rfl) (H7).get.2) ?_
 exact ⟨_, _, O, H7.right.f3.right.f2⟩
theorem EJ (H : V w0 w F) (hd : kP w0 F .i32 d dl) (hi : kP w0 F .i32 z il) (b2 : dl.length ≤ 35184372087808) (b3 : il.length ≤ 35184372087808) :
  iU prog 114 #[edV a d z] w fun v' w' => ∃ d' s', v' = edV a d' s' ∧ V w0 w' (jR 21 .i32 d' il • jR 21 .i32 s' dl • F) := by
 refine ji func114 ntmps114 ?_
 refine jg (jL (jG (l := [_, _, _]) H O O) ?_)
 rintro _ w1 ⟨b1, rfl, H1⟩
 refine jL (fE (l := [_, _, _]) H1 dB O) ?_
 rintro _ w2 ⟨b2, rfl, H2⟩
 refine Xy (bf 0 aS O aj O (dQ ay O (H2.f2).get.2 O (bf 2 aS O dD O (dQ aG O (H2.f2).get.2 O (bf 1 aS O dD O (dQ aG O (H2.f2).get.2 O ?_))))))
 obtain ⟨az, cz, ez, -⟩ := mM.open (hi _ (H2.right.right))
 subst ez
 obtain ⟨ad, cd, ed, -⟩ := mM.open (hd _ (H2.right.right))
 subst ed
 refine aV (lQ (pl := #[(0, 1), (1, 1), (2, 1)]) (#[_, _, _]) aS dB (fun w => by kernel_rfl) O (O)) (dZ O func109 (wI H2 (fun W HW => hi _ (HW.right.right)) (fun W HW => hd _ (HW.right.right)) (by omega) (by omega)) ?_)
 rintro _ w5 ⟨d5, s5, rfl, H5⟩
 refine aI (dh 0 (l' := [_, _, _]) (us := [_, _, _]) H5.f3 bG O O O (aF (aZ (by first | rfl | exact Rd.one ((H5).aP)) (aZ (by first | rfl | exact Rd.one ((H5.f2).aP)) bK))) O O) ?_
 rintro _ w6 H6
 refine zkc ?_
 refine rW (.inl O) (Pv results114 O aS O (by rw [qU]; rfl) (H6).get.2) ?_
 exact ⟨_, _, O, H6.right.f3.right.f2.f2⟩
end
end Go.Proofs.YtimndnfpcomhlaaGreatDoor
end
section
namespace Go.Proofs.YtimndnfpcomhlaaGreatDoor
open Go.RowKit
section
variable {w0 w : World} {F : HP} {v d s z d2 z2 u1 u2 u3 : Value} {L dl il dl2 il2 l1 l2 l3 : List Int} {a a2 : Int}
def jK (a a2 : Int) (dl il dl2 il2 : List Int) : Nat := if dl2.length = 0 ∧ a2 = a + il.length then 1 else if il.length = 0 ∧ il2.length = 0 ∧ a = a2 + dl2.length then 2 else 0
def jA (k : Nat) (a a2 : Int) : Int := if k = 1 then a else if k = 2 then a2 else 0
def jD (k : Nat) (dl dl2 : List Int) : List Int := if k = 1 then dl else if k = 2 then dl2 ++ dl else []
def jI (k : Nat) (il il2 : List Int) : List Int := if k = 1 then il ++ il2 else []
end
structure fD where
  a : Int
  d : Value
  dl : List Int
  i : Value
  il : List Int
instance : Inhabited fD := ⟨⟨0, .slice none 0 0, [], .slice none 0 0, []⟩⟩
def fD.enc (e : fD) : List Value := [.int .i64 e.a, e.d, e.i]
theorem fD.tY (e : fD) : e.enc.length = 3 := rfl
def fD.Imm (I : Hp) (e : fD) : Prop := BP I .i32 e.d e.dl ∧ BP I .i32 e.i e.il
theorem fD.Imm.mono {I I' : Hp} {e : fD} (hl : Hp.le I I') (h : e.Imm I) : e.Imm I' := ⟨h.1.mono hl, h.2.mono hl⟩
def fD.says (e : fD) : Int × List Int × List Int := (e.a, e.dl, e.il)
def FW (I : Hp) (es : List fD) : Prop := ∀ k, k < es.length → (es.getD k default).Imm I
theorem FW.mono {I I' : Hp} {es : List fD} (hl : Hp.le I I') (h : FW I es) : FW I' es := fun k hk => (h k hk).mono hl
theorem FW.app {I : Hp} {es fs : List fD} (h : FW I es) (g : FW I fs) : FW I (es ++ fs) := fun k hk => by
  by_cases hl : k < es.length
  · rw [uQ hl]; exact h k hl
  · rw [tX (by omega)]; exact g _ (by simp at hk; omega)
theorem FW.one {I : Hp} {e : fD} (h : e.Imm I) : FW I [e] := fun k hk => by
  obtain rfl : k = 0 := by simp at hk; omega
  exact h
def nC (es : List fD) : HP := know (fun I => FW I es) fun _ _ hl h => h.mono hl
def edK (e : fD) : HP := know (fun I => e.Imm I) fun _ _ hl h => h.mono hl
def Jt (v : Value) (es : List fD) : HP := Row 124 3 v es.length (es.flatMap fD.enc) • nC es
def FX (I : Hp) (sz : Nat) (v : Value) (n : Nat) (xs : List Value) : Prop := xs.length = n * sz ∧ ∃ a c, v = .slice a n c ∧ n ≤ c ∧ (c : Int) ≤ 9223372036854775807 ∧
  (0 < n → ∃ b o cs e fr, a = some ⟨b, o, none⟩ ∧ I b = some (.cells cs e fr) ∧ ∀ j, j < n * sz → cs[o + j]? = some (xs.getD j undef))
theorem FX.mono {I I' : Hp} {sz n : Nat} {v : Value} {xs : List Value} (hl : Hp.le I I') (h : FX I sz v n xs) : FX I' sz v n xs := by
  obtain ⟨h0, a, c, h1, h2, h3, h4⟩ := h
  exact ⟨h0, a, c, h1, h2, h3, fun hp => let ⟨b, o, cs, e, fr, e1, e2, e3⟩ := h4 hp; ⟨b, o, cs, e, fr, e1, hl _ _ e2, e3⟩⟩
theorem FX.rd {w : World} {m : Nat} {I : Hp} {sz n : Nat} {v : Value} {xs : List Value} (h : FX I sz v n xs) (hI : ∀ k o, I k = some o → m ≤ k ∧ w.heap[k]? = some o) : Rd w sz v n xs := by
  obtain ⟨h0, a, c, h1, h2, h3, h4⟩ := h
  exact ⟨h0, a, c, h1, h2, h3, fun hp => let ⟨b, o, cs, e, fr, e1, e2, e3⟩ := h4 hp; ⟨b, o, e1, fun j hj => iP (hI _ _ e2).2 (e3 j hj)⟩⟩
theorem FX.U4 {I : Hp} {sz n : Nat} {v : Value} {xs : List Value} (h : FX I sz v n xs) : v.oneCell' = true := by obtain ⟨_, a, c, rfl, _⟩ := h; rfl
def ElI (I : Hp) (v : Value) (es : List fD) : Prop := FX I 3 v es.length (es.flatMap fD.enc) ∧ FW I es
theorem ElI.mono {I I' : Hp} {v : Value} {es : List fD} (hl : Hp.le I I') (h : ElI I v es) : ElI I' v es := ⟨h.1.mono hl, h.2.mono hl⟩
def Et (v : Value) (es : List fD) : HP := know (fun I => ElI I v es) fun _ _ hl h => h.mono hl
def DY (I : Hp) (gs : List (Value × List fD)) : Prop := ∀ k, k < gs.length → ElI I (gs.getD k default).1 (gs.getD k default).2
theorem DY.mono {I I' : Hp} {gs : List (Value × List fD)} (hl : Hp.le I I') (h : DY I gs) : DY I' gs := fun k hk => (h k hk).mono hl
theorem DY.app {I : Hp} {es fs : List (Value × List fD)} (h : DY I es) (g : DY I fs) : DY I (es ++ fs) := fun k hk => by
  by_cases hl : k < es.length
  · rw [uQ hl]; exact h k hl
  · rw [tX (by omega)]; exact g _ (by simp at hk; omega)
theorem DY.one {I : Hp} {v : Value} {es : List fD} (h : ElI I v es) : DY I [(v, es)] := fun k hk => by
  obtain rfl : k = 0 := by simp at hk; omega
  exact h
theorem DY.take {I : Hp} {gs : List (Value × List fD)} (h : DY I gs) (n : Nat) : DY I (gs.take n) := fun k hk => by
  simp at hk
  rw [EI (by omega)]
  exact h k (by omega)
def tZ (gs : List (Value × List fD)) : HP := know (fun I => DY I gs) fun _ _ hl h => h.mono hl
def DZ (v : Value) (gs : List (Value × List fD)) : HP := Row 67 1 v gs.length (gs.map (·.1)) • tZ gs
section
variable {w0 w : World} {F : HP} {v u : Value} {es fs : List fD} {e : fD} {gs : List (Value × List fD)} {a : Int} {d i : Value} {dl il : List Int}
theorem V.Hg (H : V w0 w F) : V w0 w (nC [] • F) := H.Gg fun I k hk => by simp at hk
theorem V.Nv (H : V w0 w F) : V w0 w (tZ [] • F) := H.Gg fun I k hk => by simp at hk
theorem V.uS (H : V w0 w F) (a : Option Addr) : V w0 w (Jt (.slice a 0 0) [] • F) := (H.Hg.jH (e := 124) (sz := 3) a).deep
theorem V.D5 (H : V w0 w F) (a : Option Addr) : V w0 w (DZ (.slice a 0 0) [] • F) := (H.Nv.jH (e := 67) (sz := 1) a).deep
theorem V.edL (H : V w0 w (Jt v es • F)) : V w0 w (Row 124 3 v es.length (es.flatMap fD.enc) • nC es • F) := H.flat
theorem V.Zk (H : V w0 w (DZ v gs • F)) : V w0 w (Row 67 1 v gs.length (gs.map (·.1)) • tZ gs • F) := H.flat
theorem V.yN (H : V w0 w (Row 124 3 v (es.length + 1) (es.flatMap fD.enc ++ [.int .i64 a, d, i]) • FU .i32 d dl • FU .i32 i il • nC es • F)) : V w0 w (Jt v (es ++ [⟨a, d, dl, i, il⟩]) • F) := by
  have h1 : V w0 w (FU .i32 d dl • FU .i32 i il • nC es • Row 124 3 v (es.length + 1) (es.flatMap fD.enc ++ [.int .i64 a, d, i]) • F) := H.of_eq (by ac_rfl)
  have h2 : V w0 w (edK ⟨a, d, dl, i, il⟩ • nC es • Row 124 3 v (es.length + 1) (es.flatMap fD.enc ++ [.int .i64 a, d, i]) • F) := h1.F7 (uX (fun I h g => ⟨h, g⟩) _)
  have h3 : V w0 w (nC (es ++ [⟨a, d, dl, i, il⟩]) • Row 124 3 v (es.length + 1) (es.flatMap fD.enc ++ [.int .i64 a, d, i]) • F) := h2.F7 (uX (fun I h g => g.app (FW.one h)) _)
  refine V.deep (h3.swap.of_eq ?_)
  rw [List.length_append, List.flatMap_append]
  simp [fD.enc]
theorem V.xg (H : V w0 w (Jt v es • F)) : V w0 w (Et v es • F) := by
  have hl := H.edL.y7
  have H := H.edL
  rcases H.wV with ⟨a, rfl, h1, h2, H1⟩ | ⟨g, o, c, cur, rfl, h2, h3, h4, h5, H1⟩
  · refine H1.F7 (tN (fun I hI => ⟨⟨hl, a, 0, by rw [h1], by omega, by decide, fun h => by omega⟩, hI⟩) F)
  · exact H1.freeze.F7 (uX (fun I hI hE => ⟨⟨hl, _, c, rfl, h2, h3, fun _ => ⟨g, o, cur, _, (0, 0), rfl, hI, h5⟩⟩, hE⟩) F)
theorem V.Dh (H : V w0 w (Et v es • F)) : Rd w 3 v es.length (es.flatMap fD.enc) := let ⟨I, h, hI⟩ := H.xw; h.1.rd hI
theorem V.aaL (H : V w0 w (Et v es • F)) {k : Nat} (hk : k < es.length) : mM w .i32 (es.getD k default).d (es.getD k default).dl := let ⟨I, h, hI⟩ := H.xw; (h.2 k hk).1.rd hI
theorem V.aaM (H : V w0 w (Et v es • F)) {k : Nat} (hk : k < es.length) : mM w .i32 (es.getD k default).i (es.getD k default).il := let ⟨I, h, hI⟩ := H.xw; (h.2 k hk).2.rd hI
theorem V.Nw (H : V w0 w (tZ gs • F)) {k : Nat} (hk : k < gs.length) : V w0 w (Et (gs.getD k default).1 (gs.getD k default).2 • tZ gs • F) := H.Gq.F7 (tN (fun I h => h k hk) _)
theorem V.U7 (H : V w0 w (tZ gs • F)) (n : Nat) : V w0 w (tZ (gs.take n) • F) := H.F7 (tN (fun I h => h.take n) _)
theorem V.yO (H : V w0 w (Row 67 1 v (gs.length + 1) (gs.map (·.1) ++ [u]) • Et u es • tZ gs • F)) : V w0 w (DZ v (gs ++ [(u, es)]) • F) := by
  have h1 : V w0 w (Et u es • tZ gs • Row 67 1 v (gs.length + 1) (gs.map (·.1) ++ [u]) • F) := H.of_eq (by ac_rfl)
  have h3 : V w0 w (tZ (gs ++ [(u, es)]) • Row 67 1 v (gs.length + 1) (gs.map (·.1) ++ [u]) • F) := h1.F7 (uX (fun I h g => g.app (DY.one h)) _)
  refine V.deep (h3.swap.of_eq ?_)
  rw [List.length_append, List.map_append]
  rfl
theorem V.Ny (H : V w0 w (nC es • F)) : ∀ x ∈ es.flatMap fD.enc, x.oneCell' = true := by
  obtain ⟨I, h, hI⟩ := H.xw
  intro x hx
  obtain ⟨e, he, hx⟩ := List.mem_flatMap.1 hx
  obtain ⟨k, hk, rfl⟩ := List.getElem_of_mem he
  have := h k hk
  rw [List.getD_eq_getElem?_getD, List.getElem?_eq_getElem hk] at this
  simp [fD.enc] at hx
  rcases hx with rfl | rfl | rfl
  · rfl
  · exact this.1.U4
  · exact this.2.U4
end
end Go.Proofs.YtimndnfpcomhlaaGreatDoor
end
section
namespace Go.Proofs.YtimndnfpcomhlaaGreatDoor
open Go.RowKit
open _root_.Go.Proofs.Tryz
abbrev gV := Int × List Int × List Int
def gI (G : List (List gV)) (N : List gV) : Nat := (G.map List.length).sum + N.length
def EB (e : gV) : Prop := e.2.1.length ≤ 35184372087808 ∧ e.2.2.length ≤ 35184372087808
theorem XM {N : List gV} {x : gV} (h : ∀ e ∈ N, EB e) (hx : EB x) : ∀ e ∈ N ++ [x], EB e := fun e he => by
  rcases List.mem_append.1 he with he | he
  · exact h e he
  · rw [List.mem_singleton.1 he]; exact hx
theorem Nz {G : List (List gV)} {N : List gV} (h : ∀ g ∈ G, ∀ e ∈ g, EB e) (hx : ∀ e ∈ N, EB e) : ∀ g ∈ G ++ [N], ∀ e ∈ g, EB e := fun g hg => by
  rcases List.mem_append.1 hg with hg | hg
  · exact h g hg
  · rw [List.mem_singleton.1 hg]; exact hx
theorem QU {G : List (List gV)} {N : List gV} (h : ∀ g ∈ G, g ≠ []) (hx : N ≠ []) : ∀ g ∈ G ++ [N], g ≠ [] := fun g hg => by
  rcases List.mem_append.1 hg with hg | hg
  · exact h g hg
  · rw [List.mem_singleton.1 hg]; exact hx
def XO (G : List (List gV)) (N : List gV) (op : Int) : Prop := (∀ g ∈ G, g ≠ []) ∧ gI G N ≤ 16384 ∧ 0 ≤ op ∧ op ≤ 4611686018427387904 ∧ (∀ g ∈ G, ∀ e ∈ g, EB e) ∧ ∀ e ∈ N, EB e
theorem PY {G : List (List gV)} (h : ∀ g ∈ G, g ≠ []) : G.length ≤ (G.map List.length).sum := by
  induction G with
  | nil => simp
  | cons g G ih =>
    have h1 := ih fun x hx => h x (by simp [hx])
    have h2 : 0 < g.length := List.length_pos_iff.2 (h g (by simp))
    simp; omega
theorem XO.len {G : List (List gV)} {N : List gV} {op : Int} (h : XO G N op) : G.length + N.length ≤ 16384 := by
  have := PY h.1
  have := h.2.1
  unfold gI at this
  omega
def iL (p : Nat) (G : List (List gV)) (N : List gV) (op : Int) : HP := wR fun (x : Value × Value × List (Value × List fD) × List fD) =>
  fact (XO G N op ∧ x.2.2.1.map (fun g => g.2.map fD.says) = G ∧ x.2.2.2.map fD.says = N) • dR p (.cells #[x.1, x.2.1, .int .i64 op, .int .i64 (gI G N : Nat), .bool true] 168 (0, 0)) • DZ x.1 x.2.2.1 • Jt x.2.1 x.2.2.2
section
variable {w0 w : World} {F : HP} {p : Nat} {G : List (List gV)} {N : List gV} {op : Int} {gv nv : Value} {gs : List (Value × List fD)} {now : List fD} {a : Int} {d z : Value} {dl il : List Int}
theorem V.wB (H : V w0 w (iL p G N op • F)) : ∃ gv nv gs now, XO G N op ∧ gs.map (fun g => g.2.map fD.says) = G ∧ now.map fD.says = N ∧ gs.length = G.length ∧ now.length = N.length ∧ G.length + N.length ≤ 16384 ∧
    V w0 w (dR p (.cells #[gv, nv, .int .i64 op, .int .i64 (gI G N : Nat), .bool true] 168 (0, 0)) • Row 67 1 gv gs.length (gs.map (·.1)) • tZ gs • Row 124 3 nv now.length (now.flatMap fD.enc) • nC now • F) := by
  obtain ⟨⟨gv, nv, gs, now⟩, H⟩ := H.qP
  obtain ⟨⟨h1, h2, h3⟩, H⟩ := H.flat.fact
  refine ⟨gv, nv, gs, now, h1, h2, h3, ?_, ?_, h1.len, ?_⟩
  · rw [← h2]; simp
  · rw [← h3]; simp
  · have := H.flat
    unfold DZ Jt at this
    exact this.of_eq (by ac_rfl)
theorem V.vw (h1 : XO G N op) (h2 : gs.map (fun g => g.2.map fD.says) = G) (h3 : now.map fD.says = N) {ed : Int} (he : ed = (gI G N : Nat))
    (H : V w0 w (dR p (.cells #[gv, nv, .int .i64 op, .int .i64 ed, .bool true] 168 (0, 0)) • DZ gv gs • Jt nv now • F)) : V w0 w (iL p G N op • F) := by
  subst he
  exact V.jQ (gv, nv, gs, now) (V.deep (V.nH ⟨h1, h2, h3⟩ (H.of_eq (by ac_rfl))))
theorem V.nG (h1 : XO G N op) (h2 : gs.map (fun g => g.2.map fD.says) = G) (h3 : now.map fD.says = N) {ed : Int} (he : ed = (gI G N : Nat))
    (H : V w0 w (dR p (.cells #[gv, nv, .int .i64 op, .int .i64 ed, .bool true] 168 (0, 0)) • Row 67 1 gv gs.length (gs.map (·.1)) • tZ gs • Row 124 3 nv now.length (now.flatMap fD.enc) • nC now • F)) : V w0 w (iL p G N op • F) :=
  V.vw h1 h2 h3 he (H.of_eq (by unfold DZ Jt; ac_rfl))
theorem lu (H : V w0 w (iL p G N op • F)) : iU prog 95 #[.pointer (some ⟨p, 0, none⟩)] w fun v w' => v = .bool false ∧ w = w' := by
 refine ji func95 ntmps95 ?_
 refine lZ O (aO ?_)
 obtain ⟨Ac, xX, nU, mV, lI, uF, sQ, EK, EL, Ju, qg⟩ := (H).wB
 refine aC (cZ O (aV (kV underlying121 O O) (qC O (fun h1 => ?_) (fun h1 => ?_))))
 ·(try simp only [aH] at h1)
  exfalso; first | contradiction | omega
 ·(try simp only [aH] at h1)
  refine bU (cZ O (bU (dM O (bU (bf 4 bC O aQ O (bU (dQ bW O (qg).get.2 O (bU (aV (oO O) (lV O O (iW O (fB results95 O ?_))))))))))))
  exact ⟨O, O⟩
theorem Lp (H : V w0 w F) : iU prog 98 #[] w fun v w' => ∃ p, v = .pointer (some ⟨p, 0, none⟩) ∧ V w0 w' (iL p [] [] 0 • F) := by
  refine Zb func98 ntmps98 ?_
  refine lZ O (jg (aV (lQ (pl := #[(0, 4), (4, 1)]) (#[_, _, _, _, _]) bC zeroValue168 (fun w => by kernel_rfl) O (O)) (jL (jG (l := [_, _, _, _, _]) H O O) ?_)))
  rintro _ w1 ⟨b1, rfl, H1⟩
  refine iW O (fB results98 O ?_)
  refine ⟨_, O, V.vw (gv := .slice none 0 0) (nv := .slice none 0 0) (gs := []) (now := []) ⟨by simp, by decide, by decide, by decide, by simp, by simp⟩ O O O ?_⟩
  exact (((H1).uS none).D5 none).of_eq (by ac_rfl)
theorem Lr (H : V w0 w (iL p G N op • F)) : iU prog 81 #[.pointer (some ⟨p, 0, none⟩)] w fun v w' => v = .int .i64 ((G.length : Int) + min 1 N.length) ∧ V w0 w' (iL p G N op • F) := by
 refine ji func81 ntmps81 ?_
 refine lZ O (aO (bM O (dZ O func95 (lu H) ?_)))
 rintro _ _ ⟨rfl, rfl⟩
 refine iT (vO (iq (aO ?_)))
 obtain ⟨Ac, xX, nU, mV, lI, uF, sQ, EK, EL, Ju, qg⟩ := (H).wB
 have Aa := qg.drew
 have gG := V.kp (Aa.f5.f5.f5.f5.f5)
 refine xP [4, 10] gG O (jc 0 O gG O (kN 1 O gG O (fV 2 O gG 0 bC O dw O (fV 3 O gG 0 bF O gW O (jq 4 O gG (fun W hW => jV bJ O ((Kp.h hW)).get.2 O) (jW 5 O gG (fun _ => iE ((Aa.f2).aP) bJ O) (jc 6 O gG O (kN 7 O gG O (fV 8 O gG 0 bC O dw O (fV 9 O gG 1 bF O bV O (jq 10 O gG (fun W hW => jV aU O ((Kp.h hW)).get.2 O) (jW 11 O gG (fun _ => iE ((Aa.f4).aP) aU O) (jW 12 O gG (fun _ => QK O O) (jW 13 O gG (fun _ => gX O O (by omega)) (jW 14 O gG (fun _ => iV O) (qp (bg (rV (fB results81 O ?_)))))))))))))))))))
 have U8 := Aa.f5.f5.f5.f5.f5
 have U9 := V.nG lI uF sQ rfl U8
 exact ⟨by rw [EK, EL]; congr 1; omega, U9⟩
theorem Hl (H : V w0 w (iL p G N op • F)) : iU prog 56 #[.pointer (some ⟨p, 0, none⟩)] w fun v w' => v = .int .i64 (gI G N : Nat) ∧ V w0 w' (iL p G N op • F) := by
 refine ji func56 ntmps56 ?_
 refine lZ O (aO (bM O (dZ O func95 (lu H) ?_)))
 rintro _ _ ⟨rfl, rfl⟩
 refine iT (vO (iq (aO ?_)))
 obtain ⟨Ac, xX, nU, mV, lI, uF, sQ, EK, EL, Ju, qg⟩ := (H).wB
 refine aC (ny O O (bf 0 bC O dw O (bf 3 bF O aj O (dQ ay O (qg).get.2 O (iW O (fB results56 O ?_))))))
 have U8 := qg.f5.f5.f5.f5.f5
 have U9 := V.nG lI uF sQ rfl U8
 exact ⟨O, U9⟩
theorem xk (H : V w0 w (iL p G N op • F)) (hb : op < 4611686018427387904) : iU prog 75 #[.pointer (some ⟨p, 0, none⟩)] w fun v w' => v = .int .i64 0 ∧ V w0 w' (iL p G N (op + 1) • F) := by
 have hop : 0 ≤ op := by obtain ⟨gv, nv, gs, now, k1, _⟩ := H.wB; exact k1.2.2.1
 refine ji func75 ntmps75 ?_
 refine lZ O (aO (bM O (dZ O func95 (lu H) ?_)))
 rintro _ _ ⟨rfl, rfl⟩
 refine iT (vO (iq (aO ?_)))
 obtain ⟨Ac, xX, nU, mV, lI, uF, sQ, EK, EL, Ju, qg⟩ := (H).wB
 refine aC (ny O O (bf 0 bC O dw O (bf 2 bF O aj O (dQ ay O (qg).get.2 O (aV (gX O O (by omega)) (dM O (bf 0 bC O dw O (bf 2 bF O aj O (aI (Xz 2 qg aj) ?_)))))))))
 rintro _ w3 H3
 refine iT (lF O (fB results75 O ?_))
 exact ⟨O, V.nG ⟨lI.1, lI.2.1, by omega, by omega, lI.2.2.2.2⟩ uF sQ O H3.f5.f5.f5.f5.f5⟩
def vU (G : List (List gV)) (N : List gV) (a : Int) (dl il : List Int) : Int := if dl.length + il.length = 0 ∨ a < 0 then 1 else if 16384 ≤ gI G N then 3 else 0
def PZ (G : List (List gV)) (N : List gV) (op a : Int) (dl il : List Int) : List (List gV) := if vU G N a dl il = 0 then (if 0 < op then G else G ++ [[(a, dl, il)]]) else G
def P5 (G : List (List gV)) (N : List gV) (op a : Int) (dl il : List Int) : List gV := if vU G N a dl il = 0 then (if 0 < op then N ++ [(a, dl, il)] else N) else N
theorem Ls {x : gV} : gI G (N ++ [x]) = gI G N + 1 := by simp [gI]; omega
theorem NC {x : gV} : gI (G ++ [[x]]) N = gI G N + 1 := by simp [gI]; omega
theorem Ho (h : vU G N a dl il ≠ 0) : PZ G N op a dl il = G := by unfold PZ; rw [if_neg h]
theorem Hr (h : vU G N a dl il ≠ 0) : P5 G N op a dl il = N := by unfold P5; rw [if_neg h]
theorem Gj (h : vU G N a dl il = 0) (ho : 0 < op) : PZ G N op a dl il = G := by unfold PZ; rw [if_pos h, if_pos ho]
theorem Gl (h : vU G N a dl il = 0) (ho : 0 < op) : P5 G N op a dl il = N ++ [(a, dl, il)] := by unfold P5; rw [if_pos h, if_pos ho]
theorem Va (h : vU G N a dl il = 0) (ho : ¬ 0 < op) : PZ G N op a dl il = G ++ [[(a, dl, il)]] := by unfold PZ; rw [if_pos h, if_neg ho]
theorem Vb (h : vU G N a dl il = 0) (ho : ¬ 0 < op) : P5 G N op a dl il = N := by unfold P5; rw [if_pos h, if_neg ho]
theorem zi (H : V w0 w (iL p G N op • F)) (hd : kP w0 F .i32 d dl) (hi : kP w0 F .i32 z il) (b2 : dl.length ≤ 35184372087808) (b3 : il.length ≤ 35184372087808) :
  iU prog 76 #[.pointer (some ⟨p, 0, none⟩), edV a d z] w fun v w' => v = .int .i64 (vU G N a dl il) ∧ V w0 w' (iL p (PZ G N op a dl il) (P5 G N op a dl il) op • F) := by
 refine oP func76 ntmps76 ?_
 refine jg (jL (jG (l := [_, _, _]) H O O) ?_)
 rintro _ w1 ⟨b1, rfl, H1⟩
 refine tJ O (bM O (dZ O func95 (lu H1.f2) ?_))
 rintro _ _ ⟨rfl, rfl⟩
 refine iT (vO (iq (aO (jg (bf 1 aS O dD O (dQ aG O (H1).get.2 O (aV (rX (hd _ (H1.right.right)) aG O) (bf 2 aS O dD O (dQ aG O (H1).get.2 O (aV (rX (hi _ (H1.right.right)) aG O) (aV (gX O O (by omega)) (aV (ig O O) (qC O (fun h1 => ?_) (fun h1 => ?_))))))))))))))
 ·(try simp only [aH] at h1)
  refine dH (dH (dH (pW O O (iT (EY (lF O (aK (fB results76 O ?_))))))))
  have e : vU G N a dl il = 1 := by unfold vU; rw [if_pos (by omega)]
  rw [Ho (by rw [e]; decide), Hr (by rw [e]; decide), e]
  exact ⟨O, H1.right⟩
 ·(try simp only [aH] at h1)
  refine bU (bf 0 aS O aj O (bU (dQ ay O (H1).get.2 O (bU (aV (fJ O O) (lV O O (kK O (fun h2 => ?_) (fun h2 => ?_))))))))
  ·(try simp only [aH] at h2)
   refine lF O (aK (fB results76 O ?_))
   have e : vU G N a dl il = 1 := by unfold vU; rw [if_pos (by omega)]
   rw [Ho (by rw [e]; decide), Hr (by rw [e]; decide), e]
   exact ⟨O, H1.right⟩
  ·(try simp only [aH] at h2)
   refine iq (aO (aO ?_))
   obtain ⟨Ac, xX, nU, mV, lI, uF, sQ, EK, EL, Ju, qg⟩ := (H1.f2).wB
   refine aC (ny O O (bf 0 bC O dw O (bf 3 bF O aj O (dQ ay O (qg).get.2 O (aV (Gv O O) (kK O (fun h3 => ?_) (fun h3 => ?_)))))))
   ·(try simp only [aH] at h3)
    refine lF O (aK (fB results76 O ?_))
    have e : vU G N a dl il = 3 := by unfold vU; rw [if_neg (by omega), if_pos (by omega)]
    have Ho5 := qg.f5.f5.f5.f5.f5
    have Hc6 := V.nG lI uF sQ rfl Ho5
    rw [Ho (by rw [e]; decide), Hr (by rw [e]; decide), e]
    exact ⟨O, Hc6.f2.right⟩
   ·(try simp only [aH] at h3)
    refine iq (bM O (dM O (bf 0 bC O dw O (bf 3 bF O aj O (dQ ay O (qg).get.2 O (aV (gX O O (by omega)) (dM O (bf 0 bC O dw O (bf 3 bF O aj O (aI (Xz 3 qg aj) ?_))))))))))
    rintro _ w7 H7
    refine qj (bM O (dM O (bf 0 bC O dw O (bf 2 bF O aj O (dQ ay O (H7).get.2 O (aV (fZ O O) (kK O (fun h4 => ?_) (fun h4 => ?_))))))))
    ·(try simp only [aH] at h4)
     have aaN := H7.drew
     have Fg := V.kp (aaN.f6.f6.f6.f6.f6.f6)
     refine xP [5, 6] Fg O (jc 0 O Fg O (jc 1 O Fg O (kN 2 O Fg O (fV 3 O Fg 0 bC O dw O (fV 4 O Fg 1 bF O bV O (jq 5 O Fg (fun W hW => jV aU O ((Kp.h hW)).get.2 O) (jq 6 O Fg (fun W hW => dG aS O bG O O ((Kp.h hW).f6).get.2) (mP 7 O (wu O func109 (wI aaN (fun W HW => hd _ (HW.right.right.right.right.right.right)) (fun W HW => hi _ (HW.right.right.right.right.right.right)) (by omega) (by omega))) ?_))))))))
     rintro _ w8 ⟨d8, s8, rfl, H8⟩
     have Lu := V.kp (H8.f8.f8.f8.f8.f8.f8.f8.f8)
     refine dK Lu (fun W hW => (Kp.h hW).right.right.f6.f6.f6.f6.f6.f6) ?_
     refine mP 8 O (sH H8 aU bG dB O O O (by decide) (by decide)) ?_
     rintro l9 w9 H9
     have Vd := V.kp (H9.f9.f9.f9.f9.f9.f9.f9.f9.f9)
     refine dK Vd (fun W hW => (Kp.h hW).right.f8.f8.f8.f8.f8.f8.f8.f8) ?_
     refine mP 9 O (iQ H9.f7 aU AB O O O ((H9).aP) (aF (aZ (by first | rfl | exact Rd.one ((H9.f2).aP)) (aZ (by first | rfl | exact Rd.one ((H9.f3).aP)) bK))) (by omega) (by omega)) ?_
     rintro l10 w10 sV
     have Zl := sV.f2.right
     have QV := V.kp (Zl.f8.f8.f8.f8.f8.f8.f8.f8)
     refine iC QV (by kernel_rfl) ?_
     refine kN 10 O QV O (fV 11 O QV 0 bC O dw O (fV 12 O QV 1 bF O bV O ?_))
     refine eF 13 O (by kernel_rfl) (fM 1 (l' := [_, _, _, _, _]) Zl.f4 bV O O (by first | rfl | exact Rd.one ((Zl).aP)) O O) ?_
     rintro _ w12 wz
     have Ht := V.kp (wz.f8.f8.f8.f8.f8.f8.f8.f8)
     refine iC Ht (by kernel_rfl) ?_
     have hadd : 0 < op := by omega
     refine qp (bg (lF O (fB results76 O ?_)))
     have e : vU G N a dl il = 0 := by unfold vU; rw [if_neg (by omega), if_neg (by omega)]
     rw [Gj e hadd, Gl e hadd, e]
     have X := (wz.f8.right.f6.f6.f3.f7.f5.f7.f7).oJ.swap.oJ.swap
     have X2 := V.yN X.f3
     refine ⟨O, V.vw (gv := Ac) (nv := l10) (gs := nU) (now := mV ++ [⟨a, d8, dl, s8, il⟩]) (ed := (gI G N : Nat) + 1) ⟨lI.1, by rw [Ls]; omega, lI.2.2.1, lI.2.2.2.1, lI.2.2.2.2.1, XM lI.2.2.2.2.2 ⟨b2, b3⟩⟩ uF (by rw [List.map_append, sQ]; rfl) (by rw [Ls]; rfl) (X2.of_eq (by unfold DZ; ac_rfl))⟩
    ·(try simp only [aH] at h4)
     have Ve := H7.drew
     have xB := V.kp (Ve.f6.f6.f6.f6.f6.f6)
     refine xP [5, 6] xB O (jc 0 O xB O (jc 1 O xB O (kN 2 O xB O (fV 3 O xB 0 bC O dw O (fV 4 O xB 0 bF O gW O (jq 5 O xB (fun W hW => jV bJ O ((Kp.h hW)).get.2 O) (jq 6 O xB (fun W hW => dG aS O bG O O ((Kp.h hW).f6).get.2) (mP 7 O (wu O func109 (wI Ve (fun W HW => hd _ (HW.right.right.right.right.right.right)) (fun W HW => hi _ (HW.right.right.right.right.right.right)) (by omega) (by omega))) ?_))))))))
     rintro _ O8 ⟨d13, s13, rfl, yY⟩
     have Hu := V.kp (yY.f8.f8.f8.f8.f8.f8.f8.f8)
     refine dK Hu (fun W hW => (Kp.h hW).right.right.f6.f6.f6.f6.f6.f6) ?_
     refine mP 8 O (sH yY aU bG dB O O O (by decide) (by decide)) ?_
     rintro l14 MK yu
     have ND := V.kp (yu.f9.f9.f9.f9.f9.f9.f9.f9.f9)
     refine dK ND (fun W hW => (Kp.h hW).right.f8.f8.f8.f8.f8.f8.f8.f8) ?_
     refine mP 9 O (pO (vs := [_]) yu bJ bV zeroValue67 O O O (by decide) (aZ (by first | rfl | exact Rd.one ((yu).aP)) bK)) ?_
     rintro l15 SX BA
     have Ce := V.kp (BA.f10.f10.f10.f10.f10.f10.f10.f10.f10.f10)
     refine dK Ce (fun W hW => (Kp.h hW).right.f9.f9.f9.f9.f9.f9.f9.f9.f9) ?_
     refine mP 10 O (iQ BA.f6 bJ NG O O O ((BA).aP) (aZ (by first | rfl | exact Rd.one ((BA.f2).aP)) bK) (by omega) (by omega)) ?_
     rintro l16 w16 uO
     have Vf := uO.f2.right
     have Fh := V.kp (Vf.f9.f9.f9.f9.f9.f9.f9.f9.f9)
     refine iC Fh (by kernel_rfl) ?_
     refine kN 11 O Fh O (fV 12 O Fh 0 bC O dw O (fV 13 O Fh 0 bF O gW O ?_))
     refine eF 14 O (by kernel_rfl) (fM 0 (l' := [_, _, _, _, _]) Vf.f5 gW O O (by first | rfl | exact Rd.one ((Vf).aP)) O O) ?_
     rintro _ Xd Es
     have Hw := V.kp (Es.f9.f9.f9.f9.f9.f9.f9.f9.f9)
     refine iC Hw (by kernel_rfl) ?_
     have hadd : ¬ 0 < op := by omega
     refine qp (bg (lF O (fB results76 O ?_)))
     have e : vU G N a dl il = 0 := by unfold vU; rw [if_neg (by omega), if_neg (by omega)]
     rw [Va e hadd, Vb e hadd, e]
     have X := (Es.f9.right.f8.f8.f3.f8.f5.f6.f8.f8).oJ.swap.oJ.swap
     have X2 := V.yN (es := []) X.Hg.f3.f3.f4
     have X4 := V.yO X2.xg.swap
     refine ⟨O, V.vw (gv := l16) (nv := xX) (gs := nU ++ [(l14, [⟨a, d13, dl, s13, il⟩])]) (now := mV) (ed := (gI G N : Nat) + 1) ⟨QU lI.1 (List.cons_ne_nil _ _), by rw [NC]; omega, lI.2.2.1, lI.2.2.2.1, Nz lI.2.2.2.2.1 (by intro e he; rw [List.mem_singleton.1 he]; exact ⟨b2, b3⟩), lI.2.2.2.2.2⟩ (by rw [List.map_append, uF]; rfl) sQ (by rw [NC]; rfl) (X4.of_eq (by unfold Jt; ac_rfl))⟩
end
end Go.Proofs.YtimndnfpcomhlaaGreatDoor
end
section
namespace Go.Proofs.YtimndnfpcomhlaaGreatDoor
open Go.RowKit
def LC (P : Program) (l : Nat) (vs : List Value) (w : World) (T : Value → World → Prop) : Prop :=
  ∃ f tmps c d, (Instr.yield l vs.toArray).run P w = .ok (.round l f tmps c d) w ∧ RoundIn Fence.wide 0 P l f tmps c d w fun e w' => ∃ v, e = .returned v ∧ T v w'
theorem LC.mono {P : Program} {l : Nat} {vs : List Value} {w : World} {T T' : Value → World → Prop} (h : LC P l vs w T) (k : ∀ v w', T v w' → T' v w') : LC P l vs w T' :=
  let ⟨f, tmps, c, d, h1, h2⟩ := h; ⟨f, tmps, c, d, h1, RoundIn.mono h2 fun _ _ ⟨v, e, t⟩ => ⟨v, e, k _ _ t⟩⟩
theorem LC.bool {P : Program} {l : Nat} {vs : List Value} {w : World} {A B : World → Prop} (h : LC P l vs w fun v W' => (v = .bool true ∧ A W') ∨ (v = .bool false ∧ B W')) : LC P l vs w fun v W' => ∃ t, v = .bool t ∧ (t = true → A W') ∧ (t = false → B W') :=
  h.mono fun v W' hv => by
    rcases hv with ⟨rfl, h⟩ | ⟨rfl, h⟩
    · exact ⟨true, rfl, fun _ => h, fun e => by cases e⟩
    · exact ⟨false, rfl, (fun e => by cases e), fun _ => h⟩
theorem LD {P : Program} {L : List (Nat × Value)} {w : World} {ty : TypeId} {x : Operand} {args : List Operand} {ts : Array TypeId} {l : Nat} {vs : List Value} {T : Value → World → Prop} (hx : ev L x = some (.func (.yield l) #[] #[])) (ha : EW L args = some vs) (h : LC P l vs w T) :
    vP P L (.call ⟨.value x, args.toArray, ts⟩) ty w T := by
  obtain ⟨f, tmps, c, d, hy, hr⟩ := h
  refine Xl (fun ρ hρ dd pos nY g => ?_) hr
  have hg := hρ _ _ hx
  simp [execOp, resolve, invoke, evs hρ _ _ ha, hg, Deferred.ofValue, hy]
def Iter (P : Program) (w0 : World) (fv : Value) (R : HP) (n : Nat) (E : Nat → List Value → HP → Prop) : Prop :=
  ∀ (l : Nat) (J : Nat → HP) (X : HP) (w : World),
    (∀ k, k < n → ∀ vs A, E k vs A → ∀ G W, V w0 W (A • J k • G) → LC P l vs W fun v W' => (v = .bool true ∧ V w0 W' (J (k + 1) • G)) ∨ (v = .bool false ∧ V w0 W' (X • G))) →
    V w0 w (J 0 • R) → Yu P fv [.func (.yield l) #[] #[]] w fun _ W' => V w0 W' (J n • R) ∨ V w0 W' (X • R)
def NH (w0 : World) (I : HP) (Xr : HP) (Xe : Nat → HP) (G : HP) : Exit → Act → World → Prop
  | .normal, _, W => V w0 W (I • G)
  | .ret, _, W => V w0 W (Xr • G)
  | .exit id, _, W => V w0 W (Xe id • G)
  | _, _, _ => False
def QW (P : Program) (N : Sh) (w0 : World) (body : Code) (I : HP) (Xr : HP) (Xe : Nat → HP) (G : HP) (a : Act) (W : World) : Prop :=
  ∃ (L : List (Nat × Value)) (B : HP), Fits N L a ∧ V w0 W (B • G) ∧ ∀ G' W', V w0 W' (B • G') → WC P N body (NH w0 I Xr Xe G') L W'
def Vg : Exit → Act → World → Prop := fun _ _ _ => False
theorem P6 {P : Program} {N : Sh} {w0 w : World} {body : Code} {I Xr : HP} {Xe : Nat → HP} {G B : HP} {L : List (Nat × Value)} (H : V w0 w (B • G)) (h : ∀ G' W', V w0 W' (B • G') → WC P N body (NH w0 I Xr Xe G') L W') :
    WQ N (Exit.then (QW P N w0 body I Xr Xe G) Vg) .normal L w := fun _ a ha => ⟨L, B, ha, H, h⟩
theorem Hy {N : Sh} {w0 w : World} {I Xr : HP} {Xe : Nat → HP} {G : HP} {L : List (Nat × Value)} (H : V w0 w (I • G)) : WQ N (NH w0 I Xr Xe G) .normal L w := fun _ _ _ => H
theorem Vh {N : Sh} {w0 w : World} {I Xr : HP} {Xe : Nat → HP} {G : HP} {id : Nat} {L : List (Nat × Value)} (H : V w0 w (Xe id • G)) : WQ N (NH w0 I Xr Xe G) (.exit id) L w := fun _ _ _ => H
theorem Vj {w0 : World} {I Xr : HP} {Xe : Nat → HP} {G : HP} : NP (NH w0 I Xr Xe G) := fun _ _ _ h => h
def P7 : List Nat → List Value → List (Nat × Value) → List (Nat × Value)
  | [], _, L => L
  | _ :: _, [], L => L
  | p :: ps, v :: vs, L => P7 ps vs ((p, v) :: L)
theorem NI {n l : Nat} : ∀ (ps : List Nat) (vs : List Value) (L : List (Nat × Value)) (tmps : Array Value), (∀ p ∈ ps, p < n) → Fits ⟨n, [], some l⟩ L { tmps := tmps, defers := [] } →
    Fits ⟨n, [], some l⟩ (P7 ps vs L) { tmps := (ps.zip vs).foldl (fun t (p : Nat × Value) => t.setIfInBounds p.1 p.2) tmps, defers := [] }
  | [], _, _, _, _, h => h
  | _ :: _, [], _, _, _, h => h
  | p :: ps, v :: vs, L, tmps, hp, h => NI ps vs _ _ (fun q hq => hp q (by simp [hq])) (h.put (hp p (by simp)) v)
section
variable {P : Program} {N : Sh} {Q : Exit → Act → World → Prop} {L : List (Nat × Value)} {w0 w : World}
theorem zk {g : Operand} {ps : List Nat} {assign body : Code} {fv : Value} {R : HP} {n : Nat} {E : Nat → List Value → HP → Prop} (hg : ev L g = some fv) (hit : Iter P w0 fv R n E) (I : Nat → HP) (Xr : HP) (Xe : Nat → HP) (H : V w0 w (I 0 • R))
    (hps : ps.all (· < N.n) = true)
    (hbody : ∀ l k, k < n → ∀ vs A, E k vs A → ∀ G W, V w0 W (A • I k • G) → vs.length = ps.length ∧ WC P ⟨N.n, [], some l⟩ assign (Exit.then (QW P ⟨N.n, [], some l⟩ w0 body (I (k + 1)) Xr Xe G) Vg) (P7 ps vs L) W)
    (hdone : ∀ D W, V w0 W (dR D (.deferred (some [])) • I n • R) → WQ ⟨N.n, D :: N.ds, none⟩ Q .normal L W)
    (hret : ∀ D W, V w0 W (dR D (.deferred (some [])) • Xr • R) → WQ ⟨N.n, D :: N.ds, none⟩ Q .ret L W)
    (aaO : ∀ id D W, V w0 W (dR D (.deferred (some [])) • Xe id • R) → WQ ⟨N.n, D :: N.ds, none⟩ Q (.exit id) L W)
    (hro : N.ro = none := by rfl) : WC P N (.rangeFunc g ps.toArray assign body) Q L w := fun np a ha => by
  rw [hro]
  refine wpIn_rangeFunc fun fn _ => ?_
  let uh : LoopState → Option Code → Loop := fun s j => { state := s, pending := j, fn, tmps := a.tmps, params := ps.toArray, assign, body, defers := w.heap.size }
  have abN := run_enterLoop_outer (P := P) (w := w) fn a.tmps ps.toArray assign body
  have H1 : V w0 ((w.alloc (.deferred (some []))).alloc (.loop (uh .ready none))) (dR (w.heap.size + 1) (.loop (uh .ready none)) • dR w.heap.size (.deferred (some [])) • I 0 • R) := by
    have := (H.alloc (.deferred (some []))).alloc (.loop (uh .ready none))
    rw [World.size_alloc] at this
    exact this
  let Lk : LoopState → Option Code → HP := fun s j => dR (w.heap.size + 1) (.loop (uh s j)) • dR w.heap.size (.deferred (some []))
  have Zm : ∀ k, k < n → ∀ vs A, E k vs A → ∀ G W, V w0 W (A • (Lk .ready none • I k) • G) → LC P (w.heap.size + 1) vs W fun v W' => (v = .bool true ∧ V w0 W' ((Lk .ready none • I (k + 1)) • G)) ∨
      (v = .bool false ∧ V w0 W' (wR (fun c : Code => Lk .done (some c) • (match c with | .ret => Xr | .exit id => Xe id | _ => fact False)) • G)) := by
    intro k hk vs A hE G W HW
    have e1 : (A • (Lk .ready none • I k) • G) = (dR (w.heap.size + 1) (.loop (uh .ready none)) • A • I k • dR w.heap.size (.deferred (some [])) • G) := by
      show (A • ((dR (w.heap.size + 1) (.loop (uh .ready none)) • dR w.heap.size (.deferred (some []))) • I k) • G) = _
      ac_rfl
    have HW1 := HW.of_eq e1
    have hl := HW1.get.2
    have hlen := (hbody (w.heap.size + 1) k hk vs A hE _ W (HW1.of_eq (show _ = (A • I k • dR (w.heap.size + 1) (.loop (uh .ready none)) • dR w.heap.size (.deferred (some [])) • G) by ac_rfl))).1
    refine ⟨fn, _, assign, body, run_yield hl (by rw [List.size_toArray, hlen]; exact List.size_toArray.symm), ?_⟩
    have hfit : Fits ⟨N.n, [], some (w.heap.size + 1)⟩ (P7 ps vs L) { tmps := (ps.toArray.zip vs.toArray).foldl (fun tmps (t, a) => tmps.setIfInBounds t a) a.tmps, defers := [] } := by
      have := NI (n := N.n) (l := w.heap.size + 1) ps vs L a.tmps (fun p hp => by simpa using List.all_eq_true.1 hps p hp) ⟨ha.size, rfl, ha.at_⟩
      simpa using this
    refine roundIn_of_wpIn trivial ?_
    have HW2 : V w0 W (A • I k • dR (w.heap.size + 1) (.loop (uh .ready none)) • dR w.heap.size (.deferred (some [])) • G) := HW1.of_eq (by ac_rfl)
    have hb := (hbody (w.heap.size + 1) k hk vs A hE _ W HW2).2 (fun c a w h => h) _ hfit
    refine wpIn_mono hb ?_
    rintro e a1 W1 hq
    cases e with
    | exit id => exact hq.elim
    | goto l => exact hq.elim
    | ret => exact hq.elim
    | panic c => exact hq.elim
    | outgrown => exact hq.elim
    | normal =>
      obtain ⟨L1, B, hf1, HB, hgo⟩ := hq
      have HB1 : V w0 W1 (dR (w.heap.size + 1) (.loop (uh .ready none)) • B • dR w.heap.size (.deferred (some [])) • G) := HB.of_eq (by ac_rfl)
      have hl1 := HB1.get.2
      refine ⟨_, run_beginRound hl1 rfl, ?_⟩
      have HB2 : V w0 (W1.putObj (w.heap.size + 1) (.loop (uh .busy none))) (dR (w.heap.size + 1) (.loop (uh .busy none)) • B • dR w.heap.size (.deferred (some [])) • G) := HB1.turn rfl rfl rfl (by simp) (World.putObj_heap_same HB1.lt) fun k hk _ => World.putObj_heap_other hk
      have hbd := hgo (dR (w.heap.size + 1) (.loop (uh .busy none)) • dR w.heap.size (.deferred (some [])) • G) _ (HB2.of_eq (by ac_rfl)) Vj a1 hf1
      refine wpIn_mono hbd ?_
      have fin : ∀ (j : Option Code) (W3 : World) (A3 : HP), V w0 W3 (A3 • dR (w.heap.size + 1) (.loop (uh .busy none)) • dR w.heap.size (.deferred (some [])) • G) →
          (Instr.endRound (w.heap.size + 1) j).run P W3 = .ok (.bool j.isNone) (W3.putObj (w.heap.size + 1) (.loop (uh (if j.isNone then .ready else .done) j))) ∧
          V w0 (W3.putObj (w.heap.size + 1) (.loop (uh (if j.isNone then .ready else .done) j))) ((Lk (if j.isNone then .ready else .done) j • A3) • G) := by
        intro j W3 A3 H3
        have H4 := H3.swap
        refine ⟨run_endRound j H4.get.2, ?_⟩
        have H5 : V w0 (W3.putObj (w.heap.size + 1) (.loop (uh (if j.isNone then .ready else .done) j))) (dR (w.heap.size + 1) (.loop (uh (if j.isNone then .ready else .done) j)) • A3 • dR w.heap.size (.deferred (some [])) • G) := H4.turn rfl rfl rfl (by simp) (World.putObj_heap_same H4.lt) fun k hk _ => World.putObj_heap_other hk
        refine H5.of_eq ?_
        show _ = (((dR (w.heap.size + 1) (.loop (uh (if j.isNone then .ready else .done) j)) • dR w.heap.size (.deferred (some []))) • A3) • G)
        ac_rfl
      rintro e a3 W3 hp
      cases e with
      | normal => obtain ⟨h1, h2⟩ := fin none W3 _ hp; exact ⟨_, _, h1, _, rfl, .inl ⟨rfl, h2⟩⟩
      | ret => obtain ⟨h1, h2⟩ := fin (some .ret) W3 _ hp; exact ⟨_, _, h1, _, rfl, .inr ⟨rfl, V.jQ .ret h2⟩⟩
      | exit id => obtain ⟨h1, h2⟩ := fin (some (.exit id)) W3 _ hp; exact ⟨_, _, h1, _, rfl, .inr ⟨rfl, V.jQ (.exit id) h2⟩⟩
      | goto l => exact hp.elim
      | panic c => exact hp.elim
      | outgrown => exact hp.elim
  have hcall := hit (w.heap.size + 1) (fun k => Lk .ready none • I k) _ _ Zm (H1.of_eq (by
    show _ = (((dR (w.heap.size + 1) (.loop (uh .ready none)) • dR w.heap.size (.deferred (some []))) • I 0) • R)
    ac_rfl))
  obtain ⟨f, first, cap, fn', c, rfl, hf, hn, hb, aaP⟩ := hcall
  refine ⟨w.heap.size + 1, _, _, { target := .fn (.func f) cap.toArray, args := (first ++ [Value.func (.yield (w.heap.size + 1)) #[] #[]]).toArray }, (w.alloc (.deferred (some []))).alloc (.loop (uh .ready none)), f, _, (w.alloc (.deferred (some []))).alloc (.loop (uh .ready none)), abN, ?_, fun _ _ => trivial, ?_, (fun h => by cases h), Ur.2 (Calls.mono aaP ?_)⟩
  · have he := ha.ev hg
    have he2 : a.eval (.const (.func (.yield (w.heap.size + 1)) #[] #[])) = .func (.yield (w.heap.size + 1)) #[] #[] := rfl
    simp [resolve, rangeCall, he, he2, Deferred.ofValue, uh]
  · simp [invoke, callFunc, hf, hb]
    simpa using hn
  · rintro e W2 ⟨v, rfl, hv⟩
    have fin : ∀ (s : LoopState) (j : Option Code) (A : HP), s ≠ .busy → V w0 W2 ((Lk s j • A) • R) → (Instr.endLoop (w.heap.size + 1)).run P W2 = .ok j (W2.putObj (w.heap.size + 1) (.loop (uh .exhausted j))) ∧
        V w0 (W2.putObj (w.heap.size + 1) (.loop (uh .exhausted j))) (dR w.heap.size (.deferred (some [])) • A • R) := by
      intro s j A hs H3
      have H4 : V w0 W2 (dR (w.heap.size + 1) (.loop (uh s j)) • dR w.heap.size (.deferred (some [])) • A • R) := H3.of_eq (by
        show (((dR (w.heap.size + 1) (.loop (uh s j)) • dR w.heap.size (.deferred (some []))) • A) • R) = _
        ac_rfl)
      refine ⟨run_endLoop H4.get.2 hs, ?_⟩
      have H5 : V w0 (W2.putObj (w.heap.size + 1) (.loop (uh .exhausted j))) (dR (w.heap.size + 1) (.loop (uh .exhausted j)) • dR w.heap.size (.deferred (some [])) • A • R) := H4.turn rfl rfl rfl (by simp) (World.putObj_heap_same H4.lt) fun k hk _ => World.putObj_heap_other hk
      exact H5.right
    have hfit : Fits ⟨N.n, w.heap.size :: N.ds, none⟩ L { a with defers := [{ target := .collected w.heap.size, args := #[] }] ++ a.defers } := ⟨ha.size, by simp [ha.defers, Uo], ha.at_⟩
    rcases hv with hv | hv
    · obtain ⟨h1, h2⟩ := fin _ _ _ (by decide) hv
      exact ⟨none, _, h1, hdone _ _ h2 np _ hfit⟩
    · obtain ⟨c, hv⟩ := hv.qP
      obtain ⟨h1, h2⟩ := fin _ _ _ (by decide) hv
      cases c with
      | ret => exact ⟨some .ret, _, h1, wpIn_ret (hret _ _ h2 np _ hfit)⟩
      | exit id => exact ⟨some (.exit id), _, h1, wpIn_exit (aaO id _ _ h2 np _ hfit)⟩
      | _ => exact absurd h2.swap.fact.1 id
end
end Go.Proofs.YtimndnfpcomhlaaGreatDoor
end
section
namespace Go.Proofs.YtimndnfpcomhlaaGreatDoor
open Go.RowKit
open _root_.Go.Proofs.Tryz
def mW (G : List (List gV)) (N : List gV) : List (List gV) := if N = [] then G else G ++ [N]
theorem P8 {G : List (List gV)} {N : List gV} (h : N = []) : mW G N = G := by unfold mW; rw [if_pos h]
theorem sN {G : List (List gV)} {N : List gV} (h : N ≠ []) : mW G N = G ++ [N] := by unfold mW; rw [if_neg h]
theorem Hz {G : List (List gV)} {N : List gV} : gI (mW G N) [] = gI G N := by
  unfold mW; split
  · rename_i h; rw [h]
  · simp [gI]
section
variable {w0 w : World} {F : HP} {p : Nat} {G : List (List gV)} {N : List gV} {op : Int} {gv nv v : Value} {gs : List (Value × List fD)} {now es : List fD} {a : Int} {d z : Value} {dl il : List Int}
theorem AL (H : V w0 w (iL p G N op • F)) : iU prog 102 #[.pointer (some ⟨p, 0, none⟩)] w fun _ w' => V w0 w' (iL p (mW G N) [] 0 • F) := by
 refine ji func102 ntmps102 ?_
 refine aO (aO ?_)
 obtain ⟨Ac, xX, nU, mV, lI, uF, sQ, EK, EL, Ju, qg⟩ := (H).wB
 refine aC (ny O O (bf 0 bC O dw O (bf 1 bF O bV O (dQ aU O (qg).get.2 O (aV (iE ((qg.f4).aP) aU O) (aV (fZ O O) (kK O (fun h1 => ?_) (fun h1 => ?_))))))))
 ·(try simp only [aH] at h1)
  have aaQ : 0 < mV.length := by omega
  have P9 := qg.drew
  have oI := V.kp (P9.f5.f5.f5.f5.f5)
  refine xP [5, 10] oI O (jc 0 O oI O (jc 1 O oI O (kN 2 O oI O (fV 3 O oI 0 bC O dw O (fV 4 O oI 0 bF O gW O (jq 5 O oI (fun W hW => jV bJ O ((Kp.h hW)).get.2 O) (jc 6 O oI O (kN 7 O oI O (fV 8 O oI 0 bC O dw O (fV 9 O oI 1 bF O bV O (jq 10 O oI (fun W hW => jV aU O ((Kp.h hW)).get.2 O) (mP 11 O (pO (vs := [_]) P9 bJ bV zeroValue67 O O O (by decide) (aZ (by first | rfl | exact Rd.one ((P9.f4).aP)) bK)) ?_))))))))))))
  rintro l2 w2 H2
  have NJ := V.kp (H2.f6.f6.f6.f6.f6.f6)
  refine dK NJ (fun W hW => (Kp.h hW).right.f5.f5.f5.f5.f5) ?_
  refine mP 12 O (iQ H2.f3 bJ NG O O O ((H2).aP) (aZ (by first | rfl | exact Rd.one ((H2.f5).aP)) bK) (by omega) (by omega)) ?_
  rintro l3 w3 H3
  have Hd4 := H3.f2.right
  have kW := V.kp (Hd4.f5.f5.f5.f5.f5)
  refine iC kW (by kernel_rfl) ?_
  refine kN 13 O kW O (fV 14 O kW 0 bC O dw O (fV 15 O kW 0 bF O gW O ?_))
  refine eF 16 O (by kernel_rfl) (fM 0 (l' := [_, _, _, _, _]) Hd4.f2 gW O O (by first | rfl | exact Rd.one ((Hd4).aP)) O O) ?_
  rintro _ w5 H5
  have Dc := V.kp (H5.f5.f5.f5.f5.f5)
  refine iC Dc (by kernel_rfl) ?_
  refine qp (bg (aC (mQ O O (dM O (bf 0 bC O dw O (bf 1 bF O bV O (aI (Xz 1 H5 bV) ?_)))))))
  rintro _ w6 H6
  refine dM O (bf 0 bC O dw O (bf 2 bF O aj O (aI (Xz 2 H6 aj) ?_)))
  rintro _ w7 H7
  refine bY (gQ (.inr O) results102 ?_)
  have hN : N ≠ [] := by rintro rfl; exact absurd EL (by simp only [List.length_nil]; omega)
  rw [sN hN]
  have X := V.xg (v := xX) (es := mV) (H7.f3.f3.f5.f5).deep
  have X4 := V.yO X.swap
  refine V.vw (gv := l3) (nv := .slice none 0 0) (gs := nU ++ [(xX, mV)]) (now := []) (ed := (gI G N : Nat)) ⟨QU lI.1 hN, by rw [← sN hN, Hz]; exact lI.2.1, by decide, by decide, Nz lI.2.2.2.2.1 lI.2.2.2.2.2, by simp⟩ (by rw [List.map_append, uF, ← sQ]; rfl) O (by rw [← sN hN, Hz]) ((X4.uS none).of_eq (by ac_rfl))
 ·(try simp only [aH] at h1)
  have aaQ : mV.length = 0 := by omega
  refine iq (aC (mQ O O (dM O (bf 0 bC O dw O (bf 1 bF O bV O (aI (Xz 1 qg bV) ?_))))))
  rintro _ w8 H8
  refine dM O (bf 0 bC O dw O (bf 2 bF O aj O (aI (Xz 2 H8 aj) ?_)))
  rintro _ w9 H9
  refine bY (gQ (.inr O) results102 ?_)
  have hN : N = [] := by rw [← sQ, List.eq_nil_of_length_eq_zero aaQ]; rfl
  subst hN
  rw [P8 rfl]
  refine V.vw (gv := Ac) (nv := .slice none 0 0) (gs := nU) (now := []) (ed := (gI G [] : Nat)) ⟨lI.1, lI.2.1, by decide, by decide, lI.2.2.2.2⟩ uF O O (((H9.f4.right.f4.right.f3.f3).uS none).of_eq (by unfold DZ; ac_rfl))
theorem V.LG (H : V w0 w (Et v es • F)) : V w0 w (Et v es • Et v es • F) := H.Gq
theorem Tj (b : Nat) : Iter prog w0 (.func (.func 119) #[] #[.pointer (some ⟨b, 0, none⟩)]) (dR b (.cells #[v] 67 (0, 0)) • Et v es) es.length
  (fun k vs A => vs = [.int .i64 ((es.length - (k + 1) : Nat) : Int), .agg (es.getD (es.length - (k + 1)) default).enc.toArray] ∧ A = Et v es) := by
 intro l J X w hy H
 refine ⟨119, [], [.pointer (some ⟨b, 0, none⟩)], _, _, O, func119, O, O, ?_⟩
 have H1 : V w0 w (dR b (.cells #[v] 67 (0, 0)) • Et v es • J 0) := H.of_eq (by ac_rfl)
 obtain ⟨a, c, hv, hc1, hc2, _⟩ := (H1.swap.Dh).form
 subst hv
 simp only [List.nil_append, List.cons_append]
 refine Xv func119 ntmps119 ?_
 dsimp only [Ag, Nat.reduceAdd]
 refine jg (dQ aU O (H1).get.2 O (aV (iE ((H1.f2).Dh) aU O) (aV (lX O O (by omega)) (gY O (bn ?_)))))
 refine iR [(0, _), (1, _)] (fun (k : Nat) => [(3, .int .i64 ((k : Int) - 1))]) (fun (k : Nat) W => k ≤ es.length ∧ V w0 W (dR b (.cells #[.slice a es.length c] 67 (0, 0)) • Et (.slice a es.length c) es • J (es.length - k))) (fun (k : Nat) => k) (es.length) vT sJ ⟨by omega, by rw [Nat.sub_self]; exact H1⟩ ?_
 rintro k w1 ⟨hk, HL⟩
 dsimp only [List.cons_append, List.nil_append]
 refine aO (bM O (aV (Gv O O) (kK O (fun h1 => ?_) (fun h1 => ?_))))
 ·(try simp only [aH] at h1)
  refine iq (aO (bn (aO ?_)))
  obtain ⟨m, rfl⟩ : ∃ m, k = m + 1 := ⟨k - 1, by omega⟩
  rw [show (((m + 1 : Nat) : Int) - 1) = (m : Int) from by omega]
  refine aC (mQ O O (dQ aU O (HL).get.2 O (cZ O ?_)))
  obtain ⟨bv, ov, cv, ev⟩ := Rd.vS ((HL.f2).Dh) (by omega)
  cases ev
  refine aV (gU aU bG O O (by omega)) (aV (jC (ys := [_, _, _]) ((HL.f2).Dh) (by omega) aS O bG O (kH fD.tY (by omega) default) O) (jL (LD O O (hy (es.length - (m + 1)) (by omega) _ _ ⟨by rw [show es.length - (es.length - (m + 1) + 1) = m from by omega]; rfl, O⟩ (Et (.slice (some ⟨bv, ov, none⟩) es.length c) es • dR b (.cells #[.slice (some ⟨bv, ov, none⟩) es.length c] 67 (0, 0))) _ (HL.swap.LG.of_eq (by ac_rfl))).bool) ?_))
  rintro _ w2 ⟨t, rfl, ht1, ht2⟩
  refine aV (oO O) (kK O (fun h2 => ?_) (fun h2 => ?_))
  ·(try simp only [aH] at h2)
   have HX := ht2 (by simpa using h2)
   refine rV (bD (aK (aK (bD (we0 results119 ?_)))))
   exact .inr (HX.of_eq (by ac_rfl))
  ·(try simp only [aH] at h2)
   have HN : V w0 w2 (dR b (.cells #[.slice (some ⟨bv, ov, none⟩) es.length c] 67 (0, 0)) • Et (.slice (some ⟨bv, ov, none⟩) es.length c) es • J (es.length - m)) := by
    have h9 := ht1 (by simpa using h2)
    rw [show es.length - (m + 1) + 1 = es.length - m from by omega] at h9
    exact h9.of_eq (by ac_rfl)
   refine fU (aN (bg (aC (cZ O (aV (lX O O (by omega)) (lU O (bY ?_)))))))
   refine fG (m) ?_ ?_ ?_ ?_
   ·exact sJ
   ·exact vT
   ·(try dsimp only)
    first | done | exact ⟨by omega, HN.f2.f2⟩
   ·(try dsimp only); omega
 ·(try simp only [aH] at h1)
  refine iJ (aX (aX (dA (gQ (.inr O) results119 ?_))))
  obtain rfl : k = 0 := by omega
  rw [Nat.sub_zero] at HL
  exact .inl (HL.of_eq (by ac_rfl))
end
def vV (e : gV) : gV := (e.1, e.2.2, e.2.1)
def Vk (c : Nat) (es : List fD) (k : Nat) : HP := wR fun (x : Value × List fD) => fact (x.2.map fD.says = ((es.map fD.says).reverse.take k).map vV) • dR c (.cells #[x.1] 67 (0, 0)) • Jt x.1 x.2
theorem Vl {es : List fD} {k : Nat} (hk : k < es.length) : ((es.map fD.says).reverse.take (k + 1)).map vV = ((es.map fD.says).reverse.take k).map vV ++ [vV (es.getD (es.length - (k + 1)) default).says] := by
  rw [List.take_succ_eq_append_getElem (by simpa using hk), List.map_append]
  congr 1
  simp only [List.map_cons, List.map_nil, List.getElem_reverse, List.getElem_map, List.length_map]
  rw [List.getD_eq_getElem?_getD, List.getElem?_eq_getElem (by omega)]
  have e : es.length - 1 - k = es.length - (k + 1) := by omega
  simp only [Option.getD_some, e]
section
variable {w0 w : World} {F : HP} {p : Nat} {G : List (List gV)} {N : List gV} {op : Int} {gv nv v : Value} {gs : List (Value × List fD)} {now es : List fD} {a : Int} {d z : Value} {dl il : List Int}
theorem V.NK {c k : Nat} (H : V w0 w (Vk c es k • F)) : ∃ u fs, fs.map fD.says = ((es.map fD.says).reverse.take k).map vV ∧ fs.length ≤ es.length ∧ V w0 w (dR c (.cells #[u] 67 (0, 0)) • Row 124 3 u fs.length (fs.flatMap fD.enc) • nC fs • F) := by
  obtain ⟨⟨u, fs⟩, H⟩ := H.qP
  obtain ⟨h, H⟩ := H.flat.fact
  refine ⟨u, fs, h, ?_, ?_⟩
  · have := congrArg List.length h
    simp at this
    omega
  · have := H.flat
    unfold Jt at this
    exact this.of_eq (by ac_rfl)
theorem V.Vm {c k : Nat} {u : Value} {fs : List fD} (h : fs.map fD.says = ((es.map fD.says).reverse.take k).map vV) (H : V w0 w (dR c (.cells #[u] 67 (0, 0)) • Jt u fs • F)) : V w0 w (Vk c es k • F) :=
  V.jQ (u, fs) (V.deep (V.nH h H.deep))
theorem V.Zn (H : V w0 w (Et v es • F)) {k : Nat} (hk : k < es.length) : V w0 w (FU .i32 (es.getD k default).d (es.getD k default).dl • FU .i32 (es.getD k default).i (es.getD k default).il • Et v es • F) := by
  have h1 : V w0 w (FU .i32 (es.getD k default).d (es.getD k default).dl • Et v es • Et v es • F) := H.LG.LG.F7 (tN (fun I h => (h.2 k hk).1) _)
  have h2 : V w0 w (FU .i32 (es.getD k default).i (es.getD k default).il • FU .i32 (es.getD k default).d (es.getD k default).dl • Et v es • F) := h1.swap.F7 (tN (fun I h => (h.2 k hk).2) _)
  exact h2.swap
theorem Tn (H : V w0 w F) (hv : v.oneCell' = true) : iU prog 113 #[v] w fun v' w' => ∃ b, v' = .func (.func 119) #[] #[.pointer (some ⟨b, 0, none⟩)] ∧ V w0 w' (dR b (.cells #[v] 67 (0, 0)) • F) := by
  refine ji func113 ntmps113 ?_
  refine jg (jL (jG (l := [_]) H O (by first | rfl | exact EC (by first | rfl | assumption))) ?_)
  rintro _ w1 ⟨b1, rfl, H1⟩
  refine gY O (jg (aV (CU O O) (iW O (fB results113 O ?_))))
  exact ⟨_, O, H1⟩
theorem D6 (H : V w0 w (Et v es • F)) (hB : ∀ k, k < es.length → EB (es.getD k default).says) (hL : es.length ≤ 16384) :
  iU prog 103 #[v] w fun v' w' => ∃ fs : List fD, fs.map fD.says = (es.map fD.says).reverse.map vV ∧ V w0 w' (Row 124 3 v' fs.length (fs.flatMap fD.enc) • nC fs • Et v es • F) := by
 refine ji func103 ntmps103 ?_
 refine lZ O (jg (jL (fE (l := [_]) H zeroValue67 O) ?_))
 rintro _ w1 ⟨b1, rfl, H1⟩
 refine qj (bM O (dZ O func113 (Tn H1 (Rd.one ((H1.f2).Dh))) ?_))
 rintro _ w2 ⟨bB2, rfl, H2⟩
 refine iT (bn ?_)
 have Ho3 := H2.f2
 have Hc4 := V.Vm (es := es) (k := 0) (fs := []) rfl (Ho3.uS none).swap
 refine zk O (Tj bB2) (fun k => Vk b1 es k • F) (fact False) (fun _ => fact False) (Hc4.f3.f3.f3.f3.f3.g2.comm) (by rfl) ?_ ?_ ?_ ?_
 ·rintro l5 k Zo vs5 A5 ⟨rfl, rfl⟩ G5 w5 H5
  try simp only [dI, oh, wF] at H5
  refine ⟨O, ?_⟩
  dsimp only [P7]
  have Hq := (H5).Zn (k := es.length - (k + 1)) (by omega)
  obtain ⟨hb1, hb2⟩ := hB (es.length - (k + 1)) (by omega)
  have hb1 : (es.getD (es.length - (k + 1)) default).dl.length ≤ 35184372087808 := hb1
  have hb2 : (es.getD (es.length - (k + 1)) default).il.length ≤ 35184372087808 := hb2
  obtain ⟨u, fs, hfs, hfl, HI⟩ := (Hq.f4).NK
  refine aC (jL (fE (l := [_, _, _]) HI dB O) ?_)
  rintro _ w6 ⟨b6, rfl, H6⟩
  refine aI (dh 0 (l' := [_, _, _]) (us := [_, _, _]) H6 bG O O O (aF (aZ (by first | rfl | exact Rd.one ((H6.f5).CY)) (aZ (by first | rfl | exact Rd.one ((H6.f6).CY)) bK))) O O) ?_
  rintro _ w7 H7
  refine bY ?_
  refine P6 (H7.g8) ?_
  intro G8 w8 H8
  try simp only [dI] at H8
  refine bn ?_
  have aaR := H8.drew
  have Vo := V.kp (aaR.f7.f7.f7.f7.f7.f7.f7)
  refine xP [0, 1] Vo O (jq 0 O Vo (fun W hW => jV aU O ((Kp.h hW).f2).get.2 O) (jq 1 O Vo (fun W hW => dG aS O bG O O ((Kp.h hW)).get.2) (mP 2 O (wu O func114 (EJ aaR (fun W HW => (HW.f5).CY) (fun W HW => (HW.f6).CY) (by omega) (by omega))) ?_)))
  rintro _ w9 ⟨d9, s9, rfl, H9⟩
  have Vd := V.kp (H9.f9.f9.f9.f9.f9.f9.f9.f9.f9)
  refine dK Vd (fun W hW => (Kp.h hW).right.right.f7.f7.f7.f7.f7.f7.f7) ?_
  refine mP 3 O (sH H9 aU bG dB O O O (by decide) (by decide)) ?_
  rintro l10 w10 sV
  have Vp := V.kp (sV.f10.f10.f10.f10.f10.f10.f10.f10.f10.f10)
  refine dK Vp (fun W hW => (Kp.h hW).right.f9.f9.f9.f9.f9.f9.f9.f9.f9) ?_
  refine mP 4 O (iQ sV.f6 aU AB O O O ((sV).aP) (aF (aZ (by first | rfl | exact Rd.one ((sV.f2).aP)) (aZ (by first | rfl | exact Rd.one ((sV.f3).aP)) bK))) (by omega) (by omega)) ?_
  rintro l11 I9 yt
  have Jv := yt.f2.right
  have Ht := V.kp (Jv.f9.f9.f9.f9.f9.f9.f9.f9.f9)
  refine iC Ht (by kernel_rfl) ?_
  refine eF 5 O (by kernel_rfl) (fM 0 (l' := [_]) Jv.f5 bV O O (by first | rfl | exact Rd.one ((Jv).aP)) O O) ?_
  rintro _ O8 yY
  have Hu := V.kp (yY.f9.f9.f9.f9.f9.f9.f9.f9.f9)
  refine iC Hu (by kernel_rfl) ?_
  refine qp (aN ?_)
  refine Hy ?_
  have X := (yY.f5.right.f6.right.f6.right.f6.right.f6.f2.f6.f4.f6.f6).oJ.swap.oJ.swap
  have X2 := V.yN X.f3
  exact (V.Vm (es := es) (k := k + 1) (by rw [List.map_append, hfs, Vl (by omega)]; rfl) X2.swap).deep
 ·rintro D14 MK yu
  have Nu := yu.ed
  try simp only [dI, oh, wF] at Nu
  have Zp := Nu.QH
  obtain ⟨u, fs, hfs, hfl, HI⟩ := (Zp.f4).NK
  refine aN (bg (jg (dQ aU O (HI).get.2 O (iW O ?_))))
  refine F8 (.inl O) (HI.f4) (fun SX BA => ?_)
  refine ⟨_, Y4 results103 O, ?_⟩
  rw [List.take_of_length_le (by simp)] at hfs
  exact ⟨_, hfs, BA.right.f3.right.f3.f3.f3⟩
 ·rintro D w H; exact absurd H.swap.fact.1 id
 ·rintro id D w H; exact absurd H.swap.fact.1 fun h => h
end
end Go.Proofs.YtimndnfpcomhlaaGreatDoor
end
