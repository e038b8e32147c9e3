import Derived.Test.YtpdeedplgmbopaaGreatDoorZ4
import Derived.Test.YtpdeedplgmbopaaGreatDoorZ7
import Derived.Test.YtpdeedplgmbopaaGreatDoorZ6
import Derived.Test.YtpdeedplgmbopaaGreatDoorZ5
import Derived.Test.YtpdeedplgmbopaaGreatDoorZ3
set_option linter.unusedSimpArgs false
set_option linter.unusedVariables false
/- Texts of mine, joined, their names in short: RingAny Undo1 Undo2 Eds UList Range UList2 UList3. -/
section
namespace Go.Proofs.YtpdeedplgmbopaaGreatDoor
open Go.RowKit
open _root_.Go.Proofs.Tryz
section
variable {w0 w : World} {F : HP} {p place : Nat} {E : List (List Int)}
theorem OW (H : V w0 w (gY p E place • F)) : E.length ≤ 60 ∧ (place < E.length ∨ place = 0) ∧ ∀ e ∈ E, e.length ≤ 1024 := by
  obtain ⟨s, h, hs, hh, hE, hpl, hE2, hs1, H1⟩ := H.ring
  exact ⟨hE, hpl, hE2⟩
theorem Ri (H : V w0 w (gY p E place • F)) : jf prog 205 #[.pointer (some ⟨p, 0, none⟩)] w fun v w' => ∃ u, v = .tuple #[u, .int .i64 (if E.length = 0 then 6 else 0)] ∧ V w0 w' (je 21 .i32 u (E.getD place []) • gY p E place • F) := by
  by_cases h0 : E.length = 0
  · obtain rfl := List.eq_nil_of_length_eq_zero h0
    exact (OV H).mono fun v w' h => ⟨_, h.1, h.2.kF none⟩
  · rw [if_neg h0]
    exact (Rh H (by omega)).mono fun v w' h => h
theorem NK {n : Int} (H : V w0 w (gY p E place • F)) : jf prog 87 #[.pointer (some ⟨p, 0, none⟩), .int .i64 n] w fun v w' => ∃ u, v = .tuple #[u, .int .i64 (if E.length = 0 then 6 else 0)] ∧
    V w0 w' (je 21 .i32 u (if E.length = 0 then [] else E.getD (I9 E.length place n) []) • gY p E (if E.length = 0 then place else I9 E.length place n) • F) := by
  by_cases h0 : E.length = 0
  · obtain rfl := List.eq_nil_of_length_eq_zero h0
    simp only [List.length_nil, if_true]
    exact (EY H).mono fun v w' h => ⟨_, h.1, h.2.kF none⟩
  · simp only [if_neg h0]
    exact (Gm H (by omega)).mono fun v w' h => h
end
section
variable {w0 w : World} {F : HP} {v d s z d2 z2 u1 u2 u3 : Value} {L dl il dl2 il2 l1 l2 l3 : List Int} {a a2 : Int}
def akp (L : List Int) (a : Int) (dl : List Int) : Bool := decide (0 ≤ a ∧ a + dl.length ≤ L.length) && ((L.drop a.toNat).take dl.length == dl)
def uE (L : List Int) (a : Int) (dl il : List Int) : Int := if akp L a dl then (if 1024 < (L.length : Int) - dl.length + il.length then 3 else 0) else 1
def uL (L : List Int) (a : Int) (dl il : List Int) : List Int := if uE L a dl il = 0 then L.take a.toNat ++ il ++ L.drop (a.toNat + dl.length) else []
abbrev edV (a : Int) (d z : Value) : Value := .agg #[.int .i64 a, d, z]
theorem Cb (H : V w0 w F) (hd : jO w0 F .i32 d dl) (hi : jO w0 F .i32 z il) (b2 : dl.length ≤ 35184372087808) (b3 : il.length ≤ 35184372087808) :
  jf prog 179 #[edV a d z] w fun v' w' => ∃ d' s', v' = edV a d' s' ∧ V w0 w' (je 21 .i32 d' dl • je 21 .i32 s' il • F) := by
 refine jE func179 ntmps179 ?_
 refine jg (kV (kK (l := [_, _, _]) H O O) ?_)
 rintro _ w1 ⟨b1, rfl, H1⟩
 refine kV (iO (l := [_, _, _]) H1 fJ O) ?_
 rintro _ w2 ⟨b2, rfl, H2⟩
 refine rW ?_
 have acC := H2.drew
 have EZ := V.kp (acC.f2.f2)
 refine nG [1, 3, 6] EZ O (dJ 0 O EZ 0 bn O aj O (fM 1 O EZ (fun W hW => fQ aA O ((Kp.h hW).f2).get.2 O) (dJ 2 O EZ 1 bn O bD O (fM 3 O EZ (fun W hW => fQ ah O ((Kp.h hW).f2).get.2 O) (dJ 5 O EZ 2 bn O bD O (fM 6 O EZ (fun W hW => fQ ah O ((Kp.h hW).f2).get.2 O) (ny 4 O (wM O func71 (qy acC (fun W HW => hd _ (HW.right.right)) (by omega))) ?_)))))))
 rintro u3 w3 H3
 have uQ := V.kp (H3.f3.f3.f3)
 refine dK uQ (fun W hW => (Kp.h hW).right.f2.f2) ?_
 refine ny 7 O (wM O func71 (qy H3 (fun W HW => hi _ (HW.right.right.right)) (by omega))) ?_
 rintro u4 w4 H4
 have oH := V.kp (H4.f4.f4.f4.f4)
 refine dK oH (fun W hW => (Kp.h hW).right.f3.f3.f3) ?_
 obtain ⟨au3, cu3, eu3, -⟩ := gB.open ((H4.f2).aO)
 subst eu3
 obtain ⟨au4, cu4, eu4, -⟩ := gB.open ((H4).aO)
 subst eu4
 refine dS 8 O oH (fun _ => qx (pl := #[(0, 1), (1, 1), (2, 1)]) (#[_, _, _]) bn fJ (fun w => by kernel_rfl) O (O)) ?_
 refine dF 9 O (by kernel_rfl) (dM 0 (l' := [_, _, _]) (us := [_, _, _]) H4.f3 dB O O O (aJ (bG (by first | rfl | exact Rd.one ((H4.f2).aO)) (bG (by first | rfl | exact Rd.one ((H4).aO)) dn))) O O) ?_
 rintro _ w7 H7
 have Ae := V.kp (H7.f4.f4.f4.f4)
 refine gU Ae (by kernel_rfl) ?_
 refine lJ (aU (iL ?_))
 refine wS (.inl O) (Ud results179 O bn O (by rw [xQ]; rfl) (H7).get.2) ?_
 exact ⟨_, _, O, H7.right.f3.right.f2⟩
theorem LW (H : V w0 w F) (hd : jO w0 F .i32 d dl) (hi : jO w0 F .i32 z il) (b2 : dl.length ≤ 35184372087808) (b3 : il.length ≤ 35184372087808) :
  jf prog 198 #[edV a d z] w fun v' w' => ∃ d' s', v' = edV a d' s' ∧ V w0 w' (je 21 .i32 d' il • je 21 .i32 s' dl • F) := by
 refine jE func198 ntmps198 ?_
 refine jg (kV (kK (l := [_, _, _]) H O O) ?_)
 rintro _ w1 ⟨b1, rfl, H1⟩
 refine kV (iO (l := [_, _, _]) H1 fJ O) ?_
 rintro _ w2 ⟨b2, rfl, H2⟩
 refine zk7 (bM 0 bn O aj O (eH aA O (H2.f2).get.2 O (bM 2 bn O bD O (eH ah O (H2.f2).get.2 O (bM 1 bn O bD O (eH ah O (H2.f2).get.2 O ?_))))))
 obtain ⟨az, cz, ez, -⟩ := gB.open (hi _ (H2.right.right))
 subst ez
 obtain ⟨ad, cd, ed, -⟩ := gB.open (hd _ (H2.right.right))
 subst ed
 refine aV (qx (pl := #[(0, 1), (1, 1), (2, 1)]) (#[_, _, _]) bn fJ (fun w => by kernel_rfl) O (O)) (dX O func179 (Cb H2 (fun W HW => hi _ (HW.right.right)) (fun W HW => hd _ (HW.right.right)) (by omega) (by omega)) ?_)
 rintro _ w5 ⟨d5, s5, rfl, H5⟩
 refine aQ (dM 0 (l' := [_, _, _]) (us := [_, _, _]) H5.f3 dB O O O (aJ (bG (by first | rfl | exact Rd.one ((H5).aO)) (bG (by first | rfl | exact Rd.one ((H5.f2).aO)) dn))) O O) ?_
 rintro _ w6 H6
 refine zkc ?_
 refine wS (.inl O) (Ud results198 O bn O (by rw [xQ]; rfl) (H6).get.2) ?_
 exact ⟨_, _, O, H6.right.f3.right.f2.f2⟩
end
end Go.Proofs.YtpdeedplgmbopaaGreatDoor
end
section
namespace Go.Proofs.YtpdeedplgmbopaaGreatDoor
open Go.RowKit
section
variable {w0 w : World} {F : HP} {v d s z d2 z2 u1 u2 u3 : Value} {L dl il dl2 il2 l1 l2 l3 : List Int} {a a2 : Int}
def jK (a a2 : Int) (dl il dl2 il2 : List Int) : Nat := if dl2.length = 0 ∧ a2 = a + il.length then 1 else if il.length = 0 ∧ il2.length = 0 ∧ a = a2 + dl2.length then 2 else 0
def jA (k : Nat) (a a2 : Int) : Int := if k = 1 then a else if k = 2 then a2 else 0
def jD (k : Nat) (dl dl2 : List Int) : List Int := if k = 1 then dl else if k = 2 then dl2 ++ dl else []
def jI (k : Nat) (il il2 : List Int) : List Int := if k = 1 then il ++ il2 else []
end
structure gX where
  a : Int
  d : Value
  dl : List Int
  i : Value
  il : List Int
instance : Inhabited gX := ⟨⟨0, .slice none 0 0, [], .slice none 0 0, []⟩⟩
def gX.enc (e : gX) : List Value := [.int .i64 e.a, e.d, e.i]
theorem gX.AB (e : gX) : e.enc.length = 3 := rfl
def gX.Imm (I : Hp) (e : gX) : Prop := I8 I .i32 e.d e.dl ∧ I8 I .i32 e.i e.il
theorem gX.Imm.mono {I I' : Hp} {e : gX} (hl : Hp.le I I') (h : e.Imm I) : e.Imm I' := ⟨h.1.mono hl, h.2.mono hl⟩
def gX.says (e : gX) : Int × List Int × List Int := (e.a, e.dl, e.il)
def NM (I : Hp) (es : List gX) : Prop := ∀ k, k < es.length → (es.getD k default).Imm I
theorem NM.mono {I I' : Hp} {es : List gX} (hl : Hp.le I I') (h : NM I es) : NM I' es := fun k hk => (h k hk).mono hl
theorem NM.app {I : Hp} {es fs : List gX} (h : NM I es) (g : NM I fs) : NM I (es ++ fs) := fun k hk => by
  by_cases hl : k < es.length
  · rw [Aw hl]; exact h k hl
  · rw [zu (by omega)]; exact g _ (by simp at hk; omega)
theorem NM.one {I : Hp} {e : gX} (h : e.Imm I) : NM I [e] := fun k hk => by
  obtain rfl : k = 0 := by simp at hk; omega
  exact h
def nD (es : List gX) : HP := know (fun I => NM I es) fun _ _ hl h => h.mono hl
def edK (e : gX) : HP := know (fun I => e.Imm I) fun _ _ hl h => h.mono hl
def QT (v : Value) (es : List gX) : HP := Row 189 3 v es.length (es.flatMap gX.enc) • nD es
def Ja (I : Hp) (sz : Nat) (v : Value) (n : Nat) (xs : List Value) : Prop := xs.length = n * sz ∧ ∃ a c, v = .slice a n c ∧ n ≤ c ∧ (c : Int) ≤ 9223372036854775807 ∧
  (0 < n → ∃ b o cs e fr, a = some ⟨b, o, none⟩ ∧ I b = some (.cells cs e fr) ∧ ∀ j, j < n * sz → cs[o + j]? = some (xs.getD j undef))
theorem Ja.mono {I I' : Hp} {sz n : Nat} {v : Value} {xs : List Value} (hl : Hp.le I I') (h : Ja I sz v n xs) : Ja I' sz v n xs := by
  obtain ⟨h0, a, c, h1, h2, h3, h4⟩ := h
  exact ⟨h0, a, c, h1, h2, h3, fun hp => let ⟨b, o, cs, e, fr, e1, e2, e3⟩ := h4 hp; ⟨b, o, cs, e, fr, e1, hl _ _ e2, e3⟩⟩
theorem Ja.rd {w : World} {m : Nat} {I : Hp} {sz n : Nat} {v : Value} {xs : List Value} (h : Ja I sz v n xs) (hI : ∀ k o, I k = some o → m ≤ k ∧ w.heap[k]? = some o) : Rd w sz v n xs := by
  obtain ⟨h0, a, c, h1, h2, h3, h4⟩ := h
  exact ⟨h0, a, c, h1, h2, h3, fun hp => let ⟨b, o, cs, e, fr, e1, e2, e3⟩ := h4 hp; ⟨b, o, e1, fun j hj => iI (hI _ _ e2).2 (e3 j hj)⟩⟩
theorem Ja.acs {I : Hp} {sz n : Nat} {v : Value} {xs : List Value} (h : Ja I sz v n xs) : v.oneCell' = true := by obtain ⟨_, a, c, rfl, _⟩ := h; rfl
def ElI (I : Hp) (v : Value) (es : List gX) : Prop := Ja I 3 v es.length (es.flatMap gX.enc) ∧ NM I es
theorem ElI.mono {I I' : Hp} {v : Value} {es : List gX} (hl : Hp.le I I') (h : ElI I v es) : ElI I' v es := ⟨h.1.mono hl, h.2.mono hl⟩
def Jb (v : Value) (es : List gX) : HP := know (fun I => ElI I v es) fun _ _ hl h => h.mono hl
def JH (I : Hp) (gs : List (Value × List gX)) : Prop := ∀ k, k < gs.length → ElI I (gs.getD k default).1 (gs.getD k default).2
theorem JH.mono {I I' : Hp} {gs : List (Value × List gX)} (hl : Hp.le I I') (h : JH I gs) : JH I' gs := fun k hk => (h k hk).mono hl
theorem JH.app {I : Hp} {es fs : List (Value × List gX)} (h : JH I es) (g : JH I fs) : JH I (es ++ fs) := fun k hk => by
  by_cases hl : k < es.length
  · rw [Aw hl]; exact h k hl
  · rw [zu (by omega)]; exact g _ (by simp at hk; omega)
theorem JH.one {I : Hp} {v : Value} {es : List gX} (h : ElI I v es) : JH I [(v, es)] := fun k hk => by
  obtain rfl : k = 0 := by simp at hk; omega
  exact h
theorem JH.take {I : Hp} {gs : List (Value × List gX)} (h : JH I gs) (n : Nat) : JH I (gs.take n) := fun k hk => by
  simp at hk
  rw [LP (by omega)]
  exact h k (by omega)
def tN (gs : List (Value × List gX)) : HP := know (fun I => JH I gs) fun _ _ hl h => h.mono hl
def JI (v : Value) (gs : List (Value × List gX)) : HP := Row 80 1 v gs.length (gs.map (·.1)) • tN gs
section
variable {w0 w : World} {F : HP} {v u : Value} {es fs : List gX} {e : gX} {gs : List (Value × List gX)} {a : Int} {d i : Value} {dl il : List Int}
theorem V.OX (H : V w0 w F) : V w0 w (nD [] • F) := H.BU fun I k hk => by simp at hk
theorem V.OY (H : V w0 w F) : V w0 w (tN [] • F) := H.BU fun I k hk => by simp at hk
theorem V.xB (H : V w0 w F) (a : Option Addr) : V w0 w (QT (.slice a 0 0) [] • F) := (H.OX.kF (e := 189) (sz := 3) a).deep
theorem V.Kw (H : V w0 w F) (a : Option Addr) : V w0 w (JI (.slice a 0 0) [] • F) := (H.OY.kF (e := 80) (sz := 1) a).deep
theorem V.edL (H : V w0 w (QT v es • F)) : V w0 w (Row 189 3 v es.length (es.flatMap gX.enc) • nD es • F) := H.flat
theorem V.afv (H : V w0 w (JI v gs • F)) : V w0 w (Row 80 1 v gs.length (gs.map (·.1)) • tN gs • F) := H.flat
theorem V.E5 (H : V w0 w (Row 189 3 v (es.length + 1) (es.flatMap gX.enc ++ [.int .i64 a, d, i]) • qZ .i32 d dl • qZ .i32 i il • nD es • F)) : V w0 w (QT v (es ++ [⟨a, d, dl, i, il⟩]) • F) := by
  have h1 : V w0 w (qZ .i32 d dl • qZ .i32 i il • nD es • Row 189 3 v (es.length + 1) (es.flatMap gX.enc ++ [.int .i64 a, d, i]) • F) := H.of_eq (by ac_rfl)
  have h2 : V w0 w (edK ⟨a, d, dl, i, il⟩ • nD es • Row 189 3 v (es.length + 1) (es.flatMap gX.enc ++ [.int .i64 a, d, i]) • F) := h1.JD (vH (fun I h g => ⟨h, g⟩) _)
  have h3 : V w0 w (nD (es ++ [⟨a, d, dl, i, il⟩]) • Row 189 3 v (es.length + 1) (es.flatMap gX.enc ++ [.int .i64 a, d, i]) • F) := h2.JD (vH (fun I h g => g.app (NM.one h)) _)
  refine V.deep (h3.swap.of_eq ?_)
  rw [List.length_append, List.flatMap_append]
  simp [gX.enc]
theorem V.uY (H : V w0 w (QT v es • F)) : V w0 w (Jb v es • F) := by
  have hl := H.edL.rJ
  have H := H.edL
  rcases H.xZ with ⟨a, rfl, h1, h2, H1⟩ | ⟨g, o, c, cur, rfl, h2, h3, h4, h5, H1⟩
  · refine H1.JD (vG (fun I hI => ⟨⟨hl, a, 0, by rw [h1], by omega, by decide, fun h => by omega⟩, hI⟩) F)
  · exact H1.freeze.JD (vH (fun I hI hE => ⟨⟨hl, _, c, rfl, h2, h3, fun _ => ⟨g, o, cur, _, (0, 0), rfl, hI, h5⟩⟩, hE⟩) F)
theorem V.Af (H : V w0 w (Jb v es • F)) : Rd w 3 v es.length (es.flatMap gX.enc) := let ⟨I, h, hI⟩ := H.yL; h.1.rd hI
theorem V.ai6 (H : V w0 w (Jb v es • F)) {k : Nat} (hk : k < es.length) : gB w .i32 (es.getD k default).d (es.getD k default).dl := let ⟨I, h, hI⟩ := H.yL; (h.2 k hk).1.rd hI
theorem V.ai7 (H : V w0 w (Jb v es • F)) {k : Nat} (hk : k < es.length) : gB w .i32 (es.getD k default).i (es.getD k default).il := let ⟨I, h, hI⟩ := H.yL; (h.2 k hk).2.rd hI
theorem V.VQ (H : V w0 w (tN gs • F)) {k : Nat} (hk : k < gs.length) : V w0 w (Jb (gs.getD k default).1 (gs.getD k default).2 • tN gs • F) := H.wR.JD (vG (fun I h => h k hk) _)
theorem V.VR (H : V w0 w (tN gs • F)) (n : Nat) : V w0 w (tN (gs.take n) • F) := H.JD (vG (fun I h => h.take n) _)
theorem V.yV (H : V w0 w (Row 80 1 v (gs.length + 1) (gs.map (·.1) ++ [u]) • Jb u es • tN gs • F)) : V w0 w (JI v (gs ++ [(u, es)]) • F) := by
  have h1 : V w0 w (Jb u es • tN gs • Row 80 1 v (gs.length + 1) (gs.map (·.1) ++ [u]) • F) := H.of_eq (by ac_rfl)
  have h3 : V w0 w (tN (gs ++ [(u, es)]) • Row 80 1 v (gs.length + 1) (gs.map (·.1) ++ [u]) • F) := h1.JD (vH (fun I h g => g.app (JH.one h)) _)
  refine V.deep (h3.swap.of_eq ?_)
  rw [List.length_append, List.map_append]
  rfl
theorem V.Hl (H : V w0 w (nD es • F)) : ∀ x ∈ es.flatMap gX.enc, x.oneCell' = true := by
  obtain ⟨I, h, hI⟩ := H.yL
  intro x hx
  obtain ⟨e, he, hx⟩ := List.mem_flatMap.1 hx
  obtain ⟨k, hk, rfl⟩ := List.getElem_of_mem he
  have := h k hk
  rw [List.getD_eq_getElem?_getD, List.getElem?_eq_getElem hk] at this
  simp [gX.enc] at hx
  rcases hx with rfl | rfl | rfl
  · rfl
  · exact this.1.acs
  · exact this.2.acs
end
end Go.Proofs.YtpdeedplgmbopaaGreatDoor
end
section
namespace Go.Proofs.YtpdeedplgmbopaaGreatDoor
open Go.RowKit
open _root_.Go.Proofs.Tryz
abbrev jL := Int × List Int × List Int
def iK (G : List (List jL)) (N : List jL) : Nat := (G.map List.length).sum + N.length
def EB (e : jL) : Prop := e.2.1.length ≤ 35184372087808 ∧ e.2.2.length ≤ 35184372087808
theorem afw {N : List jL} {x : jL} (h : ∀ e ∈ N, EB e) (hx : EB x) : ∀ e ∈ N ++ [x], EB e := fun e he => by
  rcases List.mem_append.1 he with he | he
  · exact h e he
  · rw [List.mem_singleton.1 he]; exact hx
theorem VT {G : List (List jL)} {N : List jL} (h : ∀ g ∈ G, ∀ e ∈ g, EB e) (hx : ∀ e ∈ N, EB e) : ∀ g ∈ G ++ [N], ∀ e ∈ g, EB e := fun g hg => by
  rcases List.mem_append.1 hg with hg | hg
  · exact h g hg
  · rw [List.mem_singleton.1 hg]; exact hx
theorem ZU {G : List (List jL)} {N : List jL} (h : ∀ g ∈ G, g ≠ []) (hx : N ≠ []) : ∀ g ∈ G ++ [N], g ≠ [] := fun g hg => by
  rcases List.mem_append.1 hg with hg | hg
  · exact h g hg
  · rw [List.mem_singleton.1 hg]; exact hx
def UOk (G : List (List jL)) (N : List jL) (op : Int) : Prop := (∀ g ∈ G, g ≠ []) ∧ iK G N ≤ 16384 ∧ 0 ≤ op ∧ op ≤ 4611686018427387904 ∧ (∀ g ∈ G, ∀ e ∈ g, EB e) ∧ ∀ e ∈ N, EB e
theorem Yv {G : List (List jL)} (h : ∀ g ∈ G, g ≠ []) : G.length ≤ (G.map List.length).sum := by
  induction G with
  | nil => simp
  | cons g G ih =>
    have h1 := ih fun x hx => h x (by simp [hx])
    have h2 : 0 < g.length := List.length_pos_iff.2 (h g (by simp))
    simp; omega
theorem UOk.len {G : List (List jL)} {N : List jL} {op : Int} (h : UOk G N op) : G.length + N.length ≤ 16384 := by
  have := Yv h.1
  have := h.2.1
  unfold iK at this
  omega
def kC (p : Nat) (G : List (List jL)) (N : List jL) (op : Int) : HP := zX fun (x : Value × Value × List (Value × List gX) × List gX) =>
  fact (UOk G N op ∧ x.2.2.1.map (fun g => g.2.map gX.says) = G ∧ x.2.2.2.map gX.says = N) • gJ p (.cells #[x.1, x.2.1, .int .i64 op, .int .i64 (iK G N : Nat), .bool true] 235 (0, 0)) • JI x.1 x.2.2.1 • QT x.2.1 x.2.2.2
section
variable {w0 w : World} {F : HP} {p : Nat} {G : List (List jL)} {N : List jL} {op : Int} {gv nv : Value} {gs : List (Value × List gX)} {now : List gX} {a : Int} {d z : Value} {dl il : List Int}
theorem V.BM (H : V w0 w (kC p G N op • F)) : ∃ gv nv gs now, UOk G N op ∧ gs.map (fun g => g.2.map gX.says) = G ∧ now.map gX.says = N ∧ gs.length = G.length ∧ now.length = N.length ∧ G.length + N.length ≤ 16384 ∧
    V w0 w (gJ p (.cells #[gv, nv, .int .i64 op, .int .i64 (iK G N : Nat), .bool true] 235 (0, 0)) • Row 80 1 gv gs.length (gs.map (·.1)) • tN gs • Row 189 3 nv now.length (now.flatMap gX.enc) • nD now • F) := by
  obtain ⟨⟨gv, nv, gs, now⟩, H⟩ := H.qY
  obtain ⟨⟨h1, h2, h3⟩, H⟩ := H.flat.fact
  refine ⟨gv, nv, gs, now, h1, h2, h3, ?_, ?_, h1.len, ?_⟩
  · rw [← h2]; simp
  · rw [← h3]; simp
  · have := H.flat
    unfold JI QT at this
    exact this.of_eq (by ac_rfl)
theorem V.AV (h1 : UOk G N op) (h2 : gs.map (fun g => g.2.map gX.says) = G) (h3 : now.map gX.says = N) {ed : Int} (he : ed = (iK G N : Nat))
    (H : V w0 w (gJ p (.cells #[gv, nv, .int .i64 op, .int .i64 ed, .bool true] 235 (0, 0)) • JI gv gs • QT nv now • F)) : V w0 w (kC p G N op • F) := by
  subst he
  exact V.kT (gv, nv, gs, now) (V.deep (V.oQ ⟨h1, h2, h3⟩ (H.of_eq (by ac_rfl))))
theorem V.qX (h1 : UOk G N op) (h2 : gs.map (fun g => g.2.map gX.says) = G) (h3 : now.map gX.says = N) {ed : Int} (he : ed = (iK G N : Nat))
    (H : V w0 w (gJ p (.cells #[gv, nv, .int .i64 op, .int .i64 ed, .bool true] 235 (0, 0)) • Row 80 1 gv gs.length (gs.map (·.1)) • tN gs • Row 189 3 nv now.length (now.flatMap gX.enc) • nD now • F)) : V w0 w (kC p G N op • F) :=
  V.AV h1 h2 h3 he (H.of_eq (by unfold JI QT; ac_rfl))
theorem nJ (H : V w0 w (kC p G N op • F)) : jf prog 158 #[.pointer (some ⟨p, 0, none⟩)] w fun v w' => v = .bool false ∧ w = w' := by
 refine jE func158 ntmps158 ?_
 refine kH O (aI ?_)
 obtain ⟨FN, Cc, oh, pJ, oq, y8, yg, Ky, Kz, OZ, uI⟩ := (H).BM
 refine aF (bW O (aV (kU underlying184 O O) (jY O (fun h1 => ?_) (fun h1 => ?_))))
 ·(try simp only [Z] at h1)
  exfalso; first | contradiction | omega
 ·(try simp only [Z] at h1)
  refine bF (bW O (bF (dV O (bF (bM 4 dw O aT O (bF (eH bJ O (uI).get.2 O (bF (aV (jR O) (iH O O (fP O (dL results158 O ?_))))))))))))
  exact ⟨O, O⟩
theorem Ut (H : V w0 w F) : jf prog 174 #[] w fun v w' => ∃ p, v = .pointer (some ⟨p, 0, none⟩) ∧ V w0 w' (kC p [] [] 0 • F) := by
  refine aaY func174 ntmps174 ?_
  refine kH O (jg (aV (qx (pl := #[(0, 4), (4, 1)]) (#[_, _, _, _, _]) dw zeroValue235 (fun w => by kernel_rfl) O (O)) (kV (kK (l := [_, _, _, _, _]) H O O) ?_)))
  rintro _ w1 ⟨b1, rfl, H1⟩
  refine fP O (dL results174 O ?_)
  refine ⟨_, O, V.AV (gv := .slice none 0 0) (nv := .slice none 0 0) (gs := []) (now := []) ⟨by simp, by decide, by decide, by decide, by simp, by simp⟩ O O O ?_⟩
  exact (((H1).xB none).Kw none).of_eq (by ac_rfl)
theorem KA (H : V w0 w (kC p G N op • F)) : jf prog 120 #[.pointer (some ⟨p, 0, none⟩)] w fun v w' => v = .int .i64 ((G.length : Int) + min 1 N.length) ∧ V w0 w' (kC p G N op • F) := by
 refine jE func120 ntmps120 ?_
 refine kH O (aI (bI O (dX O func158 (nJ H) ?_)))
 rintro _ _ ⟨rfl, rfl⟩
 refine iR (oL (gy (aI ?_)))
 obtain ⟨FN, Cc, oh, pJ, oq, y8, yg, Ky, Kz, OZ, uI⟩ := (H).BM
 have ED := uI.drew
 have jh := V.kp (ED.f5.f5.f5.f5.f5)
 refine nG [4, 10] jh O (fD 0 O jh O (iG 1 O jh O (dJ 2 O jh 0 dw O fC O (dJ 3 O jh 0 dD O iZ O (fM 4 O jh (fun W hW => fQ cO O ((Kp.h hW)).get.2 O) (dS 5 O jh (fun _ => ku ((ED.f2).aO) cO O) (fD 6 O jh O (iG 7 O jh O (dJ 8 O jh 0 dw O fC O (dJ 9 O jh 1 dD O dA O (fM 10 O jh (fun W hW => fQ aZ O ((Kp.h hW)).get.2 O) (dS 11 O jh (fun _ => ku ((ED.f4).aO) aZ O) (dS 12 O jh (fun _ => mW O O) (dS 13 O jh (fun _ => fH O O (by omega)) (dS 14 O jh (fun _ => aW O) (lJ (aU (iL (dL results120 O ?_)))))))))))))))))))
 have Uu := ED.f5.f5.f5.f5.f5
 have Rj := V.qX oq y8 yg rfl Uu
 exact ⟨by rw [Ky, Kz]; congr 1; omega, Rj⟩
theorem O4 (H : V w0 w (kC p G N op • F)) : jf prog 203 #[.pointer (some ⟨p, 0, none⟩)] w fun v w' => v = .int .i64 (iK G N : Nat) ∧ V w0 w' (kC p G N op • F) := by
 refine jE func203 ntmps203 ?_
 refine kH O (aI (bI O (dX O func158 (nJ H) ?_)))
 rintro _ _ ⟨rfl, rfl⟩
 refine iR (oL (gy (aI ?_)))
 obtain ⟨FN, Cc, oh, pJ, oq, y8, yg, Ky, Kz, OZ, uI⟩ := (H).BM
 refine aF (mX O O (bM 0 dw O fC O (bM 3 dD O aj O (eH aA O (uI).get.2 O (fP O (dL results203 O ?_))))))
 have Uu := uI.f5.f5.f5.f5.f5
 have Rj := V.qX oq y8 yg rfl Uu
 exact ⟨O, Rj⟩
theorem DC (H : V w0 w (kC p G N op • F)) (hb : op < 4611686018427387904) : jf prog 137 #[.pointer (some ⟨p, 0, none⟩)] w fun v w' => v = .int .i64 0 ∧ V w0 w' (kC p G N (op + 1) • F) := by
 have hop : 0 ≤ op := by obtain ⟨gv, nv, gs, now, k1, _⟩ := H.BM; exact k1.2.2.1
 refine jE func137 ntmps137 ?_
 refine kH O (aI (bI O (dX O func158 (nJ H) ?_)))
 rintro _ _ ⟨rfl, rfl⟩
 refine iR (oL (gy (aI ?_)))
 obtain ⟨FN, Cc, oh, pJ, oq, y8, yg, Ky, Kz, OZ, uI⟩ := (H).BM
 refine aF (mX O O (bM 0 dw O fC O (bM 2 dD O aj O (eH aA O (uI).get.2 O (aV (fH O O (by omega)) (dV O (bM 0 dw O fC O (bM 2 dD O aj O (aQ (st5 2 uI aj) ?_)))))))))
 rintro _ w3 H3
 refine iR (jS O (dL results137 O ?_))
 exact ⟨O, V.qX ⟨oq.1, oq.2.1, by omega, by omega, oq.2.2.2.2⟩ y8 yg O H3.f5.f5.f5.f5.f5⟩
def Bv (G : List (List jL)) (N : List jL) (a : Int) (dl il : List Int) : Int := if dl.length + il.length = 0 ∨ a < 0 then 1 else if 16384 ≤ iK G N then 3 else 0
def Yw (G : List (List jL)) (N : List jL) (op a : Int) (dl il : List Int) : List (List jL) := if Bv G N a dl il = 0 then (if 0 < op then G else G ++ [[(a, dl, il)]]) else G
def Yx (G : List (List jL)) (N : List jL) (op a : Int) (dl il : List Int) : List jL := if Bv G N a dl il = 0 then (if 0 < op then N ++ [(a, dl, il)] else N) else N
theorem Uw {x : jL} : iK G (N ++ [x]) = iK G N + 1 := by simp [iK]; omega
theorem VU {x : jL} : iK (G ++ [[x]]) N = iK G N + 1 := by simp [iK]; omega
theorem O5 (h : Bv G N a dl il ≠ 0) : Yw G N op a dl il = G := by unfold Yw; rw [if_neg h]
theorem O6 (h : Bv G N a dl il ≠ 0) : Yx G N op a dl il = N := by unfold Yx; rw [if_neg h]
theorem N9 (h : Bv G N a dl il = 0) (ho : 0 < op) : Yw G N op a dl il = G := by unfold Yw; rw [if_pos h, if_pos ho]
theorem Oa (h : Bv G N a dl il = 0) (ho : 0 < op) : Yx G N op a dl il = N ++ [(a, dl, il)] := by unfold Yx; rw [if_pos h, if_pos ho]
theorem acD (h : Bv G N a dl il = 0) (ho : ¬ 0 < op) : Yw G N op a dl il = G ++ [[(a, dl, il)]] := by unfold Yw; rw [if_pos h, if_neg ho]
theorem acE (h : Bv G N a dl il = 0) (ho : ¬ 0 < op) : Yx G N op a dl il = N := by unfold Yx; rw [if_pos h, if_neg ho]
theorem FP (H : V w0 w (kC p G N op • F)) (hd : jO w0 F .i32 d dl) (hi : jO w0 F .i32 z il) (b2 : dl.length ≤ 35184372087808) (b3 : il.length ≤ 35184372087808) :
  jf prog 138 #[.pointer (some ⟨p, 0, none⟩), edV a d z] w fun v w' => v = .int .i64 (Bv G N a dl il) ∧ V w0 w' (kC p (Yw G N op a dl il) (Yx G N op a dl il) op • F) := by
 refine qo func138 ntmps138 ?_
 refine jg (kV (kK (l := [_, _, _]) H O O) ?_)
 rintro _ w1 ⟨b1, rfl, H1⟩
 refine tX O (bI O (dX O func158 (nJ H1.f2) ?_))
 rintro _ _ ⟨rfl, rfl⟩
 refine iR (oL (gy (aI (jg (bM 1 bn O bD O (eH ah O (H1).get.2 O (aV (gZ (hd _ (H1.right.right)) ah O) (bM 2 bn O bD O (eH ah O (H1).get.2 O (aV (gZ (hi _ (H1.right.right)) ah O) (aV (fH O O (by omega)) (aV (fB O O) (jY O (fun h1 => ?_) (fun h1 => ?_))))))))))))))
 ·(try simp only [Z] at h1)
  refine bK (bK (bK (jQ O O (iR (ET (jS O (aC (dL results138 O ?_))))))))
  have e : Bv G N a dl il = 1 := by unfold Bv; rw [if_pos (by omega)]
  rw [O5 (by rw [e]; decide), O6 (by rw [e]; decide), e]
  exact ⟨O, H1.right⟩
 ·(try simp only [Z] at h1)
  refine bF (bM 0 bn O aj O (bF (eH aA O (H1).get.2 O (bF (aV (gG O O) (iH O O (iW O (fun h2 => ?_) (fun h2 => ?_))))))))
  ·(try simp only [Z] at h2)
   refine jS O (aC (dL results138 O ?_))
   have e : Bv G N a dl il = 1 := by unfold Bv; rw [if_pos (by omega)]
   rw [O5 (by rw [e]; decide), O6 (by rw [e]; decide), e]
   exact ⟨O, H1.right⟩
  ·(try simp only [Z] at h2)
   refine gy (aI (aI ?_))
   obtain ⟨FN, Cc, oh, pJ, oq, y8, yg, Ky, Kz, OZ, uI⟩ := (H1.f2).BM
   refine aF (mX O O (bM 0 dw O fC O (bM 3 dD O aj O (eH aA O (uI).get.2 O (aV (mJ O O) (iW O (fun h3 => ?_) (fun h3 => ?_)))))))
   ·(try simp only [Z] at h3)
    refine jS O (aC (dL results138 O ?_))
    have e : Bv G N a dl il = 3 := by unfold Bv; rw [if_neg (by omega), if_pos (by omega)]
    have Ho5 := uI.f5.f5.f5.f5.f5
    have Hc6 := V.qX oq y8 yg rfl Ho5
    rw [O5 (by rw [e]; decide), O6 (by rw [e]; decide), e]
    exact ⟨O, Hc6.f2.right⟩
   ·(try simp only [Z] at h3)
    refine gy (bI O (dV O (bM 0 dw O fC O (bM 3 dD O aj O (eH aA O (uI).get.2 O (aV (fH O O (by omega)) (dV O (bM 0 dw O fC O (bM 3 dD O aj O (aQ (st5 3 uI aj) ?_))))))))))
    rintro _ w7 H7
    refine rW (bI O (dV O (bM 0 dw O fC O (bM 2 dD O aj O (eH aA O (H7).get.2 O (aV (gK O O) (iW O (fun h4 => ?_) (fun h4 => ?_))))))))
    ·(try simp only [Z] at h4)
     have ai8 := H7.drew
     have MZ := V.kp (ai8.f6.f6.f6.f6.f6.f6)
     refine nG [5, 6] MZ O (fD 0 O MZ O (fD 1 O MZ O (iG 2 O MZ O (dJ 3 O MZ 0 dw O fC O (dJ 4 O MZ 1 dD O dA O (fM 5 O MZ (fun W hW => fQ aZ O ((Kp.h hW)).get.2 O) (fM 6 O MZ (fun W hW => dH bn O dB O O ((Kp.h hW).f6).get.2) (ny 7 O (wM O func179 (Cb ai8 (fun W HW => hd _ (HW.right.right.right.right.right.right)) (fun W HW => hi _ (HW.right.right.right.right.right.right)) (by omega) (by omega))) ?_))))))))
     rintro _ w8 ⟨d8, s8, rfl, H8⟩
     have LX := V.kp (H8.f8.f8.f8.f8.f8.f8.f8.f8)
     refine dK LX (fun W hW => (Kp.h hW).right.right.f6.f6.f6.f6.f6.f6) ?_
     refine ny 8 O (yU H8 aZ dB fJ O O O (by decide) (by decide)) ?_
     rintro l9 w9 H9
     have Rk := V.kp (H9.f9.f9.f9.f9.f9.f9.f9.f9.f9)
     refine dK Rk (fun W hW => (Kp.h hW).right.f8.f8.f8.f8.f8.f8.f8.f8) ?_
     refine ny 9 O (jy H9.f7 aZ DF O O O ((H9).aO) (aJ (bG (by first | rfl | exact Rd.one ((H9.f2).aO)) (bG (by first | rfl | exact Rd.one ((H9.f3).aO)) dn))) (by omega) (by omega)) ?_
     rintro l10 w10 pG
     have Yy := pG.f2.right
     have DI := V.kp (Yy.f8.f8.f8.f8.f8.f8.f8.f8)
     refine gU DI (by kernel_rfl) ?_
     refine iG 10 O DI O (dJ 11 O DI 0 dw O fC O (dJ 12 O DI 1 dD O dA O ?_))
     refine dF 13 O (by kernel_rfl) (ig 1 (l' := [_, _, _, _, _]) Yy.f4 dA O O (by first | rfl | exact Rd.one ((Yy).aO)) O O) ?_
     rintro _ w12 wQ
     have Gn := V.kp (wQ.f8.f8.f8.f8.f8.f8.f8.f8)
     refine gU Gn (by kernel_rfl) ?_
     have hadd : 0 < op := by omega
     refine lJ (aU (jS O (dL results138 O ?_)))
     have e : Bv G N a dl il = 0 := by unfold Bv; rw [if_neg (by omega), if_neg (by omega)]
     rw [N9 e hadd, Oa e hadd, e]
     have X := (wQ.f8.right.f6.f6.f3.f7.f5.f7.f7).oC.swap.oC.swap
     have X2 := V.E5 X.f3
     refine ⟨O, V.AV (gv := FN) (nv := l10) (gs := oh) (now := pJ ++ [⟨a, d8, dl, s8, il⟩]) (ed := (iK G N : Nat) + 1) ⟨oq.1, by rw [Uw]; omega, oq.2.2.1, oq.2.2.2.1, oq.2.2.2.2.1, afw oq.2.2.2.2.2 ⟨b2, b3⟩⟩ y8 (by rw [List.map_append, yg]; rfl) (by rw [Uw]; rfl) (X2.of_eq (by unfold JI; ac_rfl))⟩
    ·(try simp only [Z] at h4)
     have acF := H7.drew
     have Ec := V.kp (acF.f6.f6.f6.f6.f6.f6)
     refine nG [5, 6] Ec O (fD 0 O Ec O (fD 1 O Ec O (iG 2 O Ec O (dJ 3 O Ec 0 dw O fC O (dJ 4 O Ec 0 dD O iZ O (fM 5 O Ec (fun W hW => fQ cO O ((Kp.h hW)).get.2 O) (fM 6 O Ec (fun W hW => dH bn O dB O O ((Kp.h hW).f6).get.2) (ny 7 O (wM O func179 (Cb acF (fun W HW => hd _ (HW.right.right.right.right.right.right)) (fun W HW => hi _ (HW.right.right.right.right.right.right)) (by omega) (by omega))) ?_))))))))
     rintro _ OL ⟨d13, s13, rfl, wB⟩
     have yh := V.kp (wB.f8.f8.f8.f8.f8.f8.f8.f8)
     refine dK yh (fun W hW => (Kp.h hW).right.right.f6.f6.f6.f6.f6.f6) ?_
     refine ny 8 O (yU wB aZ dB fJ O O O (by decide) (by decide)) ?_
     rintro l14 OG rU
     have Ho := V.kp (rU.f9.f9.f9.f9.f9.f9.f9.f9.f9)
     refine dK Ho (fun W hW => (Kp.h hW).right.f8.f8.f8.f8.f8.f8.f8.f8) ?_
     refine ny 9 O (nV (vs := [_]) rU cO dA qQ O O O (by decide) (bG (by first | rfl | exact Rd.one ((rU).aO)) dn)) ?_
     rintro l15 OM zV
     have zA := V.kp (zV.f10.f10.f10.f10.f10.f10.f10.f10.f10.f10)
     refine dK zA (fun W hW => (Kp.h hW).right.f9.f9.f9.f9.f9.f9.f9.f9.f9) ?_
     refine ny 10 O (jy zV.f6 cO Na O O O ((zV).aO) (bG (by first | rfl | exact Rd.one ((zV.f2).aO)) dn) (by omega) (by omega)) ?_
     rintro l16 w16 uT
     have Yz := uT.f2.right
     have Ed := V.kp (Yz.f9.f9.f9.f9.f9.f9.f9.f9.f9)
     refine gU Ed (by kernel_rfl) ?_
     refine iG 11 O Ed O (dJ 12 O Ed 0 dw O fC O (dJ 13 O Ed 0 dD O iZ O ?_))
     refine dF 14 O (by kernel_rfl) (ig 0 (l' := [_, _, _, _, _]) Yz.f5 iZ O O (by first | rfl | exact Rd.one ((Yz).aO)) O O) ?_
     rintro _ ZO EW
     have Gp := V.kp (EW.f9.f9.f9.f9.f9.f9.f9.f9.f9)
     refine gU Gp (by kernel_rfl) ?_
     have hadd : ¬ 0 < op := by omega
     refine lJ (aU (jS O (dL results138 O ?_)))
     have e : Bv G N a dl il = 0 := by unfold Bv; rw [if_neg (by omega), if_neg (by omega)]
     rw [acD e hadd, acE e hadd, e]
     have X := (EW.f9.right.f8.f8.f3.f8.f5.f6.f8.f8).oC.swap.oC.swap
     have X2 := V.E5 (es := []) X.OX.f3.f3.f4
     have X4 := V.yV X2.uY.swap
     refine ⟨O, V.AV (gv := l16) (nv := Cc) (gs := oh ++ [(l14, [⟨a, d13, dl, s13, il⟩])]) (now := pJ) (ed := (iK G N : Nat) + 1) ⟨ZU oq.1 (List.cons_ne_nil _ _), by rw [VU]; omega, oq.2.2.1, oq.2.2.2.1, VT oq.2.2.2.2.1 (by intro e he; rw [List.mem_singleton.1 he]; exact ⟨b2, b3⟩), oq.2.2.2.2.2⟩ (by rw [List.map_append, y8]; rfl) yg (by rw [VU]; rfl) (X4.of_eq (by unfold QT; ac_rfl))⟩
end
end Go.Proofs.YtpdeedplgmbopaaGreatDoor
end
section
namespace Go.Proofs.YtpdeedplgmbopaaGreatDoor
open Go.RowKit
def Ux (P : Program) (l : Nat) (vs : List Value) (w : World) (T : Value → World → Prop) : Prop :=
  ∃ f tmps c d, (Instr.yield l vs.toArray).run P w = .ok (.round l f tmps c d) w ∧ RoundIn Fence.wide 0 P l f tmps c d w fun e w' => ∃ v, e = .returned v ∧ T v w'
theorem Ux.mono {P : Program} {l : Nat} {vs : List Value} {w : World} {T T' : Value → World → Prop} (h : Ux P l vs w T) (k : ∀ v w', T v w' → T' v w') : Ux P l vs w T' :=
  let ⟨f, tmps, c, d, h1, h2⟩ := h; ⟨f, tmps, c, d, h1, RoundIn.mono h2 fun _ _ ⟨v, e, t⟩ => ⟨v, e, k _ _ t⟩⟩
theorem Ux.bool {P : Program} {l : Nat} {vs : List Value} {w : World} {A B : World → Prop} (h : Ux P l vs w fun v W' => (v = .bool true ∧ A W') ∨ (v = .bool false ∧ B W')) : Ux P l vs w fun v W' => ∃ t, v = .bool t ∧ (t = true → A W') ∧ (t = false → B W') :=
  h.mono fun v W' hv => by
    rcases hv with ⟨rfl, h⟩ | ⟨rfl, h⟩
    · exact ⟨true, rfl, fun _ => h, fun e => by cases e⟩
    · exact ⟨false, rfl, (fun e => by cases e), fun _ => h⟩
theorem Uy {P : Program} {L : List (Nat × Value)} {w : World} {ty : TypeId} {x : Operand} {args : List Operand} {ts : Array TypeId} {l : Nat} {vs : List Value} {T : Value → World → Prop} (hx : ev L x = some (.func (.yield l) #[] #[])) (ha : Je L args = some vs) (h : Ux P l vs w T) :
    zU P L (.call ⟨.value x, args.toArray, ts⟩) ty w T := by
  obtain ⟨f, tmps, c, d, hy, hr⟩ := h
  refine ae5 (fun ρ hρ dd pos sU g => ?_) hr
  have hg := hρ _ _ hx
  simp [execOp, resolve, invoke, evs hρ _ _ ha, hg, Deferred.ofValue, hy]
def Iter (P : Program) (w0 : World) (fv : Value) (R : HP) (n : Nat) (E : Nat → List Value → HP → Prop) : Prop :=
  ∀ (l : Nat) (J : Nat → HP) (X : HP) (w : World),
    (∀ k, k < n → ∀ vs A, E k vs A → ∀ G W, V w0 W (A • J k • G) → Ux P l vs W fun v W' => (v = .bool true ∧ V w0 W' (J (k + 1) • G)) ∨ (v = .bool false ∧ V w0 W' (X • G))) →
    V w0 w (J 0 • R) → zo P fv [.func (.yield l) #[] #[]] w fun _ W' => V w0 W' (J n • R) ∨ V w0 W' (X • R)
def VW (w0 : World) (I : HP) (Xr : HP) (Xe : Nat → HP) (G : HP) : Exit → Act → World → Prop
  | .normal, _, W => V w0 W (I • G)
  | .ret, _, W => V w0 W (Xr • G)
  | .exit id, _, W => V w0 W (Xe id • G)
  | _, _, _ => False
def ZV (P : Program) (N : Sh) (w0 : World) (body : Code) (I : HP) (Xr : HP) (Xe : Nat → HP) (G : HP) (a : Act) (W : World) : Prop :=
  ∃ (L : List (Nat × Value)) (B : HP), Fits N L a ∧ V w0 W (B • G) ∧ ∀ G' W', V w0 W' (B • G') → WC P N body (VW w0 I Xr Xe G') L W'
def acG : Exit → Act → World → Prop := fun _ _ _ => False
theorem YA {P : Program} {N : Sh} {w0 w : World} {body : Code} {I Xr : HP} {Xe : Nat → HP} {G B : HP} {L : List (Nat × Value)} (H : V w0 w (B • G)) (h : ∀ G' W', V w0 W' (B • G') → WC P N body (VW w0 I Xr Xe G') L W') :
    WQ N (Exit.then (ZV P N w0 body I Xr Xe G) acG) .normal L w := fun _ a ha => ⟨L, B, ha, H, h⟩
theorem O7 {N : Sh} {w0 w : World} {I Xr : HP} {Xe : Nat → HP} {G : HP} {L : List (Nat × Value)} (H : V w0 w (I • G)) : WQ N (VW w0 I Xr Xe G) .normal L w := fun _ _ _ => H
theorem acH {N : Sh} {w0 w : World} {I Xr : HP} {Xe : Nat → HP} {G : HP} {id : Nat} {L : List (Nat × Value)} (H : V w0 w (Xe id • G)) : WQ N (VW w0 I Xr Xe G) (.exit id) L w := fun _ _ _ => H
theorem acI {w0 : World} {I Xr : HP} {Xe : Nat → HP} {G : HP} : NP (VW w0 I Xr Xe G) := fun _ _ _ h => h
def YB : List Nat → List Value → List (Nat × Value) → List (Nat × Value)
  | [], _, L => L
  | _ :: _, [], L => L
  | p :: ps, v :: vs, L => YB ps vs ((p, v) :: L)
theorem VX {n l : Nat} : ∀ (ps : List Nat) (vs : List Value) (L : List (Nat × Value)) (tmps : Array Value), (∀ p ∈ ps, p < n) → Fits ⟨n, [], some l⟩ L { tmps := tmps, defers := [] } →
    Fits ⟨n, [], some l⟩ (YB ps vs L) { tmps := (ps.zip vs).foldl (fun t (p : Nat × Value) => t.setIfInBounds p.1 p.2) tmps, defers := [] }
  | [], _, _, _, _, h => h
  | _ :: _, [], _, _, _, h => h
  | p :: ps, v :: vs, L, tmps, hp, h => VX ps vs _ _ (fun q hq => hp q (by simp [hq])) (h.put (hp p (by simp)) v)
section
variable {P : Program} {N : Sh} {Q : Exit → Act → World → Prop} {L : List (Nat × Value)} {w0 w : World}
theorem FQ {g : Operand} {ps : List Nat} {assign body : Code} {fv : Value} {R : HP} {n : Nat} {E : Nat → List Value → HP → Prop} (hg : ev L g = some fv) (hit : Iter P w0 fv R n E) (I : Nat → HP) (Xr : HP) (Xe : Nat → HP) (H : V w0 w (I 0 • R))
    (hps : ps.all (· < N.n) = true)
    (hbody : ∀ l k, k < n → ∀ vs A, E k vs A → ∀ G W, V w0 W (A • I k • G) → vs.length = ps.length ∧ WC P ⟨N.n, [], some l⟩ assign (Exit.then (ZV P ⟨N.n, [], some l⟩ w0 body (I (k + 1)) Xr Xe G) acG) (YB ps vs L) W)
    (hdone : ∀ D W, V w0 W (gJ D (.deferred (some [])) • I n • R) → WQ ⟨N.n, D :: N.ds, none⟩ Q .normal L W)
    (hret : ∀ D W, V w0 W (gJ D (.deferred (some [])) • Xr • R) → WQ ⟨N.n, D :: N.ds, none⟩ Q .ret L W)
    (ai9 : ∀ id D W, V w0 W (gJ D (.deferred (some [])) • Xe id • R) → WQ ⟨N.n, D :: N.ds, none⟩ Q (.exit id) L W)
    (hro : N.ro = none := by rfl) : WC P N (.rangeFunc g ps.toArray assign body) Q L w := fun np a ha => by
  rw [hro]
  refine wpIn_rangeFunc fun fn _ => ?_
  let zT : LoopState → Option Code → Loop := fun s j => { state := s, pending := j, fn, tmps := a.tmps, params := ps.toArray, assign, body, defers := w.heap.size }
  have akq := run_enterLoop_outer (P := P) (w := w) fn a.tmps ps.toArray assign body
  have H1 : V w0 ((w.alloc (.deferred (some []))).alloc (.loop (zT .ready none))) (gJ (w.heap.size + 1) (.loop (zT .ready none)) • gJ w.heap.size (.deferred (some [])) • I 0 • R) := by
    have := (H.alloc (.deferred (some []))).alloc (.loop (zT .ready none))
    rw [World.size_alloc] at this
    exact this
  let Lk : LoopState → Option Code → HP := fun s j => gJ (w.heap.size + 1) (.loop (zT s j)) • gJ w.heap.size (.deferred (some []))
  have ahv : ∀ k, k < n → ∀ vs A, E k vs A → ∀ G W, V w0 W (A • (Lk .ready none • I k) • G) → Ux P (w.heap.size + 1) vs W fun v W' => (v = .bool true ∧ V w0 W' ((Lk .ready none • I (k + 1)) • G)) ∨
      (v = .bool false ∧ V w0 W' (zX (fun c : Code => Lk .done (some c) • (match c with | .ret => Xr | .exit id => Xe id | _ => fact False)) • G)) := by
    intro k hk vs A hE G W HW
    have e1 : (A • (Lk .ready none • I k) • G) = (gJ (w.heap.size + 1) (.loop (zT .ready none)) • A • I k • gJ w.heap.size (.deferred (some [])) • G) := by
      show (A • ((gJ (w.heap.size + 1) (.loop (zT .ready none)) • gJ w.heap.size (.deferred (some []))) • I k) • G) = _
      ac_rfl
    have HW1 := HW.of_eq e1
    have hl := HW1.get.2
    have hlen := (hbody (w.heap.size + 1) k hk vs A hE _ W (HW1.of_eq (show _ = (A • I k • gJ (w.heap.size + 1) (.loop (zT .ready none)) • gJ w.heap.size (.deferred (some [])) • G) by ac_rfl))).1
    refine ⟨fn, _, assign, body, run_yield hl (by rw [List.size_toArray, hlen]; exact List.size_toArray.symm), ?_⟩
    have hfit : Fits ⟨N.n, [], some (w.heap.size + 1)⟩ (YB ps vs L) { tmps := (ps.toArray.zip vs.toArray).foldl (fun tmps (t, a) => tmps.setIfInBounds t a) a.tmps, defers := [] } := by
      have := VX (n := N.n) (l := w.heap.size + 1) ps vs L a.tmps (fun p hp => by simpa using List.all_eq_true.1 hps p hp) ⟨ha.size, rfl, ha.at_⟩
      simpa using this
    refine roundIn_of_wpIn trivial ?_
    have HW2 : V w0 W (A • I k • gJ (w.heap.size + 1) (.loop (zT .ready none)) • gJ w.heap.size (.deferred (some [])) • G) := HW1.of_eq (by ac_rfl)
    have hb := (hbody (w.heap.size + 1) k hk vs A hE _ W HW2).2 (fun c a w h => h) _ hfit
    refine wpIn_mono hb ?_
    rintro e a1 W1 hq
    cases e with
    | exit id => exact hq.elim
    | goto l => exact hq.elim
    | ret => exact hq.elim
    | panic c => exact hq.elim
    | outgrown => exact hq.elim
    | normal =>
      obtain ⟨L1, B, hf1, HB, hgo⟩ := hq
      have HB1 : V w0 W1 (gJ (w.heap.size + 1) (.loop (zT .ready none)) • B • gJ w.heap.size (.deferred (some [])) • G) := HB.of_eq (by ac_rfl)
      have hl1 := HB1.get.2
      refine ⟨_, run_beginRound hl1 rfl, ?_⟩
      have HB2 : V w0 (W1.putObj (w.heap.size + 1) (.loop (zT .busy none))) (gJ (w.heap.size + 1) (.loop (zT .busy none)) • B • gJ w.heap.size (.deferred (some [])) • G) := HB1.turn rfl rfl rfl (by simp) (World.putObj_heap_same HB1.lt) fun k hk _ => World.putObj_heap_other hk
      have hbd := hgo (gJ (w.heap.size + 1) (.loop (zT .busy none)) • gJ w.heap.size (.deferred (some [])) • G) _ (HB2.of_eq (by ac_rfl)) acI a1 hf1
      refine wpIn_mono hbd ?_
      have fin : ∀ (j : Option Code) (W3 : World) (A3 : HP), V w0 W3 (A3 • gJ (w.heap.size + 1) (.loop (zT .busy none)) • gJ w.heap.size (.deferred (some [])) • G) →
          (Instr.endRound (w.heap.size + 1) j).run P W3 = .ok (.bool j.isNone) (W3.putObj (w.heap.size + 1) (.loop (zT (if j.isNone then .ready else .done) j))) ∧
          V w0 (W3.putObj (w.heap.size + 1) (.loop (zT (if j.isNone then .ready else .done) j))) ((Lk (if j.isNone then .ready else .done) j • A3) • G) := by
        intro j W3 A3 H3
        have H4 := H3.swap
        refine ⟨run_endRound j H4.get.2, ?_⟩
        have H5 : V w0 (W3.putObj (w.heap.size + 1) (.loop (zT (if j.isNone then .ready else .done) j))) (gJ (w.heap.size + 1) (.loop (zT (if j.isNone then .ready else .done) j)) • A3 • gJ w.heap.size (.deferred (some [])) • G) := H4.turn rfl rfl rfl (by simp) (World.putObj_heap_same H4.lt) fun k hk _ => World.putObj_heap_other hk
        refine H5.of_eq ?_
        show _ = (((gJ (w.heap.size + 1) (.loop (zT (if j.isNone then .ready else .done) j)) • gJ w.heap.size (.deferred (some []))) • A3) • G)
        ac_rfl
      rintro e a3 W3 hp
      cases e with
      | normal => obtain ⟨h1, h2⟩ := fin none W3 _ hp; exact ⟨_, _, h1, _, rfl, .inl ⟨rfl, h2⟩⟩
      | ret => obtain ⟨h1, h2⟩ := fin (some .ret) W3 _ hp; exact ⟨_, _, h1, _, rfl, .inr ⟨rfl, V.kT .ret h2⟩⟩
      | exit id => obtain ⟨h1, h2⟩ := fin (some (.exit id)) W3 _ hp; exact ⟨_, _, h1, _, rfl, .inr ⟨rfl, V.kT (.exit id) h2⟩⟩
      | goto l => exact hp.elim
      | panic c => exact hp.elim
      | outgrown => exact hp.elim
  have hcall := hit (w.heap.size + 1) (fun k => Lk .ready none • I k) _ _ ahv (H1.of_eq (by
    show _ = (((gJ (w.heap.size + 1) (.loop (zT .ready none)) • gJ w.heap.size (.deferred (some []))) • I 0) • R)
    ac_rfl))
  obtain ⟨f, first, cap, fn', c, rfl, hf, hn, hb, aja⟩ := hcall
  refine ⟨w.heap.size + 1, _, _, { target := .fn (.func f) cap.toArray, args := (first ++ [Value.func (.yield (w.heap.size + 1)) #[] #[]]).toArray }, (w.alloc (.deferred (some []))).alloc (.loop (zT .ready none)), f, _, (w.alloc (.deferred (some []))).alloc (.loop (zT .ready none)), akq, ?_, fun _ _ => trivial, ?_, (fun h => by cases h), ace.2 (Calls.mono aja ?_)⟩
  · have he := ha.ev hg
    have he2 : a.eval (.const (.func (.yield (w.heap.size + 1)) #[] #[])) = .func (.yield (w.heap.size + 1)) #[] #[] := rfl
    simp [resolve, rangeCall, he, he2, Deferred.ofValue, zT]
  · simp [invoke, callFunc, hf, hb]
    simpa using hn
  · rintro e W2 ⟨v, rfl, hv⟩
    have fin : ∀ (s : LoopState) (j : Option Code) (A : HP), s ≠ .busy → V w0 W2 ((Lk s j • A) • R) → (Instr.endLoop (w.heap.size + 1)).run P W2 = .ok j (W2.putObj (w.heap.size + 1) (.loop (zT .exhausted j))) ∧
        V w0 (W2.putObj (w.heap.size + 1) (.loop (zT .exhausted j))) (gJ w.heap.size (.deferred (some [])) • A • R) := by
      intro s j A hs H3
      have H4 : V w0 W2 (gJ (w.heap.size + 1) (.loop (zT s j)) • gJ w.heap.size (.deferred (some [])) • A • R) := H3.of_eq (by
        show (((gJ (w.heap.size + 1) (.loop (zT s j)) • gJ w.heap.size (.deferred (some []))) • A) • R) = _
        ac_rfl)
      refine ⟨run_endLoop H4.get.2 hs, ?_⟩
      have H5 : V w0 (W2.putObj (w.heap.size + 1) (.loop (zT .exhausted j))) (gJ (w.heap.size + 1) (.loop (zT .exhausted j)) • gJ w.heap.size (.deferred (some [])) • A • R) := H4.turn rfl rfl rfl (by simp) (World.putObj_heap_same H4.lt) fun k hk _ => World.putObj_heap_other hk
      exact H5.right
    have hfit : Fits ⟨N.n, w.heap.size :: N.ds, none⟩ L { a with defers := [{ target := .collected w.heap.size, args := #[] }] ++ a.defers } := ⟨ha.size, by simp [ha.defers, acd], ha.at_⟩
    rcases hv with hv | hv
    · obtain ⟨h1, h2⟩ := fin _ _ _ (by decide) hv
      exact ⟨none, _, h1, hdone _ _ h2 np _ hfit⟩
    · obtain ⟨c, hv⟩ := hv.qY
      obtain ⟨h1, h2⟩ := fin _ _ _ (by decide) hv
      cases c with
      | ret => exact ⟨some .ret, _, h1, wpIn_ret (hret _ _ h2 np _ hfit)⟩
      | exit id => exact ⟨some (.exit id), _, h1, wpIn_exit (ai9 id _ _ h2 np _ hfit)⟩
      | _ => exact absurd h2.swap.fact.1 id
end
end Go.Proofs.YtpdeedplgmbopaaGreatDoor
end
section
namespace Go.Proofs.YtpdeedplgmbopaaGreatDoor
open Go.RowKit
open _root_.Go.Proofs.Tryz
def qL (G : List (List jL)) (N : List jL) : List (List jL) := if N = [] then G else G ++ [N]
theorem YC {G : List (List jL)} {N : List jL} (h : N = []) : qL G N = G := by unfold qL; rw [if_pos h]
theorem yX {G : List (List jL)} {N : List jL} (h : N ≠ []) : qL G N = G ++ [N] := by unfold qL; rw [if_neg h]
theorem O8 {G : List (List jL)} {N : List jL} : iK (qL G N) [] = iK G N := by
  unfold qL; split
  · rename_i h; rw [h]
  · simp [iK]
section
variable {w0 w : World} {F : HP} {p : Nat} {G : List (List jL)} {N : List jL} {op : Int} {gv nv v : Value} {gs : List (Value × List gX)} {now es : List gX} {a : Int} {d z : Value} {dl il : List Int}
theorem DJ (H : V w0 w (kC p G N op • F)) : jf prog 177 #[.pointer (some ⟨p, 0, none⟩)] w fun _ w' => V w0 w' (kC p (qL G N) [] 0 • F) := by
 refine jE func177 ntmps177 ?_
 refine aI (aI ?_)
 obtain ⟨FN, Cc, oh, pJ, oq, y8, yg, Ky, Kz, OZ, uI⟩ := (H).BM
 refine aF (mX O O (bM 0 dw O fC O (bM 1 dD O dA O (eH aZ O (uI).get.2 O (aV (ku ((uI.f4).aO) aZ O) (aV (gK O O) (iW O (fun h1 => ?_) (fun h1 => ?_))))))))
 ·(try simp only [Z] at h1)
  have ajb : 0 < pJ.length := by omega
  have Rl := uI.drew
  have oP := V.kp (Rl.f5.f5.f5.f5.f5)
  refine nG [5, 10] oP O (fD 0 O oP O (fD 1 O oP O (iG 2 O oP O (dJ 3 O oP 0 dw O fC O (dJ 4 O oP 0 dD O iZ O (fM 5 O oP (fun W hW => fQ cO O ((Kp.h hW)).get.2 O) (fD 6 O oP O (iG 7 O oP O (dJ 8 O oP 0 dw O fC O (dJ 9 O oP 1 dD O dA O (fM 10 O oP (fun W hW => fQ aZ O ((Kp.h hW)).get.2 O) (ny 11 O (nV (vs := [_]) Rl cO dA qQ O O O (by decide) (bG (by first | rfl | exact Rd.one ((Rl.f4).aO)) dn)) ?_))))))))))))
  rintro l2 w2 H2
  have zB := V.kp (H2.f6.f6.f6.f6.f6.f6)
  refine dK zB (fun W hW => (Kp.h hW).right.f5.f5.f5.f5.f5) ?_
  refine ny 12 O (jy H2.f3 cO Na O O O ((H2).aO) (bG (by first | rfl | exact Rd.one ((H2.f5).aO)) dn) (by omega) (by omega)) ?_
  rintro l3 w3 H3
  have Hd4 := H3.f2.right
  have oH := V.kp (Hd4.f5.f5.f5.f5.f5)
  refine gU oH (by kernel_rfl) ?_
  refine iG 13 O oH O (dJ 14 O oH 0 dw O fC O (dJ 15 O oH 0 dD O iZ O ?_))
  refine dF 16 O (by kernel_rfl) (ig 0 (l' := [_, _, _, _, _]) Hd4.f2 iZ O O (by first | rfl | exact Rd.one ((Hd4).aO)) O O) ?_
  rintro _ w5 H5
  have D8 := V.kp (H5.f5.f5.f5.f5.f5)
  refine gU D8 (by kernel_rfl) ?_
  refine lJ (aU (aF (jU O O (dV O (bM 0 dw O fC O (bM 1 dD O dA O (aQ (st5 1 H5 dA) ?_)))))))
  rintro _ w6 H6
  refine dV O (bM 0 dw O fC O (bM 2 dD O aj O (aQ (st5 2 H6 aj) ?_)))
  rintro _ w7 H7
  refine bT (oU (.inr O) results177 ?_)
  have hN : N ≠ [] := by rintro rfl; exact absurd Kz (by simp only [List.length_nil]; omega)
  rw [yX hN]
  have X := V.uY (v := Cc) (es := pJ) (H7.f3.f3.f5.f5).deep
  have X4 := V.yV X.swap
  refine V.AV (gv := l3) (nv := .slice none 0 0) (gs := oh ++ [(Cc, pJ)]) (now := []) (ed := (iK G N : Nat)) ⟨ZU oq.1 hN, by rw [← yX hN, O8]; exact oq.2.1, by decide, by decide, VT oq.2.2.2.2.1 oq.2.2.2.2.2, by simp⟩ (by rw [List.map_append, y8, ← yg]; rfl) O (by rw [← yX hN, O8]) ((X4.xB none).of_eq (by ac_rfl))
 ·(try simp only [Z] at h1)
  have ajb : pJ.length = 0 := by omega
  refine gy (aF (jU O O (dV O (bM 0 dw O fC O (bM 1 dD O dA O (aQ (st5 1 uI dA) ?_))))))
  rintro _ w8 H8
  refine dV O (bM 0 dw O fC O (bM 2 dD O aj O (aQ (st5 2 H8 aj) ?_)))
  rintro _ w9 H9
  refine bT (oU (.inr O) results177 ?_)
  have hN : N = [] := by rw [← yg, List.eq_nil_of_length_eq_zero ajb]; rfl
  subst hN
  rw [YC rfl]
  refine V.AV (gv := FN) (nv := .slice none 0 0) (gs := oh) (now := []) (ed := (iK G [] : Nat)) ⟨oq.1, oq.2.1, by decide, by decide, oq.2.2.2.2⟩ y8 O O (((H9.f4.right.f4.right.f3.f3).xB none).of_eq (by unfold JI; ac_rfl))
theorem V.Uz (H : V w0 w (Jb v es • F)) : V w0 w (Jb v es • Jb v es • F) := H.wR
theorem aa8 (b : Nat) : Iter prog w0 (.func (.func 210) #[] #[.pointer (some ⟨b, 0, none⟩)]) (gJ b (.cells #[v] 80 (0, 0)) • Jb v es) es.length
  (fun k vs A => vs = [.int .i64 ((es.length - (k + 1) : Nat) : Int), .agg (es.getD (es.length - (k + 1)) default).enc.toArray] ∧ A = Jb v es) := by
 intro l J X w hy H
 refine ⟨210, [], [.pointer (some ⟨b, 0, none⟩)], _, _, O, func210, O, O, ?_⟩
 have H1 : V w0 w (gJ b (.cells #[v] 80 (0, 0)) • Jb v es • J 0) := H.of_eq (by ac_rfl)
 obtain ⟨a, c, hv, hc1, hc2, _⟩ := (H1.swap.Af).form
 subst hv
 simp only [List.nil_append, List.cons_append]
 refine xqR func210 ntmps210 ?_
 dsimp only [Dv, Nat.reduceAdd]
 refine jg (eH aZ O (H1).get.2 O (aV (ku ((H1.f2).Af) aZ O) (aV (jJ O O (by omega)) (fO O (bf ?_)))))
 refine iy [(0, _), (1, _)] (fun (k : Nat) => [(3, .int .i64 ((k : Int) - 1))]) (fun (k : Nat) W => k ≤ es.length ∧ V w0 W (gJ b (.cells #[.slice a es.length c] 80 (0, 0)) • Jb (.slice a es.length c) es • J (es.length - k))) (fun (k : Nat) => k) (es.length) sG lH ⟨by omega, by rw [Nat.sub_self]; exact H1⟩ ?_
 rintro k w1 ⟨hk, HL⟩
 dsimp only [List.cons_append, List.nil_append]
 refine aI (bI O (aV (mJ O O) (iW O (fun h1 => ?_) (fun h1 => ?_))))
 ·(try simp only [Z] at h1)
  refine gy (aI (bf (aI ?_)))
  obtain ⟨m, rfl⟩ : ∃ m, k = m + 1 := ⟨k - 1, by omega⟩
  rw [show (((m + 1 : Nat) : Int) - 1) = (m : Int) from by omega]
  refine aF (jU O O (eH aZ O (HL).get.2 O (bW O ?_)))
  obtain ⟨bv, ov, cv, ev⟩ := Rd.qN ((HL.f2).Af) (by omega)
  cases ev
  refine aV (dI aZ dB O O (by omega)) (aV (pI (ys := [_, _, _]) ((HL.f2).Af) (by omega) bn O dB O (rY gX.AB (by omega) default) O) (kV (Uy O O (hy (es.length - (m + 1)) (by omega) _ _ ⟨by rw [show es.length - (es.length - (m + 1) + 1) = m from by omega]; rfl, O⟩ (Jb (.slice (some ⟨bv, ov, none⟩) es.length c) es • gJ b (.cells #[.slice (some ⟨bv, ov, none⟩) es.length c] 80 (0, 0))) _ (HL.swap.Uz.of_eq (by ac_rfl))).bool) ?_))
  rintro _ w2 ⟨t, rfl, ht1, ht2⟩
  refine aV (jR O) (iW O (fun h2 => ?_) (fun h2 => ?_))
  ·(try simp only [Z] at h2)
   have HX := ht2 (by simpa using h2)
   refine iL (aN (aC (aC (aN (we0 results210 ?_)))))
   exact .inr (HX.of_eq (by ac_rfl))
  ·(try simp only [Z] at h2)
   have HN : V w0 w2 (gJ b (.cells #[.slice (some ⟨bv, ov, none⟩) es.length c] 80 (0, 0)) • Jb (.slice (some ⟨bv, ov, none⟩) es.length c) es • J (es.length - m)) := by
    have h9 := ht1 (by simpa using h2)
    rw [show es.length - (m + 1) + 1 = es.length - m from by omega] at h9
    exact h9.of_eq (by ac_rfl)
   refine bU (aH (aU (aF (bW O (aV (jJ O O (by omega)) (gW O (bT ?_)))))))
   refine dN (m) ?_ ?_ ?_ ?_
   ·exact lH
   ·exact sG
   ·(try dsimp only)
    first | done | exact ⟨by omega, HN.f2.f2⟩
   ·(try dsimp only); omega
 ·(try simp only [Z] at h1)
  refine dR (aP (aP (bH (oU (.inr O) results210 ?_))))
  obtain rfl : k = 0 := by omega
  rw [Nat.sub_zero] at HL
  exact .inl (HL.of_eq (by ac_rfl))
end
def Bz (e : jL) : jL := (e.1, e.2.2, e.2.1)
def acJ (c : Nat) (es : List gX) (k : Nat) : HP := zX fun (x : Value × List gX) => fact (x.2.map gX.says = ((es.map gX.says).reverse.take k).map Bz) • gJ c (.cells #[x.1] 80 (0, 0)) • QT x.1 x.2
theorem acK {es : List gX} {k : Nat} (hk : k < es.length) : ((es.map gX.says).reverse.take (k + 1)).map Bz = ((es.map gX.says).reverse.take k).map Bz ++ [Bz (es.getD (es.length - (k + 1)) default).says] := by
  rw [List.take_succ_eq_append_getElem (by simpa using hk), List.map_append]
  congr 1
  simp only [List.map_cons, List.map_nil, List.getElem_reverse, List.getElem_map, List.length_map]
  rw [List.getD_eq_getElem?_getD, List.getElem?_eq_getElem (by omega)]
  have e : es.length - 1 - k = es.length - (k + 1) := by omega
  simp only [Option.getD_some, e]
section
variable {w0 w : World} {F : HP} {p : Nat} {G : List (List jL)} {N : List jL} {op : Int} {gv nv v : Value} {gs : List (Value × List gX)} {now es : List gX} {a : Int} {d z : Value} {dl il : List Int}
theorem V.VY {c k : Nat} (H : V w0 w (acJ c es k • F)) : ∃ u fs, fs.map gX.says = ((es.map gX.says).reverse.take k).map Bz ∧ fs.length ≤ es.length ∧ V w0 w (gJ c (.cells #[u] 80 (0, 0)) • Row 189 3 u fs.length (fs.flatMap gX.enc) • nD fs • F) := by
  obtain ⟨⟨u, fs⟩, H⟩ := H.qY
  obtain ⟨h, H⟩ := H.flat.fact
  refine ⟨u, fs, h, ?_, ?_⟩
  · have := congrArg List.length h
    simp at this
    omega
  · have := H.flat
    unfold QT at this
    exact this.of_eq (by ac_rfl)
theorem V.acL {c k : Nat} {u : Value} {fs : List gX} (h : fs.map gX.says = ((es.map gX.says).reverse.take k).map Bz) (H : V w0 w (gJ c (.cells #[u] 80 (0, 0)) • QT u fs • F)) : V w0 w (acJ c es k • F) :=
  V.kT (u, fs) (V.deep (V.oQ h H.deep))
theorem V.ahw (H : V w0 w (Jb v es • F)) {k : Nat} (hk : k < es.length) : V w0 w (qZ .i32 (es.getD k default).d (es.getD k default).dl • qZ .i32 (es.getD k default).i (es.getD k default).il • Jb v es • F) := by
  have h1 : V w0 w (qZ .i32 (es.getD k default).d (es.getD k default).dl • Jb v es • Jb v es • F) := H.Uz.Uz.JD (vG (fun I h => (h.2 k hk).1) _)
  have h2 : V w0 w (qZ .i32 (es.getD k default).i (es.getD k default).il • qZ .i32 (es.getD k default).d (es.getD k default).dl • Jb v es • F) := h1.swap.JD (vG (fun I h => (h.2 k hk).2) _)
  exact h2.swap
theorem aa9 (H : V w0 w F) (hv : v.oneCell' = true) : jf prog 197 #[v] w fun v' w' => ∃ b, v' = .func (.func 210) #[] #[.pointer (some ⟨b, 0, none⟩)] ∧ V w0 w' (gJ b (.cells #[v] 80 (0, 0)) • F) := by
  refine jE func197 ntmps197 ?_
  refine jg (kV (kK (l := [_]) H O (by first | rfl | exact IJ (by first | rfl | assumption))) ?_)
  rintro _ w1 ⟨b1, rfl, H1⟩
  refine fO O (jg (aV (Dw O O) (fP O (dL results197 O ?_))))
  exact ⟨_, O, H1⟩
theorem Ee (H : V w0 w (Jb v es • F)) (hB : ∀ k, k < es.length → EB (es.getD k default).says) (hL : es.length ≤ 16384) :
  jf prog 178 #[v] w fun v' w' => ∃ fs : List gX, fs.map gX.says = (es.map gX.says).reverse.map Bz ∧ V w0 w' (Row 189 3 v' fs.length (fs.flatMap gX.enc) • nD fs • Jb v es • F) := by
 refine jE func178 ntmps178 ?_
 refine kH O (jg (kV (iO (l := [_]) H qQ O) ?_))
 rintro _ w1 ⟨b1, rfl, H1⟩
 refine rW (bI O (dX O func197 (aa9 H1 (Rd.one ((H1.f2).Af))) ?_))
 rintro _ w2 ⟨bB2, rfl, H2⟩
 refine iR (bf ?_)
 have YD := H2.f2
 have ZW := V.acL (es := es) (k := 0) (fs := []) rfl (YD.xB none).swap
 refine FQ O (aa8 bB2) (fun k => acJ b1 es k • F) (fact False) (fun _ => fact False) (ZW.f3.f3.f3.f3.f3.g2.comm) (by rfl) ?_ ?_ ?_ ?_
 ·rintro l5 k ahx vs5 A5 ⟨rfl, rfl⟩ G5 w5 H5
  try simp only [dY, tV, BR] at H5
  refine ⟨O, ?_⟩
  dsimp only [YB]
  have Hq := (H5).ahw (k := es.length - (k + 1)) (by omega)
  obtain ⟨hb1, hb2⟩ := hB (es.length - (k + 1)) (by omega)
  have hb1 : (es.getD (es.length - (k + 1)) default).dl.length ≤ 35184372087808 := hb1
  have hb2 : (es.getD (es.length - (k + 1)) default).il.length ≤ 35184372087808 := hb2
  obtain ⟨u, fs, hfs, hfl, HI⟩ := (Hq.f4).VY
  refine aF (kV (iO (l := [_, _, _]) HI fJ O) ?_)
  rintro _ w6 ⟨b6, rfl, H6⟩
  refine aQ (dM 0 (l' := [_, _, _]) (us := [_, _, _]) H6 dB O O O (aJ (bG (by first | rfl | exact Rd.one ((H6.f5).lK)) (bG (by first | rfl | exact Rd.one ((H6.f6).lK)) dn))) O O) ?_
  rintro _ w7 H7
  refine bT ?_
  refine YA (H7.g8) ?_
  intro G8 w8 H8
  try simp only [dY] at H8
  refine bf ?_
  have ajc := H8.drew
  have acM := V.kp (ajc.f7.f7.f7.f7.f7.f7.f7)
  refine nG [0, 1] acM O (fM 0 O acM (fun W hW => fQ aZ O ((Kp.h hW).f2).get.2 O) (fM 1 O acM (fun W hW => dH bn O dB O O ((Kp.h hW)).get.2) (ny 2 O (wM O func198 (LW ajc (fun W HW => (HW.f5).lK) (fun W HW => (HW.f6).lK) (by omega) (by omega))) ?_)))
  rintro _ w9 ⟨d9, s9, rfl, H9⟩
  have Rk := V.kp (H9.f9.f9.f9.f9.f9.f9.f9.f9.f9)
  refine dK Rk (fun W hW => (Kp.h hW).right.right.f7.f7.f7.f7.f7.f7.f7) ?_
  refine ny 3 O (yU H9 aZ dB fJ O O O (by decide) (by decide)) ?_
  rintro l10 w10 pG
  have SN := V.kp (pG.f10.f10.f10.f10.f10.f10.f10.f10.f10.f10)
  refine dK SN (fun W hW => (Kp.h hW).right.f9.f9.f9.f9.f9.f9.f9.f9.f9) ?_
  refine ny 4 O (jy pG.f6 aZ DF O O O ((pG).aO) (aJ (bG (by first | rfl | exact Rd.one ((pG.f2).aO)) (bG (by first | rfl | exact Rd.one ((pG.f3).aO)) dn))) (by omega) (by omega)) ?_
  rintro l11 FK ru
  have NQ := ru.f2.right
  have Gn := V.kp (NQ.f9.f9.f9.f9.f9.f9.f9.f9.f9)
  refine gU Gn (by kernel_rfl) ?_
  refine dF 5 O (by kernel_rfl) (ig 0 (l' := [_]) NQ.f5 dA O O (by first | rfl | exact Rd.one ((NQ).aO)) O O) ?_
  rintro _ OL wB
  have yh := V.kp (wB.f9.f9.f9.f9.f9.f9.f9.f9.f9)
  refine gU yh (by kernel_rfl) ?_
  refine lJ (aH ?_)
  refine O7 ?_
  have X := (wB.f5.right.f6.right.f6.right.f6.right.f6.f2.f6.f4.f6.f6).oC.swap.oC.swap
  have X2 := V.E5 X.f3
  exact (V.acL (es := es) (k := k + 1) (by rw [List.map_append, hfs, acK (by omega)]; rfl) X2.swap).deep
 ·rintro D14 OG rU
  have VP := rU.ed
  try simp only [dY, tV, BR] at VP
  have ahy := VP.ZJ
  obtain ⟨u, fs, hfs, hfl, HI⟩ := (ahy.f4).VY
  refine aH (aU (jg (eH aZ O (HI).get.2 O (fP O ?_))))
  refine N7 (.inl O) (HI.f4) (fun OM zV => ?_)
  refine ⟨_, ahm results178 O, ?_⟩
  rw [List.take_of_length_le (by simp)] at hfs
  exact ⟨_, hfs, zV.right.f3.right.f3.f3.f3⟩
 ·rintro D w H; exact absurd H.swap.fact.1 id
 ·rintro id D w H; exact absurd H.swap.fact.1 fun h => h
end
end Go.Proofs.YtpdeedplgmbopaaGreatDoor
end
