import Derived.Test.YtgofgnlkpeghcaaGreatDoorZ4
import Derived.Test.YtgofgnlkpeghcaaGreatDoorZ5
import Derived.Test.YtgofgnlkpeghcaaGreatDoorZ3
set_option linter.unusedSimpArgs false
set_option linter.unusedVariables false
/- Texts of mine, joined, their names in short: Undo1 Undo2 Eds Hist HistF HlIn Buf. -/
section
namespace Go.Proofs.YtgofgnlkpeghcaaGreatDoor
open Go.RowKit
open _root_.Go.Proofs.Tryz
theorem NR (w : World) (v1 v2 : Value) (l1 l2 : List Int) (h1 : jP w .i32 v1 l1) (h2 : jP w .i32 v2 l2) :
  iM prog 35 #[v1, v2] w fun v w' => v = .bool (l1 == l2) ∧ wH w w' := by
 obtain ⟨a1, c1, rfl, hc1, hm1, hr1⟩ := h1.open
 obtain ⟨a2, c2, rfl, hc2, hm2, hr2⟩ := h2.open
 clear h1 h2
 refine qI func35 ntmps35 ?_
 refine kQ O (aO (bY O (aW (jS ay O) (bT O (aW (jS ay O) (aW (gy O O) (jv O (fun h1 => ?_) (fun h1 => ?_))))))))
 ·(try simp only [aF] at h1)
  try (exfalso; first | contradiction | omega)
  all_goals
   refine mP O (aC (fD results35 O ?_))
   exact ⟨by rw [show (l1 == l2) = false from beq_eq_false_iff_ne.2 (by rintro rfl; exact h1 rfl)], wH.refl _⟩
 ·(try simp only [aF] at h1)
  try (exfalso; first | contradiction | omega)
  all_goals
   refine iy (aO (kQ O (bg ?_)))
   refine gq [(0, _), (1, _)] (fun (k : Nat) => [(5, .int .i64 (k : Int))]) (fun (k : Nat) W => k ≤ l1.length ∧ l1.length = l2.length ∧ l1.take k = l2.take k ∧ wH w W) (fun (k : Nat) => l1.length - k) (0) rP oO ⟨by omega, by omega, by simp, wH.refl _⟩ ?_
   rintro k w1 ⟨hk, hl, ht, hD⟩
   dsimp only [List.cons_append, List.nil_append]
   refine aO (bY O (bT O (aW (jS ay O) (aW (fG O O) (jv O (fun h2 => ?_) (fun h2 => ?_))))))
   ·(try simp only [aF] at h2)
    try (exfalso; first | contradiction | omega)
    all_goals
     refine iy (aO (bg (aO ?_)))
     obtain ⟨b1, o1, rfl, hq1⟩ := hr1 (by omega)
     obtain ⟨b2, o2, rfl, hq2⟩ := hr2 (by omega)
     have hc1 := hq1 k (by omega)
     have hc2 := hq2 k (by omega)
     refine tC (n := 9) [0, 1, 2, 3, 4, 5, 6, 7, 8] (fun W => W.heap = w1.heap) (by kernel_rfl) (by kernel_rfl) O ?_
     have hS0 : (fun W => W.heap = w1.heap) (w1.drew) := rfl
     refine gQ 0 O hS0 O (gQ 1 O hS0 O (iL 2 O hS0 (fun _ => dD ay iE O O (by omega)) ?_))
     refine iO 3 O hS0 (fun W hW => eG (dn dM O) O (by rw [yZ (hW.trans hD.heap)]; simpa using hc1)) ?_
     refine gQ 4 O hS0 O (gQ 5 O hS0 O (iL 6 O hS0 (fun _ => dD ay iE O O (by omega)) ?_))
     refine iO 7 O hS0 (fun W hW => eG (dn dM O) O (by rw [yZ (hW.trans hD.heap)]; simpa using hc2)) ?_
     refine iL 8 O hS0 (fun _ => gy O O) (qj (aZ (dA O (fun h3 => ?_) (fun h3 => ?_))))
     ·(try simp only [aF] at h3)
      try (exfalso; first | contradiction | omega)
      all_goals
       refine mP O (aX (aC (aC (aX (aC (fD results35 O ?_))))))
       exact ⟨by rw [show (l1 == l2) = false from beq_eq_false_iff_ne.2 (by rintro rfl; exact h3 rfl)], hD.drew⟩
     ·(try simp only [aF] at h3)
      try (exfalso; first | contradiction | omega)
      all_goals
       refine dS (aP (aZ (aA (bT O (aW (fP O O (by omega)) (iC O (bZ ?_)))))))
       refine dN (k + 1) ?_ ?_ ?_ ?_
       ·exact oO
       ·exact rP
       ·(try dsimp only)
        first | done | exact ⟨by omega, by omega, Eb (by omega) (by omega) ht (by simpa using h3), hD.drew⟩
       ·(try dsimp only); omega
   ·(try simp only [aF] at h2)
    try (exfalso; first | contradiction | omega)
    all_goals
     refine eH (aT (aT (bU (aZ (mP O (fD results35 O ?_))))))
     exact ⟨by rw [show (l1 == l2) = true from beq_iff_eq.2 (by rw [List.take_of_length_le (by omega), List.take_of_length_le (by omega)] at ht; exact ht)], hD⟩
theorem Py (w : World) (v1 v2 : Value) (l : List Int) (h1 : jP w .i32 v1 l) (h2 : jP w .i32 v2 l) : iM prog 35 #[v1, v2] w fun v w' => v = .bool true ∧ wH w w' := by
  have := NR w v1 v2 l l h1 h2
  simpa using this
section
variable {w0 w : World} {F : HP} {v d s z d2 z2 u1 u2 u3 : Value} {L dl il dl2 il2 l1 l2 l3 : List Int} {a a2 : Int}
theorem Ug (H : V w0 w F) (hv : EL w0 F 1 v 2 [u1, u2]) (h1 : jm w0 F .i32 u1 l1) (h2 : jm w0 F .i32 u2 l2) (hb : l1.length + l2.length ≤ 35184372088832) :
    iM prog 46 #[v] w fun v' w' => V w0 w' (jR 21 .i32 v' (l1 ++ l2) • F) := by
  have := NQ (ls := [l1, l2]) (vs := [u1, u2]) H hv (fun k hk => ?_) (by simp; omega)
  · simpa using this
  · simp at hk
    match k, hk with
    | 0, _ => exact h1
    | 1, _ => exact h2
def agL (L : List Int) (a : Int) (dl : List Int) : Bool := decide (0 ≤ a ∧ a + dl.length ≤ L.length) && ((L.drop a.toNat).take dl.length == dl)
def uE (L : List Int) (a : Int) (dl il : List Int) : Int := if agL L a dl then (if 1024 < (L.length : Int) - dl.length + il.length then 3 else 0) else 1
def uL (L : List Int) (a : Int) (dl il : List Int) : List Int := if uE L a dl il = 0 then L.take a.toNat ++ il ++ L.drop (a.toNat + dl.length) else []
abbrev edV (a : Int) (d z : Value) : Value := .agg #[.int .i64 a, d, z]
theorem Aj (H : V w0 w F) (hd : jm w0 F .i32 d dl) (hi : jm w0 F .i32 z il) (b2 : dl.length ≤ 35184372087808) (b3 : il.length ≤ 35184372087808) :
  iM prog 147 #[edV a d z] w fun v' w' => ∃ d' s', v' = edV a d' s' ∧ V w0 w' (jR 21 .i32 d' dl • jR 21 .i32 s' il • F) := by
 refine iQ func147 ntmps147 ?_
 refine jw (iY (jo (l := [_, _, _]) H O O) ?_)
 rintro _ w1 ⟨b1, rfl, H1⟩
 refine iY (fK (l := [_, _, _]) H1 cO O) ?_
 rintro _ w2 ⟨b2, rfl, H2⟩
 refine rV ?_
 have IC := H2.drew
 have jk := V.kp (IC.f2.f2)
 refine uU [1, 3, 6] jk O (fQ 0 O jk 0 aU O aj O (iO 1 O jk (fun W hW => jT aB O ((Kp.h hW).f2).get.2 O) (fQ 2 O jk 1 aU O bF O (iO 3 O jk (fun W hW => jT ay O ((Kp.h hW).f2).get.2 O) (fQ 5 O jk 2 aU O bF O (iO 6 O jk (fun W hW => jT ay O ((Kp.h hW).f2).get.2 O) (lU 4 O (wY O func43 (uY IC (fun W HW => hd _ (HW.right.right)) (by omega))) ?_)))))))
 rintro u3 w3 H3
 have nT := V.kp (H3.f3.f3.f3)
 refine dZ nT (fun W hW => (Kp.h hW).right.f2.f2) ?_
 refine lU 7 O (wY O func43 (uY H3 (fun W HW => hi _ (HW.right.right.right)) (by omega))) ?_
 rintro u4 w4 H4
 have uZ := V.kp (H4.f4.f4.f4.f4)
 refine dZ uZ (fun W hW => (Kp.h hW).right.f3.f3.f3) ?_
 obtain ⟨au3, cu3, eu3, -⟩ := jP.open ((H4.f2).aN)
 subst eu3
 obtain ⟨au4, cu4, eu4, -⟩ := jP.open ((H4).aN)
 subst eu4
 refine iL 8 O uZ (fun _ => jB (pl := #[(0, 1), (1, 1), (2, 1)]) (#[_, _, _]) aU cO (fun w => by kernel_rfl) O (O)) ?_
 refine gU 9 O (by kernel_rfl) (dG 0 (l' := [_, _, _]) (us := [_, _, _]) H4.f3 bJ O O O (aG (aY (by first | rfl | exact Rd.one ((H4.f2).aN)) (aY (by first | rfl | exact Rd.one ((H4).aN)) bK))) O O) ?_
 rintro _ w7 H7
 have BK := V.kp (H7.f4.f4.f4.f4)
 refine fH BK (by kernel_rfl) ?_
 refine qj (aZ (mZ ?_))
 refine rW (.inl O) (Lr results147 O aU O (by rw [ny]; rfl) (H7).get.2) ?_
 exact ⟨_, _, O, H7.right.f3.right.f2⟩
theorem JJ (H : V w0 w F) (hd : jm w0 F .i32 d dl) (hi : jm w0 F .i32 z il) (b2 : dl.length ≤ 35184372087808) (b3 : il.length ≤ 35184372087808) :
  iM prog 159 #[edV a d z] w fun v' w' => ∃ d' s', v' = edV a d' s' ∧ V w0 w' (jR 21 .i32 d' il • jR 21 .i32 s' dl • F) := by
 refine iQ func159 ntmps159 ?_
 refine jw (iY (jo (l := [_, _, _]) H O O) ?_)
 rintro _ w1 ⟨b1, rfl, H1⟩
 refine iY (fK (l := [_, _, _]) H1 cO O) ?_
 rintro _ w2 ⟨b2, rfl, H2⟩
 refine YK (bn 0 aU O aj O (fB aB O (H2.f2).get.2 O (bn 2 aU O bF O (fB ay O (H2.f2).get.2 O (bn 1 aU O bF O (fB ay O (H2.f2).get.2 O ?_))))))
 obtain ⟨az, cz, ez, -⟩ := jP.open (hi _ (H2.right.right))
 subst ez
 obtain ⟨ad, cd, ed, -⟩ := jP.open (hd _ (H2.right.right))
 subst ed
 refine aW (jB (pl := #[(0, 1), (1, 1), (2, 1)]) (#[_, _, _]) aU cO (fun w => by kernel_rfl) O (O)) (fE O func147 (Aj H2 (fun W HW => hi _ (HW.right.right)) (fun W HW => hd _ (HW.right.right)) (by omega) (by omega)) ?_)
 rintro _ w5 ⟨d5, s5, rfl, H5⟩
 refine aI (dG 0 (l' := [_, _, _]) (us := [_, _, _]) H5.f3 bJ O O O (aG (aY (by first | rfl | exact Rd.one ((H5).aN)) (aY (by first | rfl | exact Rd.one ((H5.f2).aN)) bK))) O O) ?_
 rintro _ w6 H6
 refine zkc ?_
 refine rW (.inl O) (Lr results159 O aU O (by rw [ny]; rfl) (H6).get.2) ?_
 exact ⟨_, _, O, H6.right.f3.right.f2.f2⟩
end
end Go.Proofs.YtgofgnlkpeghcaaGreatDoor
end
section
namespace Go.Proofs.YtgofgnlkpeghcaaGreatDoor
open Go.RowKit
section
variable {w0 w : World} {F : HP} {v d s z d2 z2 u1 u2 u3 : Value} {L dl il dl2 il2 l1 l2 l3 : List Int} {a a2 : Int}
def jK (a a2 : Int) (dl il dl2 il2 : List Int) : Nat := if dl2.length = 0 ∧ a2 = a + il.length then 1 else if il.length = 0 ∧ il2.length = 0 ∧ a = a2 + dl2.length then 2 else 0
def jA (k : Nat) (a a2 : Int) : Int := if k = 1 then a else if k = 2 then a2 else 0
def jD (k : Nat) (dl dl2 : List Int) : List Int := if k = 1 then dl else if k = 2 then dl2 ++ dl else []
def jI (k : Nat) (il il2 : List Int) : List Int := if k = 1 then il ++ il2 else []
end
structure fJ where
  a : Int
  d : Value
  dl : List Int
  i : Value
  il : List Int
instance : Inhabited fJ := ⟨⟨0, .slice none 0 0, [], .slice none 0 0, []⟩⟩
def fJ.enc (e : fJ) : List Value := [.int .i64 e.a, e.d, e.i]
theorem fJ.IE (e : fJ) : e.enc.length = 3 := rfl
def fJ.Imm (I : Hp) (e : fJ) : Prop := Gf I .i32 e.d e.dl ∧ Gf I .i32 e.i e.il
theorem fJ.Imm.mono {I I' : Hp} {e : fJ} (hl : Hp.le I I') (h : e.Imm I) : e.Imm I' := ⟨h.1.mono hl, h.2.mono hl⟩
def fJ.says (e : fJ) : Int × List Int × List Int := (e.a, e.dl, e.il)
def LC (I : Hp) (es : List fJ) : Prop := ∀ k, k < es.length → (es.getD k default).Imm I
theorem LC.mono {I I' : Hp} {es : List fJ} (hl : Hp.le I I') (h : LC I es) : LC I' es := fun k hk => (h k hk).mono hl
theorem LC.app {I : Hp} {es fs : List fJ} (h : LC I es) (g : LC I fs) : LC I (es ++ fs) := fun k hk => by
  by_cases hl : k < es.length
  · rw [tK hl]; exact h k hl
  · rw [rZ (by omega)]; exact g _ (by simp at hk; omega)
theorem LC.one {I : Hp} {e : fJ} (h : e.Imm I) : LC I [e] := fun k hk => by
  obtain rfl : k = 0 := by simp at hk; omega
  exact h
def nX (es : List fJ) : HP := know (fun I => LC I es) fun _ _ hl h => h.mono hl
def edK (e : fJ) : HP := know (fun I => e.Imm I) fun _ _ hl h => h.mono hl
def MJ (v : Value) (es : List fJ) : HP := Row 183 3 v es.length (es.flatMap fJ.enc) • nX es
def Gg (I : Hp) (sz : Nat) (v : Value) (n : Nat) (xs : List Value) : Prop := xs.length = n * sz ∧ ∃ a c, v = .slice a n c ∧ n ≤ c ∧ (c : Int) ≤ 9223372036854775807 ∧
  (0 < n → ∃ b o cs e fr, a = some ⟨b, o, none⟩ ∧ I b = some (.cells cs e fr) ∧ ∀ j, j < n * sz → cs[o + j]? = some (xs.getD j undef))
theorem Gg.mono {I I' : Hp} {sz n : Nat} {v : Value} {xs : List Value} (hl : Hp.le I I') (h : Gg I sz v n xs) : Gg I' sz v n xs := by
  obtain ⟨h0, a, c, h1, h2, h3, h4⟩ := h
  exact ⟨h0, a, c, h1, h2, h3, fun hp => let ⟨b, o, cs, e, fr, e1, e2, e3⟩ := h4 hp; ⟨b, o, cs, e, fr, e1, hl _ _ e2, e3⟩⟩
theorem Gg.rd {w : World} {m : Nat} {I : Hp} {sz n : Nat} {v : Value} {xs : List Value} (h : Gg I sz v n xs) (hI : ∀ k o, I k = some o → m ≤ k ∧ w.heap[k]? = some o) : Rd w sz v n xs := by
  obtain ⟨h0, a, c, h1, h2, h3, h4⟩ := h
  exact ⟨h0, a, c, h1, h2, h3, fun hp => let ⟨b, o, cs, e, fr, e1, e2, e3⟩ := h4 hp; ⟨b, o, e1, fun j hj => nN (hI _ _ e2).2 (e3 j hj)⟩⟩
theorem Gg.aaq {I : Hp} {sz n : Nat} {v : Value} {xs : List Value} (h : Gg I sz v n xs) : v.oneCell' = true := by obtain ⟨_, a, c, rfl, _⟩ := h; rfl
def ElI (I : Hp) (v : Value) (es : List fJ) : Prop := Gg I 3 v es.length (es.flatMap fJ.enc) ∧ LC I es
theorem ElI.mono {I I' : Hp} {v : Value} {es : List fJ} (hl : Hp.le I I') (h : ElI I v es) : ElI I' v es := ⟨h.1.mono hl, h.2.mono hl⟩
def Gs (v : Value) (es : List fJ) : HP := know (fun I => ElI I v es) fun _ _ hl h => h.mono hl
def G9 (I : Hp) (gs : List (Value × List fJ)) : Prop := ∀ k, k < gs.length → ElI I (gs.getD k default).1 (gs.getD k default).2
theorem G9.mono {I I' : Hp} {gs : List (Value × List fJ)} (hl : Hp.le I I') (h : G9 I gs) : G9 I' gs := fun k hk => (h k hk).mono hl
theorem G9.app {I : Hp} {es fs : List (Value × List fJ)} (h : G9 I es) (g : G9 I fs) : G9 I (es ++ fs) := fun k hk => by
  by_cases hl : k < es.length
  · rw [tK hl]; exact h k hl
  · rw [rZ (by omega)]; exact g _ (by simp at hk; omega)
theorem G9.one {I : Hp} {v : Value} {es : List fJ} (h : ElI I v es) : G9 I [(v, es)] := fun k hk => by
  obtain rfl : k = 0 := by simp at hk; omega
  exact h
theorem G9.take {I : Hp} {gs : List (Value × List fJ)} (h : G9 I gs) (n : Nat) : G9 I (gs.take n) := fun k hk => by
  simp at hk
  rw [JI (by omega)]
  exact h k (by omega)
def rQ (gs : List (Value × List fJ)) : HP := know (fun I => G9 I gs) fun _ _ hl h => h.mono hl
def He (v : Value) (gs : List (Value × List fJ)) : HP := Row 96 1 v gs.length (gs.map (·.1)) • rQ gs
section
variable {w0 w : World} {F : HP} {v u : Value} {es fs : List fJ} {e : fJ} {gs : List (Value × List fJ)} {a : Int} {d i : Value} {dl il : List Int}
theorem V.EY (H : V w0 w F) : V w0 w (nX [] • F) := H.xU fun I k hk => by simp at hk
theorem V.NS (H : V w0 w F) : V w0 w (rQ [] • F) := H.xU fun I k hk => by simp at hk
theorem V.wF (H : V w0 w F) (a : Option Addr) : V w0 w (MJ (.slice a 0 0) [] • F) := (H.EY.gG (e := 183) (sz := 3) a).deep
theorem V.IG (H : V w0 w F) (a : Option Addr) : V w0 w (He (.slice a 0 0) [] • F) := (H.NS.gG (e := 96) (sz := 1) a).deep
theorem V.edL (H : V w0 w (MJ v es • F)) : V w0 w (Row 183 3 v es.length (es.flatMap fJ.enc) • nX es • F) := H.flat
theorem V.acD (H : V w0 w (He v gs • F)) : V w0 w (Row 96 1 v gs.length (gs.map (·.1)) • rQ gs • F) := H.flat
theorem V.vX (H : V w0 w (Row 183 3 v (es.length + 1) (es.flatMap fJ.enc ++ [.int .i64 a, d, i]) • nS .i32 d dl • nS .i32 i il • nX es • F)) : V w0 w (MJ v (es ++ [⟨a, d, dl, i, il⟩]) • F) := by
  have h1 : V w0 w (nS .i32 d dl • nS .i32 i il • nX es • Row 183 3 v (es.length + 1) (es.flatMap fJ.enc ++ [.int .i64 a, d, i]) • F) := H.of_eq (by ac_rfl)
  have h2 : V w0 w (edK ⟨a, d, dl, i, il⟩ • nX es • Row 183 3 v (es.length + 1) (es.flatMap fJ.enc ++ [.int .i64 a, d, i]) • F) := h1.F9 (vV (fun I h g => ⟨h, g⟩) _)
  have h3 : V w0 w (nX (es ++ [⟨a, d, dl, i, il⟩]) • Row 183 3 v (es.length + 1) (es.flatMap fJ.enc ++ [.int .i64 a, d, i]) • F) := h2.F9 (vV (fun I h g => g.app (LC.one h)) _)
  refine V.deep (h3.swap.of_eq ?_)
  rw [List.length_append, List.flatMap_append]
  simp [fJ.enc]
theorem V.uJ (H : V w0 w (MJ v es • F)) : V w0 w (Gs v es • F) := by
  have hl := H.edL.Ai
  have H := H.edL
  rcases H.xQ with ⟨a, rfl, h1, h2, H1⟩ | ⟨g, o, c, cur, rfl, h2, h3, h4, h5, H1⟩
  · refine H1.F9 (qJ (fun I hI => ⟨⟨hl, a, 0, by rw [h1], by omega, by decide, fun h => by omega⟩, hI⟩) F)
  · exact H1.freeze.F9 (vV (fun I hI hE => ⟨⟨hl, _, c, rfl, h2, h3, fun _ => ⟨g, o, cur, _, (0, 0), rfl, hI, h5⟩⟩, hE⟩) F)
theorem V.y9 (H : V w0 w (Gs v es • F)) : Rd w 3 v es.length (es.flatMap fJ.enc) := let ⟨I, h, hI⟩ := H.wC; h.1.rd hI
theorem V.afl (H : V w0 w (Gs v es • F)) {k : Nat} (hk : k < es.length) : jP w .i32 (es.getD k default).d (es.getD k default).dl := let ⟨I, h, hI⟩ := H.wC; (h.2 k hk).1.rd hI
theorem V.afm (H : V w0 w (Gs v es • F)) {k : Nat} (hk : k < es.length) : jP w .i32 (es.getD k default).i (es.getD k default).il := let ⟨I, h, hI⟩ := H.wC; (h.2 k hk).2.rd hI
theorem V.Uh (H : V w0 w (rQ gs • F)) {k : Nat} (hk : k < gs.length) : V w0 w (Gs (gs.getD k default).1 (gs.getD k default).2 • rQ gs • F) := H.uD.F9 (qJ (fun I h => h k hk) _)
theorem V.Ui (H : V w0 w (rQ gs • F)) (n : Nat) : V w0 w (rQ (gs.take n) • F) := H.F9 (qJ (fun I h => h.take n) _)
theorem V.wO (H : V w0 w (Row 96 1 v (gs.length + 1) (gs.map (·.1) ++ [u]) • Gs u es • rQ gs • F)) : V w0 w (He v (gs ++ [(u, es)]) • F) := by
  have h1 : V w0 w (Gs u es • rQ gs • Row 96 1 v (gs.length + 1) (gs.map (·.1) ++ [u]) • F) := H.of_eq (by ac_rfl)
  have h3 : V w0 w (rQ (gs ++ [(u, es)]) • Row 96 1 v (gs.length + 1) (gs.map (·.1) ++ [u]) • F) := h1.F9 (vV (fun I h g => g.app (G9.one h)) _)
  refine V.deep (h3.swap.of_eq ?_)
  rw [List.length_append, List.map_append]
  rfl
theorem V.II (H : V w0 w (nX es • F)) : ∀ x ∈ es.flatMap fJ.enc, x.oneCell' = true := by
  obtain ⟨I, h, hI⟩ := H.wC
  intro x hx
  obtain ⟨e, he, hx⟩ := List.mem_flatMap.1 hx
  obtain ⟨k, hk, rfl⟩ := List.getElem_of_mem he
  have := h k hk
  rw [List.getD_eq_getElem?_getD, List.getElem?_eq_getElem hk] at this
  simp [fJ.enc] at hx
  rcases hx with rfl | rfl | rfl
  · rfl
  · exact this.1.aaq
  · exact this.2.aaq
end
end Go.Proofs.YtgofgnlkpeghcaaGreatDoor
end
section
namespace Go.Proofs.YtgofgnlkpeghcaaGreatDoor
open Go.RowKit
open _root_.Go.Proofs.Tryz
abbrev oH := ByteArray × Int
def lD (x : oH) : List Value := [.string x.1, .int .i64 x.2]
theorem zf (x : oH) : (lD x).length = 2 := rfl
def aat (x : oH) : Prop := x.1.size ≤ 16384 ∧ 0 ≤ x.2
def HOk (hl : List oH) (base most : Int) : Prop := hl.length ≤ 4096 ∧ 1 ≤ base ∧ base ≤ 4611686018427387904 ∧ (hl.length : Int) ≤ most ∧ most ≤ 4096 ∧ ∀ x ∈ hl, aat x
def iI (p : Nat) (hl : List oH) (base most : Int) : HP := yC fun (v : Value) => fact (HOk hl base most) • eF p (.cells #[v, .int .i64 base, .int .i64 most] 156 (0, 0)) • Row 41 2 v hl.length (hl.flatMap lD)
section
variable {P : Program} {L : List (Nat × Value)} {w0 w : World} {F : HP} {ty : TypeId} {p : Nat} {hl : List oH} {base most : Int} {v : Value}
theorem NT {t e sz : Nat} {z : Value} (H : V w0 w F) (ht : P.underlying t = some (.slice e)) (hs : ∀ w, (sizeOf e).run P w = .ok sz w) (hz : ∀ w, (zeroValue e).run P w = .ok z w) :
    zB P L (.buildSlice t 0 #[]) ty w fun v w' => V w0 w' (Row e sz v 0 [] • F) := by
  refine wM (v := .slice (some ⟨w.heap.size, 0, none⟩) 0 0) (w' := w.alloc (.cells #[] e)) ?_ ?_
  · intro ρ hρ d pos rF g
    simp only [execOp, Instr.buildSlice, Sem.run_bind, run_underlying ht, Result.andThen_ok, hs]
    have h0 : Array.map (fun (_ : Nat) => (default : Value)) (Array.range 0) = #[] := Array.eq_empty_of_size_eq_zero (by simp)
    simp [Instr.fill, newRow, h0]
  · exact (H.alloc _).right.gG _
theorem V.hist (H : V w0 w (iI p hl base most • F)) : ∃ v, HOk hl base most ∧ V w0 w (eF p (.cells #[v, .int .i64 base, .int .i64 most] 156 (0, 0)) • Row 41 2 v hl.length (hl.flatMap lD) • F) := by
  obtain ⟨v, H⟩ := H.pO
  obtain ⟨h, H⟩ := H.flat.fact
  exact ⟨v, h, H.flat⟩
theorem V.Ec (h : HOk hl base most) (H : V w0 w (eF p (.cells #[v, .int .i64 base, .int .i64 most] 156 (0, 0)) • Row 41 2 v hl.length (hl.flatMap lD) • F)) : V w0 w (iI p hl base most • F) :=
  V.jG v (V.deep (V.oG h H.deep))
theorem IJ {hl : List oH} : ∀ x ∈ hl.flatMap lD, x.oneCell' = true := by
  intro x hx
  obtain ⟨e, _, hx⟩ := List.mem_flatMap.1 hx
  simp [lD] at hx
  rcases hx with rfl | rfl <;> rfl
theorem acE : (prog.info? 41).map (fun i => (i.zero, i.size, i.bytes)) = some (some (.agg #[.string .empty, .int .i64 0]), 2, 24) := by kernel_rfl
theorem Ed (H : V w0 w F) (hr : EL w0 F 2 v hl.length (hl.flatMap lD)) (hb : hl.length ≤ 1099511627776) :
    iM prog 80 #[v] w fun v' w' => V w0 w' (Row 41 2 v' hl.length (hl.flatMap lD) • F) := by
  obtain ⟨hlen, a, c, rfl, h1, h2, h3⟩ := hr w H
  refine iQ func80 ntmps80 ?_
  refine kQ O (aO (bY O (aW (zM bM O O) ?_)))
  refine jv O (fun h1 => ?_) (fun h1 => ?_)
  · (try simp only [aF] at h1)
    refine mP O (aC (fD results80 O ?_))
    obtain rfl : a = none := by simpa using h1
    obtain rfl : hl = [] := by
      cases hl with
      | nil => rfl
      | cons x l => obtain ⟨b, o, e, _⟩ := h3 (by simp); cases e
    exact H.gG none
  · (try simp only [aF] at h1)
    refine iy (jw (iY (NT H bM jl mg) ?_))
    rintro _ w1 H1
    refine bT O (iY (eX H1 bM acE O O O (hr.under _ H1) IJ (by omega) (by omega)) ?_)
    rintro _ w2 H2
    refine ig O (fD results80 O ?_)
    exact H2.of_eq (by rw [Nat.zero_add, List.nil_append])
theorem zC (H : V w0 w (iI p hl base most • F)) : iM prog 79 #[.pointer (some ⟨p, 0, none⟩)] w fun v w' => v = .bool false ∧ w = w' := by
 refine iQ func79 ntmps79 ?_
 refine kQ O (aO ?_)
 obtain ⟨Pz, vO, xX⟩ := (H).hist
 refine aA (bT O (aW (iJ lu O O) (mX O (fun h1 => ?_) (fun h1 => ?_))))
 ·(try simp only [aF] at h1)
  exfalso; first | contradiction | omega
 ·(try simp only [aF] at h1)
  refine bW (bT O (bW (dO O (bW (bn 0 iF O mO O (bW (bn 1 iG O oQ O (bW (fB pU O (xX).get.2 O (bW (aW (kP O O) (kX O O (ig O (fD results79 O ?_))))))))))))))
  exact ⟨by rw [show (base == 0) = false from by rw [beq_eq_false_iff_ne]; have := vO.2.1; omega], O⟩
theorem IK {n : Int} (H : V w0 w F) (hn : 0 ≤ n ∧ n ≤ 4096) : iM prog 51 #[.int .i64 n] w fun v w' => ∃ p, v = .tuple #[.pointer (some ⟨p, 0, none⟩), .int .i64 0] ∧ V w0 w' (iI p [] 1 n • F) := by
  refine iQ func51 ntmps51 ?_
  refine jw (iC O (sS O (bY O (aW (fG O O) (mX O (fun h1 => ?_) (fun h1 => ?_))))))
  · (try simp only [aF] at h1)
    exfalso; first | contradiction | omega
  · (try simp only [aF] at h1)
    refine bW (bT O (bW (aW (iT O O) (kX O O (jv O (fun h2 => ?_) (fun h2 => ?_))))))
    · (try simp only [aF] at h2)
      exfalso; first | contradiction | omega
    · (try simp only [aF] at h2)
      refine iy (bY O (aW (jB (pl := #[(0, 1), (1, 1), (2, 1)]) (#[_, _, _]) iG zeroValue154 (fun w => by kernel_rfl) O (O)) (aW (jB (pl := #[(0, 3)]) (#[_, _, _]) iF zeroValue156 (fun w => by kernel_rfl) O (O)) (iY (jo (l := [_, _, _]) H O O) ?_))))
      rintro _ w1 ⟨b1, rfl, H1⟩
      refine iC O (ig O (Dw results51 O O ?_))
      exact ⟨_, O, V.Ec (v := .slice none 0 0) ⟨by simp, by decide, by decide, by simp; omega, by omega, by simp⟩ ((H1.gG none).swap)⟩
theorem ru (H : V w0 w (iI p hl base most • F)) : iM prog 60 #[.pointer (some ⟨p, 0, none⟩)] w fun v w' => v = .int .i64 hl.length ∧ V w0 w' (iI p hl base most • F) := by
 refine iQ func60 ntmps60 ?_
 refine kQ O (aO (bY O (fE O func79 (zC H) ?_)))
 rintro _ _ ⟨rfl, rfl⟩
 refine jd (vS (iy (aO ?_)))
 obtain ⟨Pz, vO, xX⟩ := (H).hist
 refine aA (mJ O O (bn 0 iF O mO O (bn 0 iG O gW O (fB bM O (xX).get.2 O (aW (fV ((xX.f2).aN) bM O) (ig O (fD results60 O ?_)))))))
 have PD := xX.f2.f2
 have MK := V.Ec vO PD
 exact ⟨O, MK⟩
theorem xY (H : V w0 w (iI p hl base most • F)) : iM prog 53 #[.pointer (some ⟨p, 0, none⟩)] w fun v w' => ∃ q, v = .pointer (some ⟨q, 0, none⟩) ∧ V w0 w' (iI q hl base most • iI p hl base most • F) := by
 refine iQ func53 ntmps53 ?_
 refine kQ O (aO (bY O (fE O func79 (zC H) ?_)))
 rintro _ _ ⟨rfl, rfl⟩
 refine jd (vS (iy (aO ?_)))
 obtain ⟨Pz, vO, xX⟩ := (H).hist
 have hcl := vO.1
 have JK := xX.drew
 have kT := V.kp (JK.f2.f2)
 refine uU [4, 10, 15] kT O (gQ 0 O kT O (jQ 1 O kT O (fQ 2 O kT 0 iF O mO O (fQ 3 O kT 0 iG O gW O (iO 4 O kT (fun W hW => jT bM O ((Kp.h hW)).get.2 O) (gQ 6 O kT O (jQ 7 O kT O (fQ 8 O kT 0 iF O mO O (fQ 9 O kT 1 iG O oQ O (iO 10 O kT (fun W hW => jT pU O ((Kp.h hW)).get.2 O) (gQ 11 O kT O (jQ 12 O kT O (fQ 13 O kT 0 iF O mO O (fQ 14 O kT 2 iG O aj O (iO 15 O kT (fun W hW => jT aB O ((Kp.h hW)).get.2 O) (lU 5 O (wY O func80 (Ed JK (fun W HW => (HW.f2).aN) (by omega))) ?_))))))))))))))))
 rintro u3 w3 H3
 have nT := V.kp (H3.f3.f3.f3)
 refine dZ nT (fun W hW => (Kp.h hW).right.f2.f2) ?_
 obtain ⟨au3, cu3, eu3, -⟩ := ((H3).aN).form
 subst eu3
 refine iL 16 O nT (fun _ => jB (pl := #[(0, 1), (1, 1), (2, 1)]) (#[_, _, _]) iG zeroValue154 (fun w => by kernel_rfl) O (O)) (iL 17 O nT (fun _ => jB (pl := #[(0, 3)]) (#[_, _, _]) iF zeroValue156 (fun w => by kernel_rfl) O (O)) (lU 18 O (jo (l := [_, _, _]) H3 O O) ?_))
 rintro _ w4 ⟨b4, rfl, H4⟩
 have uZ := V.kp (H4.f4.f4.f4.f4)
 refine fH uZ (by kernel_rfl) ?_
 refine iL 19 O uZ (fun _ => fU O) (qj (aZ (mZ (fD results53 O ?_))))
 have Ho6 := H4.f4.f4
 have Hc7 := V.Ec vO Ho6
 exact ⟨_, O, V.Ec vO Hc7.f3.f3⟩
end
def wZ (l : List oH) : Int := if l.any (fun x => decide (16384 < x.1.size)) then 3 else if l.any (fun x => decide (x.2 < 0)) then 1 else 0
theorem aau {l : List oH} {k : Nat} (hk : k < l.length) : l.getD k default ∈ l := by rw [List.getD_eq_getElem?_getD, List.getElem?_eq_getElem hk]; exact List.getElem_mem hk
theorem aav {l : List oH} {p : oH → Prop} (h : ∀ k, k < l.length → p (l.getD k default)) : ∀ x ∈ l, p x := by
  intro x hx
  obtain ⟨k, hk, rfl⟩ := List.getElem_of_mem hx
  have := h k hk
  rwa [List.getD_eq_getElem?_getD, List.getElem?_eq_getElem hk] at this
theorem Qw {l : List oH} {k : Nat} (hk : k < l.length) (h : (16384 : Int) < (l.getD k default).1.size) : wZ l = 3 := by
  unfold wZ
  rw [if_pos (List.any_eq_true.2 ⟨_, aau hk, decide_eq_true (by omega)⟩)]
theorem NU {l : List oH} (h1 : ∀ k, k < l.length → ¬ (16384 : Int) < (l.getD k default).1.size) : wZ l = if l.any (fun x => decide (x.2 < 0)) then 1 else 0 := by
  unfold wZ
  rw [if_neg]
  intro c
  obtain ⟨x, hx, hd⟩ := List.any_eq_true.1 c
  have := aav (p := fun x => ¬ (16384 : Int) < x.1.size) h1 x hx
  simp at hd; omega
theorem Uj {l : List oH} (h1 : ∀ k, k < l.length → ¬ (16384 : Int) < (l.getD k default).1.size) {k : Nat} (hk : k < l.length) (h : (l.getD k default).2 < 0) : wZ l = 1 := by
  rw [NU h1, if_pos (List.any_eq_true.2 ⟨_, aau hk, by simpa using h⟩)]
theorem XP {l : List oH} (h1 : ∀ k, k < l.length → ¬ (16384 : Int) < (l.getD k default).1.size) (h2 : ∀ k, k < l.length → ¬ (l.getD k default).2 < 0) : wZ l = 0 := by
  rw [NU h1, if_neg]
  intro c
  obtain ⟨x, hx, hd⟩ := List.any_eq_true.1 c
  exact aav (p := fun x => ¬ x.2 < 0) h2 x hx (by simpa using hd)
theorem aaw {l : List oH} (h : wZ l = 0) : ∀ x ∈ l, aat x := by
  intro x hx
  unfold wZ at h
  split at h
  · simp at h
  · rename_i h1
    split at h
    · simp at h
    · rename_i h2
      simp only [List.any_eq_true, not_exists, not_and, decide_eq_true_eq] at h1 h2
      exact ⟨by have := h1 x hx; omega, by have := h2 x hx; omega⟩
theorem ML (l : List oH) (n : Nat) : (l.flatMap lD).drop (n * 2) = (l.drop n).flatMap lD := by
  induction l generalizing n with
  | nil => simp
  | cons x l ih =>
    cases n with
    | zero => simp
    | succ n => rw [show (n + 1) * 2 = n * 2 + 2 from by omega, List.flatMap_cons, List.drop_succ_cons, ← ih n]; simp [lD, List.drop_append]
theorem XQ (l : List oH) : (l.flatMap lD).length = l.length * 2 := by induction l with
  | nil => rfl
  | cons x l ih => rw [List.flatMap_cons, List.length_append, ih, zf, List.length_cons]; omega
theorem acF {W : World} {v : Value} {l : List oH} {n : Nat} (h : Rd W 2 v l.length (l.flatMap lD)) (hn : n ≤ l.length) : Rd W 2 (uo 2 n l.length v) (l.drop n).length ((l.drop n).flatMap lD) := by
  have h1 := h.cut hn (Nat.le_refl _)
  rw [List.take_of_length_le (by rw [ML, XQ]; simp), ML] at h1
  rwa [List.length_drop]
section
variable {P : Program} {L : List (Nat × Value)} {w0 w : World} {F : HP} {p : Nat} {hl l : List oH} {base most : Int} {v : Value}
theorem Ru (H : V w0 w F) (hv : EL w0 F 2 v l.length (l.flatMap lD)) (hb : l.length ≤ 35184372087808) : iM prog 97 #[v] w fun v' w' => v' = .int .i64 (wZ l) ∧ V w0 w' F := by
 refine iQ func97 ntmps97 ?_
 refine kQ O (aO (bY O (aW (fV (hv _ (H)) bM O) (bT O (jd (bg ?_))))))
 refine gq [(0, _), (7, _), (8, _)] (fun (k : Nat) => [(9, .int .i64 (k : Int))]) (fun (k : Nat) W => (k ≤ l.length ∧ ∀ i, i < k → ¬ (16384 : Int) < (l.getD i default).1.size) ∧ V w0 W F) (fun (k : Nat) => l.length - k) (0) Du oO ⟨⟨by omega, fun i hi => absurd hi (by omega)⟩, H⟩ ?_
 rintro k w1 ⟨⟨hk, hsh⟩, HL⟩
 dsimp only [List.cons_append, List.nil_append]
 refine jw (aW (fG O O) (rV (dA O (fun h1 => ?_) (fun h1 => ?_))))
 ·(try simp only [aF] at h1)
  refine iy (aO (bg (aO ?_)))
  have hkl : k < l.length := by omega
  refine aA ?_
  obtain ⟨bv, ov, cv, ev⟩ := Rd.nR (hv _ (HL)) (by omega)
  cases ev
  refine aW (dD bM jl O O (by omega)) (aW (qo (ys := [_, _]) (hv _ (HL)) (by omega) gX O jl O (o8 zf (by omega) default) O) (iY (fK (l := [_, _]) HL mg O) ?_))
  rintro _ w2 ⟨b2, rfl, H2⟩
  refine aI (dG 0 (l' := [_, _]) (us := [_, _]) H2 jl O O O (aG (aG bK)) O O) ?_
  rintro _ w3 H3
  refine YK (bn 0 gX O kG O (fB dU O (H3).get.2 O (aW (JF dU O) (aW (iT O O) (jv O (fun h2 => ?_) (fun h2 => ?_))))))
  ·(try simp only [aF] at h2)
   have hkb := h2
   refine mP O (aX (aC (aC (aX (aC (fD results97 O ?_))))))
   exact ⟨by rw [Qw hkl hkb], H3.right⟩
  ·(try simp only [aF] at h2)
   have hks : ¬ (16384 : Int) < (l.getD k default).1.size := by have h9 := h2; omega
   refine dS (aP (aZ (aA (aW (fP O O (by omega)) (bT O (bZ ?_))))))
   refine dN (k + 1) ?_ ?_ ?_ ?_
   ·exact oO
   ·exact Du
   ·(try dsimp only)
    first | done | exact ⟨⟨by omega, fun i hi => (show i < k ∨ i = k from by omega).elim (hsh i) (fun c => c ▸ hks)⟩, H3.right⟩
   ·(try dsimp only); omega
 ·(try simp only [aF] at h1)
  refine eH (aT (aT (bU (aZ (aO (aO ?_))))))
  obtain rfl : k = l.length := by omega
  refine aA (bT O (aW (fV (hv _ (HL)) bM O) (bT O (jd (bg ?_)))))
  refine gq [(18, _), (19, _)] (fun (k2 : Nat) => [(20, .int .i64 (k2 : Int))]) (fun (k2 : Nat) W => (k2 ≤ l.length ∧ ∀ i, i < k2 → ¬ (l.getD i default).2 < 0) ∧ V w0 W F) (fun (k2 : Nat) => l.length - k2) (0) rP oO ⟨⟨by omega, fun i hi => absurd hi (by omega)⟩, HL⟩ ?_
  rintro k2 w4 ⟨⟨hk2, hpo⟩, HL2⟩
  dsimp only [List.cons_append, List.nil_append]
  refine jw (aW (fG O O) (rV (dA O (fun h3 => ?_) (fun h3 => ?_))))
  ·(try simp only [aF] at h3)
   refine iy (aO (bg (aO ?_)))
   have hkl2 : k2 < l.length := by omega
   refine aA ?_
   obtain ⟨bv, ov, cv, ev⟩ := Rd.nR (hv _ (HL2)) (by omega)
   cases ev
   refine aW (dD bM jl O O (by omega)) (aW (qo (ys := [_, _]) (hv _ (HL2)) (by omega) gX O jl O (o8 zf (by omega) default) O) (iY (fK (l := [_, _]) HL2 mg O) ?_))
   rintro _ w5 ⟨b5, rfl, H5⟩
   refine aI (dG 0 (l' := [_, _]) (us := [_, _]) H5 jl O O O (aG (aG bK)) O O) ?_
   rintro _ w6 H6
   refine YK (bn 1 gX O oQ O (fB pU O (H6).get.2 O (aW (fG O O) (jv O (fun h4 => ?_) (fun h4 => ?_)))))
   ·(try simp only [aF] at h4)
    have hkn := h4
    refine mP O (aX (aC (aC (aX (aC (fD results97 O ?_))))))
    exact ⟨by rw [Uj hsh hkl2 hkn], H6.right⟩
   ·(try simp only [aF] at h4)
    have hkp : ¬ (l.getD k2 default).2 < 0 := by have h9 := h4; omega
    refine dS (aP (aZ (aA (aW (fP O O (by omega)) (bT O (bZ ?_))))))
    refine dN (k2 + 1) ?_ ?_ ?_ ?_
    ·exact oO
    ·exact rP
    ·(try dsimp only)
     first | done | exact ⟨⟨by omega, fun i hi => (show i < k2 ∨ i = k2 from by omega).elim (hpo i) (fun c => c ▸ hkp)⟩, H6.right⟩
    ·(try dsimp only); omega
  ·(try simp only [aF] at h3)
   refine eH (aT (aT (bU (aZ (aO ?_)))))
   obtain rfl : k2 = l.length := by omega
   refine aA (ig O (fD results97 O ?_))
   exact ⟨by rw [XP hsh hpo], HL2⟩
def su (hl : List oH) (most : Int) : Nat := hl.length - most.toNat
theorem JL (H : V w0 w (eF p (.cells #[v, .int .i64 base, .int .i64 most] 156 (0, 0)) • Row 41 2 v hl.length (hl.flatMap lD) • F)) (hm : 0 ≤ most ∧ most ≤ 4096) (hb : 1 ≤ base ∧ base ≤ 2305843009213693952) (hn : hl.length ≤ 70368744177664) :
  iM prog 98 #[.pointer (some ⟨p, 0, none⟩)] w fun _ w' => ∃ v', V w0 w' (eF p (.cells #[v', .int .i64 (base + su hl most), .int .i64 most] 156 (0, 0)) • Row 41 2 v' (hl.drop (su hl most)).length ((hl.drop (su hl most)).flatMap lD) • F) := by
 refine iQ func98 ntmps98 ?_
 refine aO ?_
 have YR := H.drew
 have Cm := V.kp (YR.f2.f2)
 refine uU [4, 10] Cm O (gQ 0 O Cm O (jQ 1 O Cm O (fQ 2 O Cm 0 iF O mO O (fQ 3 O Cm 0 iG O gW O (iO 4 O Cm (fun W hW => jT bM O ((Kp.h hW)).get.2 O) (iL 5 O Cm (fun _ => fV ((YR.f2).aN) bM O) (gQ 6 O Cm O (jQ 7 O Cm O (fQ 8 O Cm 0 iF O mO O (fQ 9 O Cm 2 iG O aj O (iO 10 O Cm (fun W hW => jT aB O ((Kp.h hW)).get.2 O) (iL 11 O Cm (fun _ => lW O O (by omega)) (iL 12 O Cm (fun _ => fU O) (qj (aZ (bY O (aW (iT O O) (jv O (fun h1 => ?_) (fun h1 => ?_)))))))))))))))))))
 ·(try simp only [aF] at h1)
  have hk : (su hl most : Int) = (hl.length : Int) - most := by have h9 := h1; unfold su; omega
  refine bY O (mJ O O (bn 0 iF O mO O (bn 0 iG O gW O (fB bM O (YR).get.2 O (bT O (aW (vU ((YR.f2).aN) bM jl O O O (by omega)) ?_))))))
  refine fE O func80 (Ed (hl := hl.drop (su hl most)) YR (fun W HW => by rw [show ((hl.length : Int) - most).toNat = su hl most from by omega, show ((hl.length : Nat) : Int).toNat = hl.length from by omega]; exact acF HW.f2.aN (by unfold su; omega)) (by rw [List.length_drop]; unfold su; omega)) ?_
  rintro u1 w1 H1
  refine dO O (bn 0 iF O mO O (bn 0 iG O gW O (aI (eY 0 (l' := [_, _, _]) H1.f2 gW O O (by first | rfl | exact Rd.one ((H1).aN)) O O) ?_)))
  rintro _ w2 H2
  refine jd (aA (mJ O O (bn 0 iF O mO O (bn 1 iG O oQ O (fB pU O (H2).get.2 O (bT O (aW (fP O O (by omega)) (dO O (bn 0 iF O mO O (bn 1 iG O oQ O (aI (st3 1 H2 oQ) ?_)))))))))))
  rintro _ w3 H3
  refine bZ (kY (.inr O) results98 ?_)
  exact ⟨_, by rw [hk]; exact H3.f3.right.f2.f2⟩
 ·(try simp only [aF] at h1)
  have hk : su hl most = 0 := by have h9 := h1; unfold su; omega
  refine dS (kY (.inr O) results98 ?_)
  exact ⟨_, by rw [hk]; simpa using YR⟩
theorem adn {hl l : List oH} {base most : Int} (h : HOk hl base most) (hb : hl.length + l.length ≤ 5864062014805) (hm : wZ l = 0) (hbase : base ≤ 1152921504606846976) : HOk ((hl ++ l).drop (su (hl ++ l) most)) (base + su (hl ++ l) most) most := by
  obtain ⟨h1, h2, h3, h4, h5, h6⟩ := h
  have hl1 : (hl ++ l).length = hl.length + l.length := List.length_append
  refine ⟨?_, ?_, ?_, ?_, h5, fun x hx => ?_⟩
  · rw [List.length_drop]; unfold su; omega
  · omega
  · unfold su; omega
  · rw [List.length_drop]; unfold su; omega
  · rcases List.mem_append.1 (List.mem_of_mem_drop hx) with c | c
    · exact h6 x c
    · exact aaw hm x c
def Hf (hl : List oH) (most : Int) (l : List oH) : List oH := if wZ l = 0 then (hl ++ l).drop (su (hl ++ l) most) else hl
def Rw (hl : List oH) (base most : Int) (l : List oH) : Int := if wZ l = 0 then base + su (hl ++ l) most else base
theorem IL (H : V w0 w (iI p hl base most • F)) (hv : EL w0 F 2 v l.length (l.flatMap lD)) (hb : hl.length + l.length ≤ 5864062014805) (hbase : base ≤ 1152921504606846976) :
  iM prog 52 #[.pointer (some ⟨p, 0, none⟩), v] w fun v' w' => v' = .int .i64 (wZ l) ∧ V w0 w' (iI p (Hf hl most l) (Rw hl base most l) most • F) := by
 refine qI func52 ntmps52 ?_
 refine kQ O (aO (bY O (fE O func79 (zC H) ?_)))
 rintro _ _ ⟨rfl, rfl⟩
 refine jd (vS (iy (aO (bY O (fE O func97 (Ru H (fun W HW => hv _ (HW.right)) (by omega)) ?_)))))
 rintro _ w2 ⟨rfl, H2⟩
 refine iP O (bY O (aW (gy O O) (jv O (fun h1 => ?_) (fun h1 => ?_))))
 ·(try simp only [aF] at h1)
  have hm := h1
  refine bY O (ig O (aC (fD results52 O ?_)))
  exact ⟨O, by unfold Hf Rw; rw [if_neg hm, if_neg hm]; exact H2⟩
 ·(try simp only [aF] at h1)
  have hm : wZ l = 0 := h1
  refine iy (aO ?_)
  obtain ⟨Pz, vO, xX⟩ := (H2).hist
  have hkl := vO.1
  have hon := @IJ l
  refine aA (jy O O (dO O (bn 0 iF O mO O (bn 0 iG O gW O (fB bM O (xX).get.2 O (bT O (iY (eX xX.f2 bM XR O O O (hv _ (xX.right.right)) (by assumption) (by omega) (by omega)) ?_)))))))
  rintro l4 w4 H4
  refine dO O (bn 0 iF O mO O (bn 0 iG O gW O (aI (eY 0 (l' := [_, _, _]) H4.f2 gW O O (by first | rfl | exact Rd.one ((H4).aN)) O O) ?_)))
  rintro _ w5 H5
  refine ql O (fE O func98 (JL (hl := hl ++ l) (by rw [List.flatMap_append, List.length_append]; exact H5.f2.f2) ⟨by have := vO.2.2.2.1; omega, vO.2.2.2.2.1⟩ ⟨vO.2.1, by omega⟩ (by have := vO.1; rw [List.length_append]; omega)) ?_)
  rintro _ w6 ⟨v2, H6⟩
  refine jd (mP O (fD results52 O ?_))
  exact ⟨by rw [hm], by unfold Hf Rw; rw [if_pos hm, if_pos hm]; exact V.Ec (adn vO hb hm hbase) H6⟩
theorem PE {n : Int} (H : V w0 w F) (hn : 0 ≤ n ∧ n ≤ 4096) (hv : EL w0 F 2 v l.length (l.flatMap lD)) (hb : l.length ≤ 5864062014805) (hm : wZ l ≠ 0) : iM prog 19 #[.int .i64 n, v] w fun v' w' =>
    v' = .tuple #[.pointer none, .int .i64 (wZ l)] ∧ V w0 w' F := by
  refine qI func19 ntmps19 ?_
  refine jw (iC O (iP O (bY O (fE O func51 (IK H (by omega)) ?_))))
  rintro _ w1 ⟨p1, rfl, H1⟩
  refine bT O (sD O O (sD O O (iC O (sS O (bY O (aW (gy O O) (jd (Ip O (fun h1 => ?_)))))))))
  (try simp only [aF] at h1)
  refine iy (aO (bY O (bT O (fE O func52 (IL H1 hv (by simp; omega) (by decide)) ?_))))
  rintro _ w2 ⟨rfl, H2⟩
  refine iP O (bY O (aW (gy O O) (jv O (fun h2 => ?_) (fun h => by exfalso; (try simp only [aF] at h); exact hm h))))
  (try simp only [aF] at h2)
  refine bY O (iC O (ig O (aC (Dw results19 O O ?_))))
  exact ⟨O, H2.right⟩
theorem EZ {n : Int} (H : V w0 w F) (hn : 0 ≤ n ∧ n ≤ 4096) (hv : EL w0 F 2 v l.length (l.flatMap lD)) (hb : l.length ≤ 5864062014805) (hm : wZ l = 0) : iM prog 19 #[.int .i64 n, v] w fun v' w' =>
    ∃ p, v' = .tuple #[.pointer (some ⟨p, 0, none⟩), .int .i64 0] ∧ V w0 w' (iI p (Hf [] n l) (Rw [] 1 n l) n • F) := by
  refine qI func19 ntmps19 ?_
  refine jw (iC O (iP O (bY O (fE O func51 (IK H (by omega)) ?_))))
  rintro _ w1 ⟨p1, rfl, H1⟩
  refine bT O (sD O O (sD O O (iC O (sS O (bY O (aW (gy O O) (jd (Ip O (fun h1 => ?_)))))))))
  (try simp only [aF] at h1)
  refine iy (aO (bY O (bT O (fE O func52 (IL H1 hv (by simp; omega) (by decide)) ?_))))
  rintro _ w2 ⟨rfl, H2⟩
  refine iP O (bY O (aW (gy O O) (jv O (fun h => by exfalso; (try simp only [aF] at h); exact h hm) (fun h2 => ?_))))
  (try simp only [aF] at h2)
  refine iy (bY O (iC O (ig O (Dw results19 O O ?_))))
  exact ⟨_, O, H2⟩
end
def Qx (l : List oH) : List oH := Hf [] 4096 l
def Qy (l : List oH) : Int := Rw [] 1 4096 l
end Go.Proofs.YtgofgnlkpeghcaaGreatDoor
end
section
set_option maxRecDepth 100000
namespace Go.Proofs.YtgofgnlkpeghcaaGreatDoor
open Go.ChangeShapes Go.WideShapes Go.ChangeAt Go.RowKit
theorem acG {H : Type} {enc : TypeId × Value → H} {W : World} {B : Nat} {cs : List Value} (h : Dx B enc Tryz.prog W 41 cs) : ∃ x0 x1, cs = [.string x0, .int .i64 x1] ∧ x0.size ≤ B ∧ (Lit.int .i64 x1).wf = true := by
  obtain ⟨hl, hf⟩ := h.struct Tryz.underlying41
  rw [show Tryz.prog.cellsOf 41 = 2 from by kernel_rfl] at hl
  match cs, hl with
  | [c0, c1], _ =>
    have h0 : Dx B enc Tryz.prog W 9 (([c0, c1].drop 0).take (Tryz.prog.cellsOf 9)) := hf 0 _ rfl
    rw [show Tryz.prog.cellsOf 9 = 1 from by kernel_rfl] at h0
    obtain ⟨x0, e0, w0⟩ := h0.string Tryz.underlying9
    have h1 : Dx B enc Tryz.prog W 2 (([c0, c1].drop 1).take (Tryz.prog.cellsOf 2)) := hf 1 _ rfl
    rw [show Tryz.prog.cellsOf 2 = 1 from by kernel_rfl] at h1
    obtain ⟨x1, e1, w1⟩ := h1.int Tryz.underlying2
    simp only [List.drop, List.take, List.cons.injEq, and_true] at e0 e1
    exact ⟨x0, x1, by simp_all, w0, w1⟩
theorem Wp {H : Type} {enc : TypeId × Value → H} {W : World} {B n : Nat} {xs : List Value} (hx : xs.length = n * 2) (h : ∀ k, k < n → Dx B enc Tryz.prog W 41 ((xs.drop (k * 2)).take 2)) :
    ∃ l : List oH, l.length = n ∧ xs = l.flatMap lD := by
  obtain ⟨l, h1, h2, -⟩ := acC (enc := lD) (p := fun _ => True) hx (fun k hk => by
    obtain ⟨x0, x1, e, -⟩ := acG (h k hk)
    exact ⟨(x0, x1), e, trivial⟩)
  exact ⟨l, h1, h2⟩
theorem agM {l : List Int} (h : ∀ n ∈ l, (Lit.int .i32 n).wf = true) : ∀ n ∈ l, -2147483648 ≤ n ∧ n < 2147483648 := fun n hn => by
  have h := h n hn
  simp [Lit.wf, IntKind.min, IntKind.max, IntKind.signed, IntKind.bits] at h
  omega
end Go.Proofs.YtgofgnlkpeghcaaGreatDoor
end
section
namespace Go.Proofs.YtgofgnlkpeghcaaGreatDoor
open Go.RowKit
open _root_.Go.Proofs.Tryz
theorem Uk {s i j : Nat} {v : Value} (h : v.oneCell' = true) : (uo s i j v).oneCell' = true := by cases v <;> simp_all [uo, Value.oneCell']
def jL (v : Value) (f t pt mk : Int) : Array Value := #[.bool true, v, .int .i64 f, .int .i64 t, .int .i64 pt, .int .i64 mk]
theorem acH {a b : Value} (h : a.oneCell' = true) (k : b.oneCell' = true) : ∀ u ∈ [a, b], u.oneCell' = true := by
  intro u hu; simp at hu; rcases hu with rfl | rfl
  · exact h
  · exact k
section
variable {v u : Value} {f t pt mk x : Int}
theorem pJ : (jL v f t pt mk).size = 6 := rfl
theorem YS : (jL v f t pt mk).setIfInBounds 1 u = jL u f t pt mk := rfl
theorem Ee : (jL v f t pt mk).setIfInBounds 2 (.int .i64 x) = jL v x t pt mk := rfl
theorem Hg : (jL v f t pt mk).setIfInBounds 3 (.int .i64 x) = jL v f x pt mk := rfl
theorem Dc : (jL v f t pt mk).setIfInBounds 4 (.int .i64 x) = jL v f t x mk := rfl
theorem vk : (jL v f t pt mk).setIfInBounds 5 (.int .i64 x) = jL v f t pt x := rfl
end
def ji (p : Nat) (L : List Int) (pt mk : Int) : HP := yC fun (x : Value × List Int × Nat × Nat) =>
  fact (x.2.2.1 ≤ x.2.2.2 ∧ x.2.2.2 ≤ x.2.1.length ∧ L = x.2.1.take x.2.2.1 ++ x.2.1.drop x.2.2.2 ∧ L.length ≤ 1024 ∧ x.2.1.length ≤ 4096 ∧ (0 ≤ pt ∧ pt ≤ L.length) ∧ (-1 ≤ mk ∧ mk ≤ L.length)) •
    eF p (.cells (jL x.1 x.2.2.1 x.2.2.2 pt mk) 189 (0, 0)) • jR 21 .i32 x.1 x.2.1
section
variable {w0 w : World} {F : HP} {p : Nat} {L : List Int} {pt mk : Int}
theorem V.buf (H : V w0 w (ji p L pt mk • F)) : ∃ (a : Option Addr) (c : Nat) (xs : List Int) (f t : Nat), f ≤ t ∧ t ≤ xs.length ∧ L = xs.take f ++ xs.drop t ∧ L.length ≤ 1024 ∧ xs.length ≤ 4096 ∧ (0 ≤ pt ∧ pt ≤ L.length) ∧ (-1 ≤ mk ∧ mk ≤ L.length) ∧ xs.length ≤ c ∧ (c : Int) ≤ 9223372036854775807 ∧ L.length + t = xs.length + f ∧
    V w0 w (eF p (.cells (jL (.slice a xs.length c) f t pt mk) 189 (0, 0)) • jR 21 .i32 (.slice a xs.length c) xs • F) := by
  obtain ⟨⟨v, xs, f, t⟩, H⟩ := H.pO
  obtain ⟨⟨h1, h2, h3, h4, h5, h6, h7⟩, H⟩ := H.flat.fact
  have H := H.flat
  obtain ⟨a, c, hv, hc1, hc2, _⟩ := (H.swap.aN).form
  dsimp only at *
  subst hv
  refine ⟨a, c, xs, f, t, h1, h2, h3, h4, h5, h6, h7, hc1, hc2, ?_, H⟩
  rw [h3]; simp; omega
theorem V.xZ {v : Value} {xs : List Int} {f t : Nat} (h1 : f ≤ t) (h2 : t ≤ xs.length) (h3 : L = xs.take f ++ xs.drop t) (h4 : L.length ≤ 1024) (h5 : xs.length ≤ 4096) (h6 : 0 ≤ pt ∧ pt ≤ L.length) (h7 : -1 ≤ mk ∧ mk ≤ L.length)
    (H : V w0 w (eF p (.cells (jL v f t pt mk) 189 (0, 0)) • jR 21 .i32 v xs • F)) : V w0 w (ji p L pt mk • F) :=
  V.jG (v, xs, f, t) (V.deep (V.oG ⟨h1, h2, h3, h4, h5, h6, h7⟩ (V.deep H)))
theorem yc (t : TypeId) {cs : Array Value} {fr : Nat × Nat} {m : Bool} (hb : w.heap[p]? = some (.cells cs t fr)) (h0 : cs[0]? = some (.bool m)) :
    iM prog 115 #[.pointer (some ⟨p, 0, none⟩)] w fun v w' => v = .bool (!m) ∧ w = w' := by
  refine iQ func115 ntmps115 ?_
  refine kQ O (bY O (aW (iJ lX O O) (TJ O (fun h1 => ?_))))
  (try simp only [aF] at h1)
  refine bW (bT O (bW (dO O (bW (bn 0 bQ O aQ O (bW (fB cZ O hb h0 (bW (aW (mG O) (kX O O (ig O (fD results115 O ?_))))))))))))
  exact ⟨O, O⟩
theorem CB (H : V w0 w (ji p L pt mk • F)) : iM prog 116 #[.pointer (some ⟨p, 0, none⟩)] w fun v w' => v = .int .i64 L.length ∧ wH w w' := by
 obtain ⟨a, c, xs, f, t, h1, h2, h3, h4, h5, h6, h7, hc1, hc2, hl, H1⟩ := H.buf
 have hb := H1.get.2
 refine iQ func116 ntmps116 ?_
 refine kQ O (aO (bY O (fE O func115 (yc _ hb O) ?_)))
 rintro _ _ ⟨rfl, rfl⟩
 refine jd (vS (iy (aO ?_)))
 refine tC (n := 16) [0, 1, 2, 3, 4, 5, 6, 7, 8, 9, 10, 11, 12, 13, 14, 15] (fun W => W.heap = w.heap) (by kernel_rfl) (by kernel_rfl) O ?_
 have hS0 : (fun W => W.heap = w.heap) (w.drew) := rfl
 have H3d := H1.drew
 refine gQ 0 O hS0 O (jQ 1 O hS0 O (fQ 2 O hS0 1 bQ O bF O ?_))
 refine iO 3 O hS0 (fun W hW => jT ay O (by rw [hW]; exact hb) O) ?_
 refine iL 4 O hS0 (fun _ => jS ay O) (gQ 5 O hS0 O (jQ 6 O hS0 O (fQ 7 O hS0 3 bQ O aj O ?_)))
 refine iO 8 O hS0 (fun W hW => jT aB O (by rw [hW]; exact hb) O) ?_
 refine gQ 9 O hS0 O (jQ 10 O hS0 O (fQ 11 O hS0 2 bQ O aj O ?_))
 refine iO 12 O hS0 (fun W hW => jT aB O (by rw [hW]; exact hb) O) ?_
 refine iL 13 O hS0 (fun _ => lW O O (by omega)) (iL 14 O hS0 (fun _ => lW O O (by omega)) (iL 15 O hS0 (fun _ => fU O) (qj (aZ (mZ (fD results116 O ?_))))))
 exact ⟨by congr 1; omega, wH.refl _ |>.drew⟩
theorem Df (H : V w0 w (ji p L pt mk • F)) : iM prog 65 #[.pointer (some ⟨p, 0, none⟩)] w fun v w' => v = .int .i64 pt ∧ w = w' := by
  obtain ⟨a, c, xs, f, t, h1, h2, h3, h4, h5, h6, h7, hc1, hc2, hl, H1⟩ := H.buf
  have hb := H1.get.2
  refine iQ func65 ntmps65 ?_
  refine kQ O (aO (bY O (fE O func115 (yc _ hb O) ?_)))
  rintro _ _ ⟨rfl, rfl⟩
  refine jd (vS (iy (bY O (dO O (bn 4 bQ O aj O (fB aB O hb O (ig O (fD results65 O ?_))))))))
  exact ⟨O, O⟩
theorem Rx (H : V w0 w (ji p L pt mk • F)) : iM prog 96 #[.pointer (some ⟨p, 0, none⟩)] w fun v w' => v = .int .i64 mk ∧ w = w' := by
  obtain ⟨a, c, xs, f, t, h1, h2, h3, h4, h5, h6, h7, hc1, hc2, hl, H1⟩ := H.buf
  have hb := H1.get.2
  refine iQ func96 ntmps96 ?_
  refine kQ O (aO (bY O (fE O func115 (yc _ hb O) ?_)))
  rintro _ _ ⟨rfl, rfl⟩
  refine jd (vS (iy (bY O (dO O (bn 5 bQ O aj O (fB aB O hb O (ig O (fD results96 O ?_))))))))
  exact ⟨O, O⟩
theorem yg (H : V w0 w (ji p L pt mk • F)) : iM prog 95 #[.pointer (some ⟨p, 0, none⟩)] w fun v w' => V w0 w' (jR 21 .i32 v L • ji p L pt mk • F) := by
 obtain ⟨a, c, xs, f, t, h1, h2, h3, h4, h5, h6, h7, hc1, hc2, hl, H1⟩ := H.buf
 have hb := H1.get.2
 refine iQ func95 ntmps95 ?_
 refine kQ O (aO (bY O (fE O func115 (yc _ hb O) ?_)))
 rintro _ _ ⟨rfl, rfl⟩
 refine jd (vS (iy (aO ?_)))
 refine tC (n := 21) [0, 1, 2, 3, 4, 5, 6, 7, 8, 9, 10, 11, 12, 13, 14, 15, 16, 17, 18, 19, 20] (fun W => W.heap[p]? = some (.cells (jL (.slice a xs.length c) f t pt mk) 189 (0, 0))) (by kernel_rfl) (by kernel_rfl) O ?_
 have hS0 : (fun W => W.heap[p]? = some (.cells (jL (.slice a xs.length c) f t pt mk) 189 (0, 0))) (w.drew) := hb
 have H3d := H1.drew
 refine gQ 0 O hS0 O (jQ 1 O hS0 O (fQ 2 O hS0 1 bQ O bF O (iO 3 O hS0 (fun W hW => jT ay O hW O) (gQ 4 O hS0 O (jQ 5 O hS0 O (fQ 6 O hS0 2 bQ O aj O (iO 7 O hS0 (fun W hW => jT aB O hW O) (iL 8 O hS0 (fun _ => uV ay iE O O O (by omega)) ?_))))))))
 refine gQ 9 O hS0 O (jQ 10 O hS0 O (fQ 11 O hS0 1 bQ O bF O (iO 12 O hS0 (fun W hW => jT ay O hW O) (gQ 13 O hS0 O (jQ 14 O hS0 O (fQ 15 O hS0 3 bQ O aj O (iO 16 O hS0 (fun W hW => jT aB O hW O) (iL 17 O hS0 (fun _ => uV ay iE O O O (by omega)) ?_))))))))
 refine lU 18 O (adh (vs := [uo 1 0 f (.slice a xs.length c), uo 1 t xs.length (.slice a xs.length c)]) H3d bH bF zeroValue23 O O O (by decide) (acH (Uk O) (Uk O))) ?_
 rintro _ w2 ⟨b2, rfl, H2⟩
 have hS2 : (fun W => W.heap[p]? = some (.cells (jL (.slice a xs.length c) f t pt mk) 189 (0, 0))) w2 := H2.swap.get.2
 refine Z4 hS2 ?_
 refine lU 19 O (wY O func46 (Ue (l1 := xs.take f) (l2 := xs.drop t) H2 (fun W HW => jP.upto HW.Qj.aN (by omega)) (fun W HW => jP.from HW.Qj.aN (by omega)) (by simp; omega))) ?_
 rintro u w3 H3
 have hS3 : (fun W => W.heap[p]? = some (.cells (jL (.slice a xs.length c) f t pt mk) 189 (0, 0))) w3 := H3.Qj.get.2
 refine Z4 hS3 ?_
 refine iL 20 O hS3 (fun _ => fU O) (qj (aZ (mZ (fD results95 O ?_))))
 rw [← h3] at H3
 exact (V.xZ h1 h2 h3 h4 h5 h6 h7 H3.swap.right.d3).swap
theorem KF {v : Value} {l : List Int} (H : V w0 w F) (hr : jm w0 F .i32 v l) (hl : l.length ≤ 1024) : iM prog 63 #[v] w fun v' w' => ∃ p, v' = .tuple #[.pointer (some ⟨p, 0, none⟩), .int .i64 0] ∧ V w0 w' (ji p l l.length (-1) • F) := by
 obtain ⟨a, c, rfl, _, _, _⟩ := (hr w H).open
 refine iQ func63 ntmps63 ?_
 refine jw (iC O (sS O (bY O (aW (jS ay O) (aW (iT O O) (jd (ZM O (fun h1 => ?_))))))))
 (try simp only [aF] at h1)
 refine iy (bY O (fE O func43 (uY H hr (by omega)) ?_))
 rintro u w1 H1
 obtain ⟨au, cu, hu, _⟩ := (H1.aN).form
 subst hu
 refine bT O (aW (jS ay O) (aW (jB (pl := #[(0, 1), (1, 1), (2, 1), (3, 1), (4, 1), (5, 1)]) (jL (.slice au l.length cu) 0 0 l.length (-1)) bQ zeroValue189 (fun w => by kernel_rfl) O (by kernel_rfl)) (iY (XI H1 O) ?_)))
 rintro _ w2 ⟨b2, rfl, H2⟩
 refine sS O ?_
 have HB : V w0 w2 (eF b2 (.cells (jL (.slice au l.length cu) 0 0 l.length (-1)) 189 (0, 0)) • jR 21 .i32 (.slice au l.length cu) l • F) := H2
 refine aA (jy O O (bT O (aW (jS ay O) (bT O (aW (jS ay O) (dO O (bn 2 bQ O aj O (aI (iK HB aj O O O (by rw [pJ]; decide)) ?_))))))))
 rintro _ w3 HB1
 rw [Ee] at HB1
 refine dO O (bn 3 bQ O aj O (aI (iK HB1 aj O O O (by rw [pJ]; decide)) ?_))
 rintro _ w4 HB2
 rw [Hg] at HB2
 refine ql O (iC O (ig O (Dw results63 O O ?_)))
 exact ⟨_, O, V.xZ (f := l.length) (t := l.length) (Nat.le_refl _) (Nat.le_refl _) (by simp) hl (by omega) (by omega) (by omega) HB2⟩
end
end Go.Proofs.YtgofgnlkpeghcaaGreatDoor
end
