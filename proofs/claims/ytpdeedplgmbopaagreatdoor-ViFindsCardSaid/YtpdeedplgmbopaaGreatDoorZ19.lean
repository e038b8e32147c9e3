import Derived.Test.YtpdeedplgmbopaaGreatDoorZ4
import Derived.Test.YtpdeedplgmbopaaGreatDoorZ18
import Derived.Test.YtpdeedplgmbopaaGreatDoorZ14
import Derived.Test.YtpdeedplgmbopaaGreatDoorZ12
import Derived.Test.YtpdeedplgmbopaaGreatDoorZ17
set_option linter.unusedSimpArgs false
set_option linter.unusedVariables false
/- Texts of mine, joined, their names in short: REdF REdE REdN VBoth VLive. -/
section
namespace Go.Proofs.YtpdeedplgmbopaaGreatDoor
open Go.RowKit
open _root_.Go.Proofs.Tryz
theorem AU.one {I : Hp} {sz n : Nat} {v : Value} {xs : List Value} (h : AU I sz v n xs) : v.oneCell' = true := by obtain ⟨_, a, c, rfl, _⟩ := h; rfl
section
variable {w0 w : World} {F : HP} {p y h : Nat} {s : dG} {u v lv : Value} {es les : List dQ} {gs : List (Value × List dQ)} {on : Bool}
theorem V.WV (H : V w0 w (nK gs • F)) : ∀ x ∈ gs.map (·.1), x.oneCell' = true := by
  obtain ⟨I, h, hI⟩ := H.qC
  intro x hx
  obtain ⟨g, hg, rfl⟩ := List.mem_map.1 hx
  obtain ⟨k, hk, rfl⟩ := List.getElem_of_mem hg
  have := h k hk
  rw [List.getD_eq_getElem?_getD, List.getElem?_eq_getElem hk] at this
  exact this.1.one
theorem V.YD (H : V w0 w (Bc v es • F)) : V w0 w (kK es • Bc v es • F) := H.qW.DR (oC (fun I h => h.2) _)
theorem WW {α : Type _} (l : List α) (u : α) (h : l ≠ []) : l.set (l.length - 1) u = l.dropLast ++ [u] := by
  have e := List.dropLast_concat_getLast h
  have hl : l.dropLast.length = l.length - 1 := List.length_dropLast
  conv => lhs; rw [← e]
  rw [List.set_append_right _ _ (by simp)]
  simp
theorem V.TR (hg : gs ≠ []) (H : V w0 w (Row 80 1 v gs.length ((gs.map (·.1)).set (gs.length - 1) u) • Bc u es • nK gs • F)) : V w0 w (glK v (gs.dropLast ++ [(u, es)]) • F) := by
  have h0 : 0 < gs.length := List.length_pos_iff.2 hg
  have H1 := (H.f3).MF (gs.length - 1)
  rw [← List.dropLast_eq_take] at H1
  have hm : (gs.map (·.1)).set (gs.length - 1) u = gs.dropLast.map (·.1) ++ [u] := by
    have := WW (gs.map (·.1)) u (by simpa using hg)
    rw [List.length_map] at this
    rw [this, List.map_dropLast]
  have hl : gs.length = gs.dropLast.length + 1 := by rw [List.length_dropLast]; omega
  rw [hm, hl] at H1
  exact (V.qM (H1.f2.f3.f2)).Ah
theorem JR (gs : List (Value × List dQ)) (x : Value × List dQ) : Ag (gs ++ [x]) = Ag gs ++ [x.2.map dQ.says] := by unfold Ag; rw [List.map_append]; rfl
theorem Ou (hG : Ag gs = s.here) (hne : gs ≠ []) (hl : gs.getD (gs.length - 1) default = (lv, les)) (hes : es.map dQ.says = s.put) (hp : s.put ≠ []) : Ag (gs.dropLast ++ [(u, les ++ es)]) = s.lg true := by
  have h0 : s.here ≠ [] := by rw [← hG]; unfold Ag; simpa using hne
  have h1 : s.here.getLast h0 = les.map dQ.says := by
    have e : s.here.getLast? = some (les.map dQ.says) := by
      rw [← hG]; unfold Ag
      rw [List.getLast?_map, List.getLast?_eq_getElem?]
      rw [List.getD_eq_getElem?_getD, List.getElem?_eq_getElem (by have := List.length_pos_iff.2 hne; omega)] at hl
      rw [List.getElem?_eq_getElem (by have := List.length_pos_iff.2 hne; omega)]
      simp only [Option.getD_some] at hl
      rw [hl]; rfl
    rw [List.getLast?_eq_some_getLast h0] at e
    exact Option.some.inj e
  unfold dG.lg
  rw [if_neg hp, if_pos rfl, List.getLast?_eq_some_getLast h0, JR]
  have h2 : Ag gs.dropLast = s.here.dropLast := by rw [← hG]; unfold Ag; rw [List.map_dropLast]
  rw [h1, h2]
  show _ ++ [(les ++ es).map dQ.says] = _
  rw [List.map_append, hes]
theorem Ig (hG : Ag gs = s.here) (hes : es.map dQ.says = s.put) (hp : s.put ≠ []) (h : ¬ (on = true ∧ 0 < gs.length)) : Ag (gs ++ [(u, es)]) = s.lg on := by
  unfold dG.lg
  rw [if_neg hp, JR, hG]
  show s.here ++ [es.map dQ.says] = _
  rw [hes]
  cases on with
  | false => rw [if_neg (by decide)]
  | true =>
    have h0 : s.here = [] := by
      have : gs = [] := List.eq_nil_of_length_eq_zero (by by_cases hx : 0 < gs.length; exact absurd ⟨rfl, hx⟩ h; omega)
      rw [← hG, this]; rfl
    rw [if_pos rfl, h0]; rfl
theorem zh {x0 x1 x2 x3 x4 x6 x9 x10 x11 x12 uS x14 x15 x16 x17 x18 x19 x20 x21 vJ x23 x24 x25 wz x27 x28 x29 x30 x31 x32 wZ x34 LW LX LY x38 x40 x41 : Value} {pv gv nw : Value} {A : List LE} (hA : Fa A = s.c.un) (hP : uO s.hl A) (hS : es.map dQ.says = s.put) (hok : lT s) (hx : DF s.c) (hhl : s.hl.length ≤ 4096)
  (H : V w0 w (dL y (.cells (x0 :: x1 :: x2 :: x3 :: x4 :: .int .i64 s.c.place :: x6 :: pv :: gv :: x9 :: x10 :: x11 :: x12 :: uS :: x14 :: x15 :: x16 :: x17 :: x18 :: x19 :: x20 :: x21 :: vJ :: x23 :: x24 :: x25 :: wz :: x27 :: x28 :: x29 :: x30 :: x31 :: x32 :: wZ :: x34 :: LW :: LX :: LY :: x38 :: nw :: x40 :: x41 :: []).toArray 174 (0, 0)) • mP .i64 pv (A.map (·.1)) • uD 1 gv A.length (A.map (·.2.1)) • qj A • Row 189 3 nw es.length (es.flatMap dQ.enc) • kK es • F)) :
  gJ prog 116 #[.pointer (some ⟨y, 0, none⟩), .bool on] w fun _ w' => ∃ pv' gv' A' nw', Fa A' = (s.gG on).c.un ∧ uO s.hl A' ∧
   V w0 w' (dL y (.cells (x0 :: x1 :: x2 :: x3 :: x4 :: .int .i64 s.c.place :: x6 :: pv' :: gv' :: x9 :: x10 :: x11 :: x12 :: uS :: x14 :: x15 :: x16 :: x17 :: x18 :: x19 :: x20 :: x21 :: vJ :: x23 :: x24 :: x25 :: wz :: x27 :: x28 :: x29 :: x30 :: x31 :: x32 :: wZ :: x34 :: LW :: LX :: LY :: x38 :: nw' :: x40 :: x41 :: []).toArray 174 (0, 0)) • mP .i64 pv' (A'.map (·.1)) • uD 1 gv' A'.length (A'.map (·.2.1)) • qj A' • Row 189 3 nw' 0 [] • kK [] • F) := by
 have afm := TL hx
 have hput := hok.2.2.2.2.1
 have hsp := og s.here s.put
 have hpl := Qs hP (by omega)
 have hlp : es.length = s.put.length := by rw [← hS]; simp
 refine nT func116 ntmps116 ?_
 refine aP (bT O (dJ O (bD 39 aN O bH O (fZ aU O (H).get.2 O (aV (jw ((H.f5).aS) aU O) (aV (dR O O) (je O (fun h1 => ?_) (fun h1 => ?_))))))))
 ·(try simp only [Z] at h1)
  have he : es = [] := List.eq_nil_of_length_eq_zero (by omega)
  have hp : s.put = [] := List.eq_nil_of_length_eq_zero (by omega)
  refine lS (aF (we0 results116 ?_))
  subst he
  exact ⟨pv, gv, A, nw, by rw [y7 hp]; exact hA, hP, H.f6.f6.f6.f6.f6.f6⟩
 ·(try simp only [Z] at h1)
  have hp : s.put ≠ [] := fun hx => h1 (by rw [hlp, hx]; rfl)
  refine gq (bT O (dJ O (bD 1 aN O dZ O (bD 2 cZ O ny O (bD 2 fM O aj O (fZ aK O (H).get.2 O (gI O (bT O (dJ O (bD 1 aN O dZ O (bD 6 cZ O sizeOf170 O (bP O (dY O func155 (Qx H.f4.f4.f4.f4) ?_)))))))))))))
  rintro u1 w1 ⟨gs1, aed, H1⟩
  obtain ⟨gu, rfl⟩ : ∃ q, q = u1 := ⟨_, rfl⟩
  obtain ⟨gs, rfl⟩ : ∃ q, q = gs1 := ⟨_, rfl⟩
  have hG : Ag gs = s.here := by rw [aed, hA]; rfl
  have hgl : gs.length = s.here.length := by rw [← hG]; exact (List.length_map _).symm
  have Z9 := H1.f2.f2
  have XY := Z9
  have hone := (XY.f2).WV
  refine gI O (jr O (bT O (bP O (jv (fU (XY.iO none) bg EF O O O ((XY).oH) (by assumption) (by omega) (by omega)) ?_))))
  rintro l4 w4 H4
  have Xm := H4
  rw [Nat.zero_add, List.nil_append] at Xm
  refine gI O ?_
  refine kS [(0, _), (4, _)] (fun (ou : Value) => [(6, ou)]) (fun (ou : Value) W => ∃ gs, Ag gs = s.lg on ∧ V w0 W (uD 1 ou gs.length (gs.map (·.1)) • nK gs • dL y (.cells (x0 :: x1 :: x2 :: x3 :: x4 :: .int .i64 s.c.place :: x6 :: pv :: gv :: x9 :: x10 :: x11 :: x12 :: uS :: x14 :: x15 :: x16 :: x17 :: x18 :: x19 :: x20 :: x21 :: vJ :: x23 :: x24 :: x25 :: wz :: x27 :: x28 :: x29 :: x30 :: x31 :: x32 :: wZ :: x34 :: LW :: LX :: LY :: x38 :: nw :: x40 :: x41 :: []).toArray 174 (0, 0)) • mP .i64 pv (A.map (·.1)) • uD 1 gv A.length (A.map (·.2.1)) • qj A • F)) qG ?_ ?_
  ·rintro ou w5 ⟨gs, hG, HJ⟩
   dsimp only [List.cons_append, List.nil_append]
   refine bT O (dJ O (bD 1 aN O dZ O (bD 6 cZ O sizeOf170 O (jG O O (dY O func156 (Ol HJ.f2.f2.f6.f6.f6.f6 (by assumption)) ?_)))))
   rintro _ w6 ⟨pv6, gv6, H6⟩
   refine iJ (aC (nD O O (bD 39 aN O bH O (aH (kY 39 H6 bH) ?_))))
   rintro _ w7 H7
   refine bM (lY (.inr O) results116 ?_)
   have HQ := (H7.f4.f4.f4.f4).rE none |>.ZO
   refine ⟨_, _, _, _, ?_, Qw hP ⟨hok.1.1, hok.1.2.1⟩, HQ.f6.f6.f6.f6⟩
   rw [lN hp, Yx, hA, hG]; rfl
  ·skip
   refine bT O (jF O (fun h2 => ?_) (fun h2 => ?_))
   ·(try simp only [Z] at h2)
    refine bC (bP O (bC (aV (jw ((Xm).aS) bg O) (bC (aV (iV O O) (jE O O (je O (fun h3 => ?_) (fun h3 => ?_))))))))
    ·(try simp only [Z] at h3)
     refine aP ?_
     have aee : on = true := by first | assumption | (simp_all; done)
     have hne : gs ≠ [] := fun hx => by subst hx; simp at *
     refine aC (gI O (bT O (jG O O (aV (jw ((Xm).aS) bg O) (aV (kU O O (by omega)) ?_)))))
     obtain ⟨bl4, ol4, cl4, el4⟩ := Rd.pJ ((Xm).aS) (by omega)
     cases el4
     refine aV (dD bg bH O O (by omega)) ?_
     refine aV (eG (bY aU O) O (by first | exact Rd.kX ((Xm).aS) (by omega) | exact Rd.uQ ((Xm).aS) (by omega) | exact Rd.uG ((Xm).aS) (by omega))) ?_
     rw [show (gs.map (·.1)).getD (((gs.length : Nat) : Int) - 1).toNat undef = (gs.getD (gs.length - 1) default).1 from by have := List.length_pos_iff.2 hne; rw [show (((gs.length : Nat) : Int) - 1).toNat = gs.length - 1 from by omega]; simp [List.getD_eq_getElem?_getD, show gs.length - 1 < gs.length from by omega]]
     obtain ⟨gl, wQ, hg⟩ : ∃ gl wQ, gs.getD (gs.length - 1) default = (gl, wQ) := ⟨_, _, rfl⟩
     rw [hg]
     have Ho8 := Xm.f3
     have Yh := Ho8.Fq (by have := List.length_pos_iff.2 hne; omega) hg
     have aeK := (Yh).U4
     have hgm : wQ.map dQ.says ∈ s.here := by rw [← hG]; exact List.mem_map.2 ⟨(gl, wQ), by rw [← hg]; exact vK (by have := List.length_pos_iff.2 hne; omega), rfl⟩
     have hgb := Fv hgm
     rw [List.length_map] at hgb
     have afn : wQ.length ≤ 16384 := by unfold iE at hput; omega
     refine jv (fU (Yh.iO none) aU zS O O O ((Yh).uJ) (by assumption) (by omega) (by omega)) ?_
     rintro l10 w10 ql
     have HX7 := ql
     rw [Nat.zero_add, List.nil_append] at HX7
     refine gI O ?_
     have aeL := (HX7.f11).zQ
     refine aC (jG O O (aV (nI bg O) (aV (kU O O (by omega)) (jG O O (dJ O (bD 39 aN O bH O (fZ aU O (HX7.f6).get.2 O (jv (fU HX7 aU zS O O O ((HX7.f10).aS) (by assumption) (by omega) (by omega)) ?_))))))))
     rintro l11 EH rF
     refine aV (dD bg bH O O (by omega)) (aH (J5 0 rF.f4 bH O O (by first | rfl | exact Rd.one ((rF).aS)) (by omega) (by decide)) ?_)
     rintro _ w12 uI
     have aay := uI.f3
     have aaz := (aay.YD).f2.right
     have aan := aaz.f11.f2.f4
     have aao := V.oP (es := wQ ++ es) (V.deep (V.FC rfl aan))
     have PE := aao.f2
     have HX8 := PE
     rw [show (((gs.length : Nat) : Int) - 1).toNat * 1 + 0 = gs.length - 1 from by omega] at HX8
     have aat := HX8.f3.f3.f3
     have aau := (V.TR hne aat).Rw
     have hGJ := Ou (s := s) (u := l11) hG hne hg hS hp
     rw [← aee] at hGJ
     refine bM ?_
     refine dn (_) lG qG (by (try dsimp only); exact ⟨_, hGJ, aau.f3.right.f7.right.f6.f6.f6.f6.f6.f6⟩)
    ·(try simp only [Z] at h3)
     have VH := Xm.f9.f9
     have PZ := V.oP (v := nw) (es := es) (V.deep VH)
     have hnj : ¬ (on = true ∧ 0 < gs.length) := by first | omega | simp_all | (intro hx; simp_all; omega)
     refine aC (jG O O (dJ O (bD 39 aN O bH O (fZ aU O (PZ.f5).get.2 O (jv (jR (vs := [_]) PZ bg bH lH O O O (by decide) (aW (by first | rfl | exact Rd.one ((PZ).uJ)) bF)) ?_)))))
     rintro l22 w22 OY
     refine jv (fU OY.f3 bg EF O O O ((OY).aS) (aW (by first | rfl | exact Rd.one ((OY.f2).uJ)) bF) (by omega) (by omega)) ?_
     rintro l23 w23 IE
     have aef := IE.f2.right
     have aaO := aef.f4.f3.f3
     have aaP := (V.qM aaO).Ah.Rw
     have hGJ := Ig (s := s) (on := on) (u := nw) hG hS hp hnj
     refine fV O (bM ?_)
     refine dn (_) lG qG (by (try dsimp only); exact ⟨_, hGJ, aaP.f3.right.f6.f6.f6.f6.f6.f6⟩)
   ·(try simp only [Z] at h2)
    refine bJ (bJ (bJ (iL O O (iJ (qF ?_)))))
    have aeg := Xm.f9.f9
    have aaQ := V.oP (v := nw) (es := es) (V.deep aeg)
    have hnj : ¬ (on = true ∧ 0 < gs.length) := by first | omega | simp_all | (intro hx; simp_all; omega)
    refine aC (jG O O (dJ O (bD 39 aN O bH O (fZ aU O (aaQ.f5).get.2 O (jv (jR (vs := [_]) aaQ bg bH lH O O O (by decide) (aW (by first | rfl | exact Rd.one ((aaQ).uJ)) bF)) ?_)))))
    rintro l29 w29 Yg
    refine jv (fU Yg.f3 bg EF O O O ((Yg).aS) (aW (by first | rfl | exact Rd.one ((Yg.f2).uJ)) bF) (by omega) (by omega)) ?_
    rintro l30 w30 Vl
    have aeh := Vl.f2.right
    have aei := aeh.f4.f3.f3
    have aej := (V.qM aei).Ah.Rw
    have hGJ := Ig (s := s) (on := on) (u := nw) hG hS hp hnj
    refine fV O (bM ?_)
    refine dn (_) lG qG (by (try dsimp only); exact ⟨_, hGJ, aej.f3.right.f6.f6.f6.f6.f6.f6⟩)
end
theorem jQ.bad {s : dG} {es : List dQ} {A A' : List LE} {yf yt : Int} (h : jQ s es A yf yt) (hin : s.inn = true) (hA : _root_.Go.Proofs.YtpdeedplgmbopaaGreatDoor.Fa A' = s.was.un) (hP : uO s.hl A') : jQ s.xM [] A' yf yt :=
  ⟨Qb h.ok hin, ⟨(h.rx.2.1 hin).1, fun hi => absurd hi (by show ¬ false = true; decide), fun hi => absurd hi (by show ¬ false = true; decide)⟩, rfl, hA, hP, fun hi => absurd hi (by show ¬ false = true; decide)⟩
theorem uy (s : dG) : s.oM = { s with c := { s.c with un := (s.gG (s.typed && s.c.run)).c.un, run := s.typed && (!s.put.isEmpty || s.c.run), last := s.cls, fr := if s.cls = 2 then s.c.fr else 0, to := if s.cls = 2 then s.c.to else 0 }, given := if s.argues = true then s.given else false, minus := if s.argues = true then s.minus else false, arg := if s.argues = true then s.arg else -1, inn := false, put := [] } := by
  unfold dG.oM dG.jU dG.gG
  by_cases ha : s.argues = true
  · by_cases hp : s.put = []
    · by_cases hc : s.cls = 2
      · simp [ha, hp, hc, dG.zW]
      · simp [ha, hp, hc, dG.zW]
    · by_cases hc : s.cls = 2
      · simp [ha, hp, hc, dG.zW, dG.wE, dG.lg, dG.here]
      · simp [ha, hp, hc, dG.zW, dG.wE, dG.lg, dG.here]
  · by_cases hp : s.put = []
    · by_cases hc : s.cls = 2
      · simp [ha, hp, hc, dG.zW]
      · simp [ha, hp, hc, dG.zW]
    · by_cases hc : s.cls = 2
      · simp [ha, hp, hc, dG.zW, dG.wE, dG.lg, dG.here]
      · simp [ha, hp, hc, dG.zW, dG.wE, dG.lg, dG.here]
theorem jQ.good {s : dG} {es : List dQ} {A A' : List LE} {yf yt : Int} (h : jQ s es A yf yt) (hA : _root_.Go.Proofs.YtpdeedplgmbopaaGreatDoor.Fa A' = (s.gG (s.typed && s.c.run)).c.un) (hP : uO s.hl A') : jQ s.oM [] A' yf yt := by
  have hok : lT s.oM := by
    have h1 := TJ (sU h.ok) (s := s.jU) (by unfold dG.jU; split <;> exact h.rx.1) (s.typed && s.c.run)
    unfold dG.oM
    dsimp only
    split <;> exact h1
  have hx : DF (s.gG (s.typed && s.c.run)).c := (TK h.ok h.rx _).1
  rw [uy] at hok ⊢
  exact ⟨hok, ⟨⟨hx.1, h.rx.1.2⟩, fun hi => absurd hi (by show ¬ false = true; decide), fun hi => absurd hi (by show ¬ false = true; decide)⟩, rfl, hA, hP, fun hi => absurd hi (by show ¬ false = true; decide)⟩
section
variable {w0 w : World} {F : HP} {p y h : Nat} {s : dG} {x : Int}
theorem Ov (hin : s.inn = true) (hx : x ≠ 0) (H : V w0 w (oJ y s • F)) : gJ prog 64 #[.pointer (some ⟨y, 0, none⟩), .int .i64 x] w fun v w' => v = .int .i64 x ∧ V w0 w' (oJ y s.xM • F) := by
 refine nT func64 ntmps64 ?_
 refine jr O (aP (aP ?_))
 obtain ⟨Xl, IU, IV, IW, IX, TM, TN, A_y, TP, TQ, Om, Oo, Oq, IY, IZ, I4, I5, I7, I8, I9, Ja, Jb, Jc, Jd, Je, pz, Ci, uP⟩ := (H).Oi
 have HI := uP
 rw [hin] at HI
 obtain ⟨qb, qk, qw, qn, qp, qg, qA, hu, hqA, hqP, hu1, HW⟩ := (HI.f12).ad9
 simp only [Ep, List.cons.injEq, and_true] at hu
 obtain ⟨rfl, rfl, rfl, rfl, rfl, rfl, rfl, rfl, rfl, rfl, rfl, rfl⟩ := hu
 refine aC (nD O O (bD 32 aN O aO O (fZ bK O (HW.f8).get.2 O (aV (kT O) (iJ (Jp O (fun h1 => ?_)))))))
 (try simp only [Z] at h1)
 refine gq (bT O (dJ O (bD 32 aN O aO O (aH (kY 32 HW.f8 aO) ?_))))
 rintro _ w2 H2
 refine pK (bT O (aV (iU O O) (je O (fun h2 => ?_) (fun h => by exfalso; (try simp only [Z] at h); exact hx h))))
 (try simp only [Z] at h2)
 refine bT O (nD O O (bD 13 aN O dZ O (aV (nU 13 (xs := [_, _, _, _, _, _, _, _, _, _, _, _]) cZ O dZ O O (H2).get.2 O) (dJ O (bD 1 aN O dZ O (aH (bU 1 (l' := [_, _, _, _, _, _, _, _, _, _, _, _, _, _, _, _, _, _, _, _, _, _, _, _, _, _, _, _, _, _, _, _, _, _, _, _, _, _, _, _, _, _]) (us := [_, _, _, _, _, _, _, _, _, _, _, _]) H2 dZ O O O (aA (aA (aW (by first | rfl | exact Rd.one ((H2.f4).oH)) (aW (by first | rfl | exact Rd.one ((H2.f5).aS)) (aA (aA (aW (by first | rfl | exact Rd.one ((H2.f6).jy)) (aW (by first | rfl | exact Rd.one ((H2.f7).oH)) (aA (aA (aA (aA bF)))))))))))) O O) ?_))))))
 rintro _ w3 H3
 refine qR O (dJ O (bD 39 aN O bH O (aH (kY 39 H3 bH) ?_)))
 rintro _ w4 H4
 refine qR O (dJ O (bD 31 aN O sizeOf2 O (fZ underlying2 O (H4).get.2 O (aV (ZF O O) (dJ O (bD 31 aN O sizeOf2 O (aH (kY 31 H4 sizeOf2) ?_)))))))
 rintro _ w5 H5
 refine qR O (jG O O (dJ O (bD 25 aN O aO O (aH (kY 25 H5 aO) ?_))))
 rintro _ w6 H6
 refine dJ O (bD 26 aN O aO O (aH (kY 26 H6 aO) ?_))
 rintro _ w7 H7
 refine dJ O (bD 27 aN O aj O (aH (kY 27 H7 aj) ?_))
 rintro _ w8 H8
 refine qR O (jG O O (dJ O (bD 28 aN O aj O (aH (kY 28 H8 aj) ?_))))
 rintro _ w9 H9
 refine dJ O (bD 29 aN O aj O (aH (kY 29 H9 aj) ?_))
 rintro _ w10 ql
 refine dJ O (bD 30 aN O aj O (aH (kY 30 ql aj) ?_))
 rintro _ EH rF
 refine qR O (dJ O (bD 39 aN O bH O (aH (kY 39 rF bH) ?_)))
 rintro _ w12 uI
 refine qR O (fC O (aF (dH results64 O ?_)))
 exact ⟨O, V.RD (s := s.xM) (pz.bad hin hqA hqP) O uI.f9.right.f9.right.f9.right.f9.right.f9.right.f9.right.f9.right.f10.right.f10.right.f9.f9.f9.f9.f9.f9.f9.f9.f9 hu1⟩
theorem WX (s : dG) : s.typed = (decide (s.cls = 3) && s.whole) := by unfold dG.typed; congr 1
theorem empty_eq (l : List iT) : (!l.isEmpty) = decide ((l.length : Int) > 0) := by cases l with
  | nil => rfl
  | cons x r => simp
theorem Lp (hin : s.inn = true) (H : V w0 w (oJ y s • F)) : gJ prog 64 #[.pointer (some ⟨y, 0, none⟩), .int .i64 0] w fun v w' => v = .int .i64 0 ∧ V w0 w' (oJ y s.oM • F) := by
  obtain ⟨on, hon⟩ : ∃ on, on = (s.typed && s.c.run) := ⟨_, rfl⟩
  obtain ⟨rn, hrn⟩ : ∃ rn, rn = (s.typed && (!s.put.isEmpty || s.c.run)) := ⟨_, rfl⟩
  have Nr := hon
  have DK := hrn
  rw [WX] at Nr DK
  rw [empty_eq] at DK
  refine nT func64 ntmps64 ?_
  obtain ⟨Xl, IU, IV, IW, IX, TM, TN, A_y, TP, TQ, Om, Oo, Oq, IY, IZ, I4, I5, I7, I8, I9, Ja, Jb, Jc, Jd, Je, pz, Ci, uP⟩ := (H).Oi
  have HP9 := uP
  rw [← Ci] at HP9
  have WY := pz.Fa
  have hplA := pz.placed
  have Qy := pz.says
  have aaR := pz.ok
  have hxA := pz.rx.1
  have aaS : s.hl.length ≤ 4096 := by obtain ⟨hv9, hk9, _⟩ := (HP9.f9).Q7; exact hk9.1
  have hu1 := TI (HP9.f12)
  refine jr O (aP (bT O (dJ O (bD 32 aN O aO O (fZ bK O (HP9).get.2 O (aV (kT O) (je O (fun h => by exfalso; (try simp only [Z] at h); simp [hin] at h) (fun h1 => ?_))))))))
  (try simp only [Z] at h1)
  refine gq (bT O (dJ O (bD 32 aN O aO O (aH (kY 32 HP9 aO) ?_))))
  rintro _ w2 H2
  refine pK (bT O (aV (iU O O) (iJ (Jp O (fun h2 => ?_)))))
  (try simp only [Z] at h2)
  refine gq (bT O (dJ O (bD 33 aN O aj O (fZ aK O (H2).get.2 O (aV (dR O O) (gI O (bT O (dJ O (bD 39 aN O bH O (fZ aU O (H2).get.2 O (aV (jw ((H2.f10).aS) aU O) (aV (iV O O) (gI O ?_)))))))))))))
  refine kS [(0, _), (5, _), (6, _)] (fun (_ : Unit) => []) (fun (_ : Unit) W => ∃ pv2 gv2 A2 nw2, Fa A2 = (s.gG on).c.un ∧ uO s.hl A2 ∧ V w0 W (dL y (.cells (.pointer (some ⟨Xl, 0, none⟩) :: .pointer (some ⟨IU, 0, none⟩) :: .pointer (some ⟨IV, 0, none⟩) :: IW :: IX :: .int .i64 s.c.place :: .string (jl s.hl s.c.tx s.c.place) :: pv2 :: gv2 :: .int .i64 s.c.mode :: .bool s.c.over :: .int .i64 s.c.res :: .bool s.c.run :: IY :: IZ :: I4 :: I5 :: I7 :: I8 :: I9 :: Ja :: Jb :: Jc :: Jd :: Je :: .bool s.given :: .bool s.minus :: .int .i64 s.arg :: .int .i64 s.zu :: .int .i64 s.TY :: .int .i64 s.Ua :: .int .i64 s.qO :: .bool false :: .int .i64 s.cls :: .int .i64 Om :: .int .i64 Oo :: .bool s.argues :: .bool s.killed :: .bool s.lI :: nw2 :: .bool s.whole :: .bool Oq :: []).toArray 174 (0, 0)) • mP .i64 pv2 (A2.map (·.1)) • uD 1 gv2 A2.length (A2.map (·.2.1)) • qj A2 • Row 189 3 nw2 0 [] • kK [] • nS IU s.c.L s.c.pt s.c.mark • mg IV s.c.E s.c.at_ • uD 1 IW (s.hl.length + 1) (strs (nP s.hl)) • Row 9 1 IX (s.hl.length + 1) (strs (uw s.hl s.c.tx)) • iY Xl s.hl s.base s.most • AZ s.inn s.hl s.was [IY, IZ, I4, I5, I7, I8, I9, Ja, Jb, Jc, Jd, Je] • F)) uH ?_ ?_
  · rintro _ w3 ⟨pv2, gv2, A2, nw2, hl2, hp2, HJ⟩
    dsimp only [List.cons_append, List.nil_append]
    refine kS [(0, _)] (fun (_ : Unit) => []) (fun (_ : Unit) W => V w0 W (dL y (.cells (.pointer (some ⟨Xl, 0, none⟩) :: .pointer (some ⟨IU, 0, none⟩) :: .pointer (some ⟨IV, 0, none⟩) :: IW :: IX :: .int .i64 s.c.place :: .string (jl s.hl s.c.tx s.c.place) :: pv2 :: gv2 :: .int .i64 s.c.mode :: .bool s.c.over :: .int .i64 s.c.res :: .bool rn :: IY :: IZ :: I4 :: I5 :: I7 :: I8 :: I9 :: Ja :: Jb :: Jc :: Jd :: Je :: .bool s.given :: .bool s.minus :: .int .i64 s.arg :: .int .i64 s.zu :: .int .i64 s.TY :: .int .i64 s.Ua :: .int .i64 s.qO :: .bool false :: .int .i64 s.cls :: .int .i64 Om :: .int .i64 Oo :: .bool s.argues :: .bool s.killed :: .bool s.lI :: nw2 :: .bool s.whole :: .bool Oq :: []).toArray 174 (0, 0)) • mP .i64 pv2 (A2.map (·.1)) • uD 1 gv2 A2.length (A2.map (·.2.1)) • qj A2 • Row 189 3 nw2 0 [] • kK [] • nS IU s.c.L s.c.pt s.c.mark • mg IV s.c.E s.c.at_ • uD 1 IW (s.hl.length + 1) (strs (nP s.hl)) • Row 9 1 IX (s.hl.length + 1) (strs (uw s.hl s.c.tx)) • iY Xl s.hl s.base s.most • AZ s.inn s.hl s.was [IY, IZ, I4, I5, I7, I8, I9, Ja, Jb, Jc, Jd, Je] • F)) lG ?_ ?_
    · rintro _ w4 HJ2
      dsimp only [List.cons_append, List.nil_append]
      refine bT O (jG O O (nD O O (bD 33 aN O aj O (fZ aK O (HJ2).get.2 O (dJ O (bD 28 aN O aj O (aH (kY 28 HJ2 aj) ?_)))))))
      rintro _ w5 H5
      refine dJ O (bD 29 aN O aj O (aH (kY 29 H5 aj) ?_))
      rintro _ w6 H6
      refine dJ O (bD 30 aN O aj O (aH (kY 30 H6 aj) ?_))
      rintro _ w7 H7
      refine pK (bT O (dJ O (bD 33 aN O aj O (fZ aK O (H7).get.2 O (aV (dR O O) (je O (fun h3 => ?_) (fun h3 => ?_)))))))
      · (try simp only [Z] at h3)
        have hcT : s.cls = 2 := h3
        obtain ⟨rfl, rfl⟩ := pz.WT hin (pz.rx.2.2 hin hcT)
        have Zr := H7.drew
        have sW := V.kp (Zr.f12.f12.f12.f12.f12.f12.f12.f12.f12.f12.f12.f12)
        refine yw [5, 9] sW O (jB 0 O sW O (jB 1 O sW O (jB 2 O sW O (kJ 3 O sW O (gU 4 O sW 34 aN O aj O (jT 5 O sW (fun W hW => kC aK O ((Kp.h hW)).get.2 O) (jB 6 O sW O (kJ 7 O sW O (gU 8 O sW 35 aN O aj O (jT 9 O sW (fun W hW => kC aK O ((Kp.h hW)).get.2 O) (kJ 10 O sW O (gU 11 O sW 29 aN O aj O ?_))))))))))))
        refine fO 12 O (by kernel_rfl) (kY 29 Zr aj) ?_
        rintro _ w8 H8
        have Pe := V.kp (H8.f12.f12.f12.f12.f12.f12.f12.f12.f12.f12.f12.f12)
        refine gV Pe (by kernel_rfl) ?_
        refine kJ 13 O Pe O (gU 14 O Pe 30 aN O aj O ?_)
        refine fO 15 O (by kernel_rfl) (kY 30 H8 aj) ?_
        rintro _ w9 H9
        have Pg := V.kp (H9.f12.f12.f12.f12.f12.f12.f12.f12.f12.f12.f12.f12)
        refine gV Pg (by kernel_rfl) ?_
        refine qU (aX (aP (bT O (dJ O (bD 36 aN O aO O (fZ bK O (H9).get.2 O (aV (kT O) (je O (fun h4 => ?_) (fun h4 => ?_)))))))))
        · (try simp only [Z] at h4)
          have haF : ¬ s.argues = true := by simp_all
          refine aC (jG O O (nD O O (bD 25 aN O aO O (aH (kY 25 H9 aO) ?_))))
          rintro _ w10 ql
          refine dJ O (bD 26 aN O aO O (aH (kY 26 ql aO) ?_))
          rintro _ EH rF
          refine dJ O (bD 27 aN O aj O (aH (kY 27 rF aj) ?_))
          rintro _ w12 uI
          refine iJ (jL O (dH results64 O ?_))
          refine ⟨O, ?_⟩
          rw [hon] at hl2
          have hG := pz.good hl2 hp2
          rw [uy] at hG ⊢
          have HX := uI.f12.right.f6.f6.f11.f7.f7.f7.f11.f11.f11.f11.f11
          have Ti := HX.DI (hl := s.hl) (c := s.was) hu1
          have HX3 := Ti.f12.f12.f12.f12.f12.f12.f12.f12.f12.f12.f12
          first | simp only [if_pos hcT] at hG ⊢ | simp only [if_neg hcF] at hG ⊢
          first | simp only [if_pos haT] at hG ⊢ | simp only [if_neg haF] at hG ⊢
          rw [← hrn] at hG ⊢
          exact V.rM hG HX3
        · (try simp only [Z] at h4)
          have haT : s.argues = true := by simp_all
          refine gq (jL O (dH results64 O ?_))
          refine ⟨O, ?_⟩
          rw [hon] at hl2
          have hG := pz.good hl2 hp2
          rw [uy] at hG ⊢
          have HX := H9.f12.right.f6.f6.f11.f7.f7.f7.f11.f11.f11.f11.f11
          have Ti := HX.DI (hl := s.hl) (c := s.was) hu1
          have HX3 := Ti.f12.f12.f12.f12.f12.f12.f12.f12.f12.f12.f12
          first | simp only [if_pos hcT] at hG ⊢ | simp only [if_neg hcF] at hG ⊢
          first | simp only [if_pos haT] at hG ⊢ | simp only [if_neg haF] at hG ⊢
          rw [← hrn] at hG ⊢
          exact V.rM hG HX3
      · (try simp only [Z] at h3)
        have hcF : ¬ s.cls = 2 := h3
        refine gq (aP (bT O (dJ O (bD 36 aN O aO O (fZ bK O (H7).get.2 O (aV (kT O) (je O (fun h5 => ?_) (fun h5 => ?_))))))))
        · (try simp only [Z] at h5)
          have haF : ¬ s.argues = true := by simp_all
          refine aC (jG O O (nD O O (bD 25 aN O aO O (aH (kY 25 H7 aO) ?_))))
          rintro _ Pj xk
          refine dJ O (bD 26 aN O aO O (aH (kY 26 xk aO) ?_))
          rintro _ RZ Ar
          refine dJ O (bD 27 aN O aj O (aH (kY 27 Ar aj) ?_))
          rintro _ Sz yT
          refine iJ (jL O (dH results64 O ?_))
          refine ⟨O, ?_⟩
          rw [hon] at hl2
          have hG := pz.good hl2 hp2
          rw [uy] at hG ⊢
          have HX := yT.f12.right.f6.f6.f11.f7.f7.f7.f11.f11.f11.f11.f11
          have Ti := HX.DI (hl := s.hl) (c := s.was) hu1
          have HX3 := Ti.f12.f12.f12.f12.f12.f12.f12.f12.f12.f12.f12
          first | simp only [if_pos hcT] at hG ⊢ | simp only [if_neg hcF] at hG ⊢
          first | simp only [if_pos haT] at hG ⊢ | simp only [if_neg haF] at hG ⊢
          rw [← hrn] at hG ⊢
          exact V.rM hG HX3
        · (try simp only [Z] at h5)
          have haT : s.argues = true := by simp_all
          refine gq (jL O (dH results64 O ?_))
          refine ⟨O, ?_⟩
          rw [hon] at hl2
          have hG := pz.good hl2 hp2
          rw [uy] at hG ⊢
          have HX := H7.f12.right.f6.f6.f11.f7.f7.f7.f11.f11.f11.f11.f11
          have Ti := HX.DI (hl := s.hl) (c := s.was) hu1
          have HX3 := Ti.f12.f12.f12.f12.f12.f12.f12.f12.f12.f12.f12
          first | simp only [if_pos hcT] at hG ⊢ | simp only [if_neg hcF] at hG ⊢
          first | simp only [if_pos haT] at hG ⊢ | simp only [if_neg haF] at hG ⊢
          rw [← hrn] at hG ⊢
          exact V.rM hG HX3
    · skip
      refine aC (jG O O (jF O (fun h6 => ?_) (fun h6 => ?_)))
      · (try simp only [Z] at h6)
        refine bC (bP O (bC (dJ O (bC (bD 40 aN O aO O (bC (fZ bK O (HJ).get.2 O (jE O O (jF O (fun h7 => ?_) (fun h7 => ?_))))))))))
        · (try simp only [Z] at h7)
          refine bC (bP O (bC (jF O (fun h8 => ?_) (fun h8 => ?_))))
          · (try simp only [Z] at h8)
            refine bJ (bJ (bJ (bJ (bJ (bC (jE O O (jE O O (dJ O (bD 1 aN O dZ O (bD 11 cZ O aO O (aH (kY 12 HJ aO) ?_)))))))))))
            rintro _ w16 yO
            refine bM ?_
            refine dn (()) ?_ ?_ ?_
            · exact (Sub.nil _)
            · exact lG
            · (try dsimp only)
              first | done | exact (by first | (rw [show rn = true from by rw [DK]; simp_all; done]; exact yO.f12.f12.f12.f12.f12.f12.f12.f12.f12.f12.f12.f12) | (rw [show rn = false from by rw [DK]; simp_all; done]; exact yO.f12.f12.f12.f12.f12.f12.f12.f12.f12.f12.f12.f12) | (rw [show rn = s.c.run from by rw [DK]; simp_all; done]; exact yO.f12.f12.f12.f12.f12.f12.f12.f12.f12.f12.f12.f12))
          · (try simp only [Z] at h8)
            refine bC (bP O (bC (dJ O (bC (bD 1 aN O dZ O (bC (bD 11 cZ O aO O (bC (fZ bK O (HJ).get.2 O (bC (iL O O (jE O O (dJ O (bD 1 aN O dZ O (bD 11 cZ O aO O (aH (kY 12 HJ aO) ?_))))))))))))))))
            rintro _ Za Io
            refine bM ?_
            refine dn (()) ?_ ?_ ?_
            · exact (Sub.nil _)
            · exact lG
            · (try dsimp only)
              first | done | exact (by first | (rw [show rn = true from by rw [DK]; simp_all; done]; exact Io.f12.f12.f12.f12.f12.f12.f12.f12.f12.f12.f12.f12) | (rw [show rn = false from by rw [DK]; simp_all; done]; exact Io.f12.f12.f12.f12.f12.f12.f12.f12.f12.f12.f12.f12) | (rw [show rn = s.c.run from by rw [DK]; simp_all; done]; exact Io.f12.f12.f12.f12.f12.f12.f12.f12.f12.f12.f12.f12))
        · (try simp only [Z] at h7)
          refine bJ (bJ (mW (mW (mW (mW (mW (bJ (iL O O (dJ O (bD 1 aN O dZ O (bD 11 cZ O aO O (aH (kY 12 HJ aO) ?_))))))))))))
          rintro _ XF CV
          refine bM ?_
          refine dn (()) ?_ ?_ ?_
          · exact (Sub.nil _)
          · exact lG
          · (try dsimp only)
            first | done | exact (by first | (rw [show rn = true from by rw [DK]; simp_all; done]; exact CV.f12.f12.f12.f12.f12.f12.f12.f12.f12.f12.f12.f12) | (rw [show rn = false from by rw [DK]; simp_all; done]; exact CV.f12.f12.f12.f12.f12.f12.f12.f12.f12.f12.f12.f12) | (rw [show rn = s.c.run from by rw [DK]; simp_all; done]; exact CV.f12.f12.f12.f12.f12.f12.f12.f12.f12.f12.f12.f12))
      · (try simp only [Z] at h6)
        refine bJ (bJ (bJ (bJ (iL O O (bP O (bJ (bJ (mW (mW (mW (mW (mW (bJ (iL O O (dJ O (bD 1 aN O dZ O (bD 11 cZ O aO O (aH (kY 12 HJ aO) ?_))))))))))))))))))
        rintro _ w19 D8
        refine bM ?_
        refine dn (()) ?_ ?_ ?_
        · exact (Sub.nil _)
        · exact lG
        · (try dsimp only)
          first | done | exact (by first | (rw [show rn = true from by rw [DK]; simp_all; done]; exact D8.f12.f12.f12.f12.f12.f12.f12.f12.f12.f12.f12.f12) | (rw [show rn = false from by rw [DK]; simp_all; done]; exact D8.f12.f12.f12.f12.f12.f12.f12.f12.f12.f12.f12.f12) | (rw [show rn = s.c.run from by rw [DK]; simp_all; done]; exact D8.f12.f12.f12.f12.f12.f12.f12.f12.f12.f12.f12.f12))
  · skip
    refine aC (jG O O (jF O (fun h9 => ?_) (fun h9 => ?_)))
    · (try simp only [Z] at h9)
      refine bC (bP O (bC (dJ O (bC (bD 40 aN O aO O (bC (fZ bK O (H2).get.2 O (jE O O (jF O (fun h10 => ?_) (fun h10 => ?_))))))))))
      · (try simp only [Z] at h10)
        refine bC (bP O (bC (dJ O (bC (bD 1 aN O dZ O (bC (bD 11 cZ O aO O (bC (fZ bK O (H2).get.2 O (jE O O (dY O func116 (zh WY hplA Qy aaR hxA aaS H2.f11.f11.f10.f10.f10.f6) ?_)))))))))))
        rintro _ w20 ⟨afo, afp, A20, afq, aaT, acK, OX⟩
        have Ai := aaT
        have WZ := acK
        first
          | rw [show s.c.run = on from by rw [Nr]; simp_all] at Ai
          | rw [show false = on from by rw [Nr]; simp_all] at Ai
        refine bM ?_
        refine dn (()) ?_ ?_ ?_
        · exact (Sub.nil _)
        · exact uH
        · (try dsimp only)
          first | done | exact ⟨_, _, _, _, Ai, WZ, OX.f12.f12.f12.f12.f12.f12.f12.f12.f12.f12.f12.f12⟩
      · (try simp only [Z] at h10)
        refine bJ (bJ (bJ (bJ (bJ (iL O O (dY O func116 (zh WY hplA Qy aaR hxA aaS H2.f11.f11.f10.f10.f10.f6) ?_))))))
        rintro _ w21 ⟨afr, afs, A21, afu, aaU, acL, IC⟩
        have Ai := aaU
        have WZ := acL
        first
          | rw [show s.c.run = on from by rw [Nr]; simp_all] at Ai
          | rw [show false = on from by rw [Nr]; simp_all] at Ai
        refine bM ?_
        refine dn (()) ?_ ?_ ?_
        · exact (Sub.nil _)
        · exact uH
        · (try dsimp only)
          first | done | exact ⟨_, _, _, _, Ai, WZ, IC.f12.f12.f12.f12.f12.f12.f12.f12.f12.f12.f12.f12⟩
    · (try simp only [Z] at h9)
      refine bJ (bJ (bJ (bJ (iL O O (bP O (bJ (bJ (bJ (bJ (bJ (iL O O (dY O func116 (zh WY hplA Qy aaR hxA aaS H2.f11.f11.f10.f10.f10.f6) ?_))))))))))))
      rintro _ w22 ⟨afv, afw, A22, afx, aaV, acM, OY⟩
      have Ai := aaV
      have WZ := acM
      first
        | rw [show s.c.run = on from by rw [Nr]; simp_all] at Ai
        | rw [show false = on from by rw [Nr]; simp_all] at Ai
      refine bM ?_
      refine dn (()) ?_ ?_ ?_
      · exact (Sub.nil _)
      · exact uH
      · (try dsimp only)
        first | done | exact ⟨_, _, _, _, Ai, WZ, OY.f12.f12.f12.f12.f12.f12.f12.f12.f12.f12.f12.f12⟩
theorem Ox (H : V w0 w (oJ y s • F)) : gJ prog 64 #[.pointer (some ⟨y, 0, none⟩), .int .i64 x] w fun v w' => v = .int .i64 (s.zU x) ∧ V w0 w' (oJ y (s.BK x) • F) := by
 by_cases hin : s.inn = true
 ·by_cases hx : x = 0
  ·subst hx
   rw [show s.BK 0 = s.oM from by unfold dG.BK; rw [if_pos hin, if_pos rfl], show s.zU 0 = 0 from by unfold dG.zU; rw [if_pos hin]]
   exact Lp hin H
  ·rw [(AL hin hx).1, (AL hin hx).2]
   exact Ov hin hx H
 ·have hin' : s.inn = false := by simpa using hin
  rw [show s.BK x = s from by unfold dG.BK; rw [if_neg hin], show s.zU x = 1 from by unfold dG.zU; rw [if_neg hin]]
  refine nT func64 ntmps64 ?_
  refine jr O (aP (aP ?_))
  obtain ⟨Xl, IU, IV, IW, IX, TM, TN, A_y, TP, TQ, Om, Oo, Oq, IY, IZ, I4, I5, I7, I8, I9, Ja, Jb, Jc, Jd, Je, pz, Ci, uP⟩ := (H).Oi
  refine aC (nD O O (bD 32 aN O aO O (fZ bK O (uP).get.2 O (aV (kT O) (je O (fun h1 => ?_) (fun h => by exfalso; (try simp only [Z] at h); simp [hin'] at h))))))
  (try simp only [Z] at h1)
  refine jL O (aF (dH results64 O ?_))
  have SC := uP.f12.f12.f12.f12.f12.f12.f12.f12.f12.f12.f12.f12
  have QK := V.rM (s := s) pz SC
  exact ⟨O, QK⟩
end
theorem Oy (hl : List pR) : jl hl (fun _ => none) (hl.length : Int) = .empty := by
  unfold jl yX MO
  rw [if_neg (by omega)]; rfl
section
variable {w0 w : World} {F : HP} {y h : Nat} {s : dG} {hl : List pR} {base most : Int} {l : List Int} {v : Value}
set_option maxHeartbeats 1000000 in
theorem DL {x0 x1 x2 x3 x4 x5 x6 x7 x8 x9 x10 x11 x12 uS x14 x15 x16 x17 x18 x19 x20 x21 vJ x23 x24 x25 wz x27 x28 x29 x30 x31 wZ x34 LW LX LY x38 x39 x40 x41 : Value} {b : Bool} (hb : b = false) (H : V w0 w (dL y (.cells (x0 :: x1 :: x2 :: x3 :: x4 :: x5 :: x6 :: x7 :: x8 :: x9 :: x10 :: x11 :: x12 :: uS :: x14 :: x15 :: x16 :: x17 :: x18 :: x19 :: x20 :: x21 :: vJ :: x23 :: x24 :: x25 :: wz :: x27 :: x28 :: x29 :: x30 :: x31 :: .bool b :: wZ :: x34 :: LW :: LX :: LY :: x38 :: x39 :: x40 :: x41 :: []).toArray 174 (0, 0)) • iY h hl base most • F)) (hr : jq w0 F .i32 v l) (hshort : l.length ≤ 1024) : gJ prog 60 #[.pointer (some ⟨y, 0, none⟩), .pointer (some ⟨h, 0, none⟩), v] w fun v' w' => v' = .int .i64 0 ∧ ∃ ph pb wv nv,
    V w0 w' (dL y (.cells (.pointer (some ⟨ph, 0, none⟩) :: .pointer (some ⟨pb, 0, none⟩) :: x2 :: wv :: nv :: .int .i64 hl.length :: .string .empty :: .slice none 0 0 :: .slice none 0 0 :: x9 :: .bool false :: .int .i64 0 :: .bool false :: uS :: x14 :: x15 :: x16 :: x17 :: x18 :: x19 :: x20 :: x21 :: vJ :: x23 :: x24 :: .bool false :: .bool false :: .int .i64 (-1) :: .int .i64 0 :: .int .i64 0 :: .int .i64 0 :: x31 :: .bool b :: wZ :: x34 :: LW :: LX :: LY :: x38 :: x39 :: x40 :: x41 :: []).toArray 174 (0, 0)) •
      nS pb l l.length (-1) • uD 1 wv (hl.length + 1) (strs (nP hl)) • Row 9 1 nv (hl.length + 1) (strs (uw hl (fun _ => none))) • iY ph hl base most • iY h hl base most • F) := by
  refine CQ func60 ntmps60 ?_
  refine jr O (aP (bT O (aV (iR pF O O) (iJ (Jp O (fun h1 => ?_))))))
  (try simp only [Z] at h1)
  refine gq (aP (bT O (dJ O (bD 32 aN O aO O (fZ bK O (H).get.2 O (je O (fun h => by exfalso; (try simp only [Z] at h); simp [hb] at h) (fun h2 => ?_)))))))
  (try simp only [Z] at h2)
  refine gq (bT O (dY O func112 (Oh H (fun W HW => hr _ (HW.right.right)) hshort) ?_))
  rintro _ w1 ⟨p1, rfl, H1⟩
  refine bP O (qQ O O (qQ O O (fV O (wu O (bT O (aV (iU O O) (iJ (Jp O (fun h3 => ?_)))))))))
  (try simp only [Z] at h3)
  refine gq (bT O (bP O (dY O func113 (E5 H1.f3) ?_)))
  rintro _ w2 ⟨q2, rfl, H2⟩
  refine dJ O (bD 0 aN O sizeOf104 O (aH (kY 0 H2.f4 sizeOf104) ?_))
  rintro _ w3 H3
  refine qR O (nD O O (bD 1 aN O dZ O (bD 0 cZ O sizeOf163 O (aH (kY 1 H3 sizeOf163) ?_))))
  rintro _ w4 H4
  refine qR O (nD O O (bD 0 aN O sizeOf104 O (fZ pF O (H4).get.2 O (dY O func114 (IK H4.f2) ?_))))
  rintro _ w5 ⟨q5, ov5, nv5, rfl, H5⟩
  refine dJ O (aV (eY fM O ny O O (H5).get.2) (dJ O (bD 1 aN O dZ O (bD 2 cZ O ny O (aH (bU 3 (l' := [_, _, _, _, _, _, _, _, _, _, _, _, _, _, _, _, _, _, _, _, _, _, _, _, _, _, _, _, _, _, _, _, _, _, _, _, _, _, _, _, _, _]) (us := [_, _, _]) H5.f5 ny O O O (aW (by first | rfl | exact Rd.one ((H5.f2).aS)) (aW (by first | rfl | exact Rd.one ((H5.f3).aS)) (aA bF))) O O) ?_)))))
  rintro _ w6 H6
  refine qR O (dJ O (bD 1 aN O dZ O (bD 5 cZ O oD O (aH (kY 6 H6 oD) ?_))))
  rintro _ w7 H7
  refine qR O (aV (dS (zl := [.slice none 0 0, .slice none 0 0]) (pl := [(0, 1), (1, 1)]) [_, _] jo zeroValue170 O (fun w => by kernel_rfl) O (.zero (zs := [.slice none 0 0]) O (.zero (zs := [.slice none 0 0]) O .nil)) O) (dJ O (bD 1 aN O dZ O (bD 6 cZ O sizeOf170 O (aH (bU 7 (l' := [_, _, _, _, _, _, _, _, _, _, _, _, _, _, _, _, _, _, _, _, _, _, _, _, _, _, _, _, _, _, _, _, _, _, _, _, _, _, _, _, _, _]) (us := [_, _]) H7 sizeOf170 O O O (aA (aA bF)) O O) ?_)))))
  rintro _ w8 H8
  refine qR O (jG O O (dJ O (bD 1 aN O dZ O (bD 9 cZ O aO O (aH (kY 10 H8 aO) ?_)))))
  rintro _ w9 H9
  refine dJ O (bD 1 aN O dZ O (bD 10 cZ O aj O (aH (kY 11 H9 aj) ?_)))
  rintro _ w10 ql
  refine dJ O (bD 1 aN O dZ O (bD 11 cZ O aO O (aH (kY 12 ql aO) ?_)))
  rintro _ EH rF
  refine qR O (jG O O (dJ O (bD 25 aN O aO O (aH (kY 25 rF aO) ?_))))
  rintro _ w12 uI
  refine dJ O (bD 26 aN O aO O (aH (kY 26 uI aO) ?_))
  rintro _ Pj xk
  refine dJ O (bD 27 aN O aj O (aH (kY 27 xk aj) ?_))
  rintro _ RZ Ar
  refine qR O (jG O O (dJ O (bD 28 aN O aj O (aH (kY 28 Ar aj) ?_))))
  rintro _ Sz yT
  refine dJ O (bD 29 aN O aj O (aH (kY 29 yT aj) ?_))
  rintro _ w16 yO
  refine dJ O (bD 30 aN O aj O (aH (kY 30 yO aj) ?_))
  rintro _ Za Io
  refine iJ (jL O (dH results60 O ?_))
  have HQ := (Io.f2.right.f5.f5.f5.f6.f5.f6).En
  rw [AP, ← Ib] at HQ
  exact ⟨O, _, _, _, _, by rw [← Ib]; exact HQ.f2.f3.f2⟩
theorem aaW (hl : List pR) (base most : Int) : jQ (dG.new hl base most) [] [] 0 0 :=
  ⟨KP hl base most, ⟨⟨fun k => ⟨by show iE [] [] ≤ 16384; decide, by show ∀ g ∈ [], _; simp⟩, by show (0 : Nat) ≤ 60; decide, .inr rfl, by show ∀ e ∈ [], _; simp⟩, fun hi => absurd hi (by show ¬ false = true; decide), fun hi => absurd hi (by show ¬ false = true; decide)⟩, rfl, rfl, ⟨List.nodup_nil, by simp⟩, fun hi => absurd hi (by show ¬ false = true; decide)⟩
theorem Oz (H : V w0 w (iY h hl base most • F)) : gJ prog 58 #[.pointer (some ⟨h, 0, none⟩)] w fun v' w' => ∃ y, v' = .tuple #[.pointer (some ⟨y, 0, none⟩), .int .i64 0] ∧ V w0 w' (oJ y (dG.new hl base most) • iY h hl base most • F) := by
  refine iG func58 ntmps58 ?_
  refine iH (fV O (wu O (bT O (aV (iR pF O O) (iJ (Jp O (fun h1 => ?_)))))))
  (try simp only [Z] at h1)
  refine gq (iH (aV (dS (zl := [.pointer none, .pointer none, .pointer none, .slice none 0 0, .slice none 0 0, .int .i64 0, .string .empty, .slice none 0 0, .slice none 0 0, .int .i64 0, .bool false, .int .i64 0, .bool false, .pointer none, .pointer none, .slice none 0 0, .slice none 0 0, .int .i64 0, .string .empty, .slice none 0 0, .slice none 0 0, .int .i64 0, .bool false, .int .i64 0, .bool false, .bool false, .bool false, .int .i64 0, .int .i64 0, .int .i64 0, .int .i64 0, .int .i64 0, .bool false, .int .i64 0, .int .i64 0, .int .i64 0, .bool false, .bool false, .bool false, .slice none 0 0, .bool false, .bool false]) (pl := [(0, 1), (1, 12), (13, 12), (25, 1), (26, 1), (27, 1), (28, 1), (29, 1), (30, 1), (31, 1), (32, 1), (33, 1), (34, 1), (35, 1), (36, 1), (37, 1), (38, 1), (39, 1), (40, 1), (41, 1)]) [_, _, _, _, _, _, _, _, _, _, _, _, _, _, _, _, _, _, _, _, _, _, _, _, _, _, _, _, _, _, _, _, _, _, _, _, _, _, _, _, _, _] aN zeroValue174 O (fun w => by kernel_rfl) O (.zero (zs := [.pointer none]) O (.zero (zs := [.pointer none, .pointer none, .slice none 0 0, .slice none 0 0, .int .i64 0, .string .empty, .slice none 0 0, .slice none 0 0, .int .i64 0, .bool false, .int .i64 0, .bool false]) O (.zero (zs := [.pointer none, .pointer none, .slice none 0 0, .slice none 0 0, .int .i64 0, .string .empty, .slice none 0 0, .slice none 0 0, .int .i64 0, .bool false, .int .i64 0, .bool false]) O (.zero (zs := [.bool false]) O (.zero (zs := [.bool false]) O (.zero (zs := [.int .i64 0]) O (.zero (zs := [.int .i64 0]) O (.zero (zs := [.int .i64 0]) O (.zero (zs := [.int .i64 0]) O (.zero (zs := [.int .i64 0]) O (.zero (zs := [.bool false]) O (.zero (zs := [.int .i64 0]) O (.zero (zs := [.int .i64 0]) O (.zero (zs := [.int .i64 0]) O (.zero (zs := [.bool false]) O (.zero (zs := [.bool false]) O (.zero (zs := [.bool false]) O (.zero (zs := [.slice none 0 0]) O (.zero (zs := [.bool false]) O (.zero (zs := [.bool false]) O .nil)))))))))))))))))))) O) (jv (iM (l := [_, _, _, _, _, _, _, _, _, _, _, _, _, _, _, _, _, _, _, _, _, _, _, _, _, _, _, _, _, _, _, _, _, _, _, _, _, _, _, _, _, _]) H O O) ?_)))
  rintro _ w1 ⟨b1, rfl, H1⟩
  refine gI O (bT O (aV (dS (zl := [.slice none 0 0, .int .i64 0]) (pl := [(0, 1), (1, 1)]) [_, _] underlying176 zeroValue176 O (fun w => by kernel_rfl) O (.zero (zs := [.slice none 0 0]) O (.zero (zs := [.int .i64 0]) O .nil)) O) (jv (iM (l := [_, _]) H1 O O) ?_)))
  rintro _ w2 ⟨b2, rfl, H2⟩
  refine dJ O (bD 1 aN O dZ O (bD 1 cZ O sizeOf164 O (aH (kY 2 H2.f2 sizeOf164) ?_)))
  rintro _ w3 H3
  refine qR O (bP O (dY O func60 (DL (l := []) O H3.f2.f3.f3 (fun W _ => fB.nil W _ none 0 (by decide)) (by decide)) ?_))
  rintro _ w4 ⟨rfl, ph, pb, wv, nv, H4⟩
  refine qR O (fV O (fC O (LC results58 O O ?_)))
  have HR := ((H4.f6.f6.f6.f6.f6.f6.f7).Me (k := .i32)).iO (e := 22) (sz := 1) none
  have HR2 := (V.HY (E := []) (place := 0) (HR.YZ (ls := [])).swap)
  have HR3 := ((HR2.Oe.Qu (sz := 1) none).Og (k := .i64) none)
  have hT := Oy hl
  refine ⟨_, O, V.RD (s := dG.new hl base most) (h := ph) (pb := pb) (pk := b2) (wv := wv) (nv := nv) (pv := .slice none 0 0) (gv := .slice none 0 0) (ch := false) (u0 := .pointer none) (u1 := .pointer none) (u2 := .slice none 0 0) (u3 := .slice none 0 0) (u4 := .int .i64 0) (u5 := .string .empty) (u6 := .slice none 0 0) (u7 := .slice none 0 0) (u8 := .int .i64 0) (u9 := .bool false) (ua := .int .i64 0) (ub := .bool false) (aaW hl base most) O ?_ ?_⟩
  · show V w0 _ (dL _ (.cells (_ :: _ :: _ :: _ :: _ :: _ :: .string (jl hl (fun _ => none) (hl.length : Int)) :: _).toArray _ (0, 0)) • _)
    rw [hT]
    exact HR3.f10.f10.f5.f5.f5.f10.f10.f8.f10.f10
  · rfl
theorem W9 {es : List dQ} {A : List LE} {yf yt : Int} (h : jQ s es A yf yt) (hi : s.inn = false) (hl : List pR) (base most : Int) (l : List Int) : jQ (s.start hl base most l) es [] yf yt :=
  ⟨Oj h.ok hi _ _ _ _, ⟨⟨fun k => ⟨by show iE [] [] ≤ 16384; decide, by show ∀ g ∈ [], _; simp⟩, h.rx.1.2⟩, fun h2 => absurd (show s.inn = true from h2) (by rw [hi]; decide), fun h2 => absurd (show s.inn = true from h2) (by rw [hi]; decide)⟩, h.says, rfl, ⟨List.nodup_nil, by simp⟩, fun h2 => absurd (show s.inn = true from h2) (by rw [hi]; decide)⟩
theorem Jg (H : V w0 w (oJ y s • iY h hl base most • F)) (hr : jq w0 F .i32 v l) : gJ prog 60 #[.pointer (some ⟨y, 0, none⟩), .pointer (some ⟨h, 0, none⟩), v] w fun v' w' =>
  v' = .int .i64 (s.qK l) ∧ V w0 w' (oJ y (s.Ce hl base most l) • iY h hl base most • F) := by
 by_cases hin : s.inn = true
 ·have hE : s.qK l = 1 := by unfold dG.qK; rw [if_pos hin]
  unfold dG.Ce
  rw [if_neg (by rw [hE]; decide), hE]
  refine CQ func60 ntmps60 ?_
  refine jr O (aP (bT O (aV (iR pF O O) (iJ (Jp O (fun h1 => ?_))))))
  (try simp only [Z] at h1)
  refine gq (aP (aP ?_))
  obtain ⟨Xl, IU, IV, IW, IX, TM, TN, A_y, TP, TQ, Om, Oo, Oq, IY, IZ, I4, I5, I7, I8, I9, Ja, Jb, Jc, Jd, Je, pz, Ci, uP⟩ := (H).Oi
  refine aC (nD O O (bD 32 aN O aO O (fZ bK O (uP).get.2 O (je O (fun h2 => ?_) (fun h => by exfalso; (try simp only [Z] at h); simp [hin] at h)))))
  (try simp only [Z] at h2)
  refine jL O (aF (dH results60 O ?_))
  have SC := uP.f12.f12.f12.f12.f12.f12.f12.f12.f12.f12.f12.f12
  have QK := V.rM (s := s) pz SC
  exact ⟨O, QK.f2.f2⟩
 ·have hi : s.inn = false := by simpa using hin
  by_cases hlen : 1024 < l.length
  ·have hE : s.qK l = 3 := by unfold dG.qK; rw [if_neg hin, if_pos hlen]
   unfold dG.Ce
   rw [if_neg (by rw [hE]; decide), hE]
   refine CQ func60 ntmps60 ?_
   refine jr O (aP (bT O (aV (iR pF O O) (iJ (Jp O (fun h1 => ?_))))))
   (try simp only [Z] at h1)
   refine gq (aP (aP ?_))
   obtain ⟨Xl, IU, IV, IW, IX, TM, TN, A_y, TP, TQ, Om, Oo, Oq, IY, IZ, I4, I5, I7, I8, I9, Ja, Jb, Jc, Jd, Je, pz, Ci, uP⟩ := (H).Oi
   refine aC (nD O O (bD 32 aN O aO O (fZ bK O (uP).get.2 O ?_)))
   have SC := uP.f12.f12.f12.f12.f12.f12.f12.f12.f12.f12.f12.f12
   have QK := V.rM (s := s) pz SC
   refine je O (fun h => by exfalso; (try simp only [Z] at h); simp [hi] at h) (fun h2 => ?_)
   (try simp only [Z] at h2)
   refine gq (bT O (dY O func112 (Le QK (fun W HW => hr W HW.right.right) hlen) ?_))
   rintro _ _ ⟨rfl, rfl⟩
   refine bP O (qQ O O (qQ O O (fV O (wu O (bT O (aV (iU O O) (iJ (wcE O (fun h3 => ?_)))))))))
   (try simp only [Z] at h3)
   refine bT O (fC O (aF (dH results60 O ?_)))
   exact ⟨O, QK.f2.f2⟩
  ·have hE : s.qK l = 0 := by unfold dG.qK; rw [if_neg hin, if_neg hlen]
   unfold dG.Ce
   rw [if_pos hE, hE]
   obtain ⟨h0, pb, pk, wv, nv, pv, gv, A, nw, es, yf, yt, ch, u0, u1, u2, u3, u4, u5, u6, u7, u8, u9, ua, ub, ok, pl, H⟩ := H.Oi
   have HI := H.f13
   refine (DL hi (hr := fun W HW => hr W HW.right.right.right.right.right.right.right.right.right.right.right) (l := l) HI.f2 (by omega)).mono fun v' w' h9 => ?_
   obtain ⟨e9, ph, pb', wv', nv', H9⟩ := h9
   refine ⟨e9, ?_⟩
   have ql := H9.f7.right.f8.right.f8.right.f8.right.f8.right.f8.right.f8.right
   have HR3 := ((ql.Oe.Qu (sz := 1) none).Og (k := .i64) none)
   have HX := HR3.f9.f13.f13.f13.f12.f8.f8.f8.f12.f12.f13.f13.f13
   rw [← Oy hl, show AZ s.inn s.hl s.was [u0, u1, u2, u3, u4, u5, u6, u7, u8, u9, ua, ub] = AZ s.inn hl s.was [u0, u1, u2, u3, u4, u5, u6, u7, u8, u9, ua, ub] from by rw [hi]; rfl] at HX
   refine V.rM (y := y) (s := s.start hl base most l) (h := ph) (pb := pb') (pk := pk) (wv := wv') (nv := nv') (pv := .slice none 0 0) (gv := .slice none 0 0) (nw := nw) (es := es) (ch := ch) (u0 := u0) (u1 := u1) (u2 := u2) (u3 := u3) (u4 := u4) (u5 := u5) (u6 := u6) (u7 := u7) (u8 := u8) (u9 := u9) (ua := ua) (ub := ub) (W9 ok hi hl base most l) ?_
   rw [show (s.start hl base most l).zu = 0 from if_neg (by show ¬ s.inn = true; simp [hi]), show (s.start hl base most l).TY = 0 from if_neg (by show ¬ s.inn = true; simp [hi]), show (s.start hl base most l).Ua = 0 from if_neg (by show ¬ s.inn = true; simp [hi])]
   exact HX
end
def yu (l : List Int) : dG := ((((dG.new [] 1 5).Ce [] 1 5 l).jZ).yC 2).BK 0
section
variable {w0 w : World} {F : HP} {v : Value} {l : List Int}
theorem TS (H : V w0 w F) (hr : jq w0 F .i32 v l) : gJ prog 21 #[v] w fun v' w' => ∃ e y, v' = .tuple #[.pointer (some ⟨e, 0, none⟩), .pointer (some ⟨y, 0, none⟩), .bool true] ∧ V w0 w' (gB e (yu l) • oJ y (yu l) • F) := by
 refine iG func21 ntmps21 ?_
 refine iH (fV O (fV O (gI O (iH (dY O func55 (KF H (by omega)) ?_)))))
 rintro _ w1 ⟨p1, rfl, H1⟩
 refine bP O (qQ O O (qQ O O (fV O (gI O (iH (dY O func56 (IJ H1 (by omega)) ?_))))))
 rintro _ w2 ⟨p2, rfl, H2⟩
 refine bP O (qQ O O (qQ O O (fV O (wu O (bT O (aV (iU O O) (XB O (fun h1 => ?_))))))))
 (try simp only [Z] at h1)
 refine bC (bP O (bC (aV (iU O O) (iL O O (iJ (Jp O (fun h2 => ?_)))))))
 (try simp only [Z] at h2)
 refine gq (bT O (dY O func57 (P9 H2.f2) ?_))
 rintro _ w3 ⟨e3, rfl, H3⟩
 refine bP O (qQ O O (qQ O O (fV O (gI O (bT O (dY O func58 (Oz H3.f3) ?_))))))
 rintro _ w4 ⟨y4, rfl, H4⟩
 refine bP O (qQ O O (qQ O O (fV O (wu O (bT O (aV (iU O O) (XB O (fun h3 => ?_))))))))
 (try simp only [Z] at h3)
 refine bC (bP O (bC (aV (iU O O) (iL O O (XB O (fun h4 => ?_))))))
 (try simp only [Z] at h4)
 refine bC (bP O (bC (aV (iR kH O O) (iL O O (iJ (Jp O (fun h5 => ?_)))))))
 (try simp only [Z] at h5)
 refine gq (aP (bT O (jG O O (dY O func59 (Lh H4.f4.f4 (fun W HW => hr _ (HW.right.right))) ?_))))
 rintro _ w5 ⟨rfl, H5⟩
 refine jG O O (bP O (dY O func60 (Jg H5.f4.f4 (fun W HW => hr _ (HW.right.right))) ?_))
 rintro _ w6 ⟨rfl, H6⟩
 refine aV (iU O O) (iJ (Jp O (fun h6 => ?_)))
 (try simp only [Z] at h6)
 refine gq (bT O (dY O func29 (Du H6.f3) ?_))
 rintro _ w7 ⟨rfl, H7⟩
 refine qR O (dY O func61 (Jf H7.f2) ?_)
 rintro _ w8 ⟨rfl, H8⟩
 refine qR O (dY O func62 (NK H8.f2) ?_)
 rintro _ w9 ⟨rfl, H9⟩
 refine qR O (dY O func63 (Ll H9.f2) ?_)
 rintro _ w10 ⟨rfl, ql⟩
 refine qR O (jG O O (dY O func31 (Cb ql.f2) ?_))
 rintro _ EH ⟨rfl, rF⟩
 refine bP O (dY O func64 (Ox rF.f2) ?_)
 rintro _ w12 ⟨rfl, uI⟩
 refine aV (dR O O) (fV O (fV O (fC O ?_)))
 refine gX (.inl O) results21 O O O ?_
 exact ⟨_, _, by simp, uI.f3.right.f3.right.f2⟩
end
def Ih : List Int := [102, 111, 111, 32, 98, 97, 114]
theorem Es : zZ rJ := ⟨7, by decide, rfl⟩
theorem YE : nZ rJ [119] = 0 := GR Es (by decide) fun h => absurd ((fH rfl).1 h).2 (by decide)
theorem YF : nZ rJ [98] = 0 := GR Es (by decide) fun h => absurd ((fH rfl).1 h).2 (by decide)
theorem YG : nZ rJ [102] = 1 := Ns Es ((fH rfl).2 ⟨rfl, by decide⟩)
namespace dG
variable (s : dG)
def YH (M : VM) (keys : List Int) : Int := (s.jZ.WG M keys (max s.jZ.count 1)).Wp (s.jZ.WE M keys (max s.jZ.count 1))
def TT (M : VM) (keys : List Int) : dG := (s.jZ.WG M keys (max s.jZ.count 1)).doS (s.jZ.WE M keys (max s.jZ.count 1))
end dG
def VM.went (M : VM) (s : dG) (keys : List Int) : VM := if s.YH M keys = 0 then M.sought s.jZ.c.L s.jZ.c.pt keys (max s.jZ.count 1) else M
theorem Xa : jf Ih 0 119 0 1 = (4, false, true) := by kernel_rfl
theorem aaX : (yu Ih).inn = false := by kernel_rfl
theorem Xb : (yu Ih).YH VM.new [119] = 6 := by kernel_rfl
theorem aaY : VM.went VM.new (yu Ih) [119] = VM.new := by unfold VM.went; rw [if_neg (by rw [Xb]; decide)]
theorem YI : ((yu Ih).TT VM.new [119]).inn = false := by kernel_rfl
theorem aaZ : ((yu Ih).TT VM.new [119]).YH VM.new [98] = 0 := by kernel_rfl
theorem aa0 : (((yu Ih).TT VM.new [119]).TT VM.new [98]).c.pt = 4 := by kernel_rfl
theorem TU : ¬ (wJ rJ ∨ oV rJ) := by
  unfold wJ oV
  rintro ((h | h | h | h) | (h | h | h | h | h)) <;> exact absurd h (BA (by decide))
theorem YJ {M : VM} {keys : List Int} {n x : Int} : M.did rJ keys n x = M := Cc fun h => TU h.1
theorem Lr (s : dG) : s.jZ.count = s.count := by unfold dG.jZ; split <;> rfl
section
variable {w0 w : World} {F : HP} {m e : Nat} {s : dG} {keys : List Int} {kv : Value} {M : VM}
theorem RF (H : V w0 w (oW m M • gB e s • F)) (hT : wS w0) (hi : s.inn = false) (hk : jq w0 F .i32 kv keys) (hkl : keys.length * 4 ≤ 140737488355328) (hw : nZ rJ keys = 0) :
    gJ prog 24 #[.pointer (some ⟨m, 0, none⟩), .pointer (some ⟨e, 0, none⟩), .string rJ, kv] w fun v w' => v = .int .i64 (s.YH M keys) ∧ V w0 w' (oW m (M.went s keys) • gB e (s.TT M keys) • F) := by
  have hco := JI s (Wq H.f2)
  refine (Yi H hi hk hkl hw (TF hT ?_)).mono ?_
  · rw [Lr]; omega
  · rintro v w' ⟨x, t, M', ⟨rfl, rfl, rfl⟩, rfl, H⟩
    exact ⟨rfl, by unfold VM.went; unfold VM.doM at H; rw [YJ] at H; exact H⟩
theorem Aj {s : ByteArray} {l : List Int} (H : V w0 w F) (hl : Conv.runesFrom s s.size 0 #[] = (l.map (Value.int .i32)).toArray) (hb : l.length ≤ 70368744177664) :
    gJ prog 34 #[.string s] w fun v w' => V w0 w' (kW 21 .i32 v l • F) := by
  refine iG func34 ntmps34 ?_
  refine jr O (bT O (jv (LV H kG ay aZ O hl hb) ?_))
  rintro u w1 H1
  refine fC O (dH results34 O ?_)
  exact H1
theorem AQ (H : V w0 w F) (hT : wS w0) : gJ prog 13 #[] w fun v w' => v = .bool true ∧ V w0 w' F := by
  refine RS func13 ntmps13 ?_
  refine jr O (iH (dY O func34 (Aj H (l := Ih) (by kernel_rfl) (by decide)) ?_))
  rintro u1 w1 H1
  refine dY O func21 (TS H1 (fun W HW => (HW).aS)) ?_
  rintro _ w2 ⟨e2, y2, rfl, H2⟩
  have OC := H2.f3.right
  refine bP O (qQ O O (qQ O O (qQ O O (fV O (fV O (gI O (iH (dY O func22 (PW OC) ?_))))))))
  rintro _ w4 ⟨m4, rfl, H4⟩
  refine wu O (bT O (aV (kT O) (XB O (fun h1 => ?_))))
  (try simp only [Z] at h1)
  refine bC (bP O (bC (aV (iR kH O O) (iL O O (XB O (fun h2 => ?_))))))
  (try simp only [Z] at h2)
  refine bC (bP O (bC (aV (iR underlying41 O O) (iL O O (iJ (Jp O (fun h3 => ?_)))))))
  (try simp only [Z] at h3)
  refine gq (iH (dY O func34 (Aj H4 (l := Ih) (by kernel_rfl) (by decide)) ?_))
  rintro u5 w5 H5
  refine dY O func11 (pq H5 (fun W HW => (HW).aS) hT (by decide) (by decide)) ?_
  rintro _ w6 ⟨rfl, H6⟩
  refine bP O (qQ O O (qQ O O (qQ O O (fV O (fV O (gI O (bT O (aV (dR O O) (jF O (fun h4 => ?_) (fun h => by exfalso; (try simp only [Z] at h); exact h (by rw [Xa])))))))))))
  (try simp only [Z] at h4)
  refine bC (bP O (jE O O (jF O (fun h5 => ?_) (fun h => by exfalso; (try simp only [Z] at h); rw [Xa] at h; exact absurd h (by decide)))))
  (try simp only [Z] at h5)
  refine bC (bP O (bC (bP O (bC (jv (wo (k := .i32) (l := [119]) H6 ay bQ uZ O O O (by decide)) ?_)))))
  rintro l7 w7 H7
  refine bC (dY O func24 (RF (s := yu Ih) (M := VM.new) (keys := [119]) H7.f4.f4 hT aaX (fun W HW => (HW).aS) (by decide) YE) ?_)
  rintro _ w8 ⟨rfl, H8⟩
  have HX := H8
  rw [aaY] at HX
  refine bC (aV (dR O O) (jE O O (jF O (fun h6 => ?_) (fun h => by exfalso; (try simp only [Z] at h); exact h Xb))))
  (try simp only [Z] at h6)
  refine bC (bP O (bC (bP O (bC (jv (wo (k := .i32) (l := [98]) HX ay bQ uZ O O O (by decide)) ?_)))))
  rintro l9 w9 H9
  refine bC (dY O func24 (RF (s := (yu Ih).TT VM.new [119]) (M := VM.new) (keys := [98]) H9.f3.f3 hT YI (fun W HW => (HW).aS) (by decide) YF) ?_)
  rintro _ w10 ⟨rfl, ql⟩
  refine bC (aV (dR O O) (jE O O (jF O (fun h7 => ?_) (fun h => by exfalso; (try simp only [Z] at h); exact h aaZ))))
  (try simp only [Z] at h7)
  refine bC (bP O (bC (dY O func28 (Ad ql.f2) ?_)))
  rintro _ EH ⟨u11, rfl, rF⟩
  refine bC (aV (EO 1 jk O O (bY aK O) O O) (bC (aV (dR O O) (jE O O (jF O (fun h8 => ?_) (fun h => by exfalso; (try simp only [Z] at h); exact h aa0))))))
  (try simp only [Z] at h8)
  refine bC (jv (wo (k := .i32) (l := [102]) rF ay bQ uZ O O O (by decide)) ?_)
  rintro l12 w12 uI
  refine bC (dY O func16 (BQ uI (fun W HW => (HW).aS)) ?_)
  rintro _ Pj ⟨rfl, xk⟩
  refine bC ?_
  refine aV (DU (dR O O) (by exact beq_iff_eq.2 YG)) ?_
  refine jE O O (fC O (dH results13 O ?_))
  exact ⟨O, xk.right.right.right.right.right.right.right.right⟩
end
end Go.Proofs.YtpdeedplgmbopaaGreatDoor
end
