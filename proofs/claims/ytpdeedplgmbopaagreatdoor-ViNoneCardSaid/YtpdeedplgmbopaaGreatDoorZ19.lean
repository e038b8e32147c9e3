import Derived.Test.YtpdeedplgmbopaaGreatDoorZ4
import Derived.Test.YtpdeedplgmbopaaGreatDoorZ18
import Derived.Test.YtpdeedplgmbopaaGreatDoorZ14
import Derived.Test.YtpdeedplgmbopaaGreatDoorZ12
import Derived.Test.YtpdeedplgmbopaaGreatDoorZ17
set_option linter.unusedSimpArgs false
set_option linter.unusedVariables false
/- Texts of mine, joined, their names in short: REdF REdE REdN VBoth VLive VNone. -/
section
namespace Go.Proofs.YtpdeedplgmbopaaGreatDoor
open Go.RowKit
open _root_.Go.Proofs.Tryz
theorem Aw.one {I : Hp} {sz n : Nat} {v : Value} {xs : List Value} (h : Aw I sz v n xs) : v.oneCell' = true := by obtain ⟨_, a, c, rfl, _⟩ := h; rfl
section
variable {w0 w : World} {F : HP} {p y h : Nat} {s : dF} {u v lv : Value} {es les : List dQ} {gs : List (Value × List dQ)} {on : Bool}
theorem V.WW (H : V w0 w (nJ gs • F)) : ∀ x ∈ gs.map (·.1), x.oneCell' = true := by
  obtain ⟨I, h, hI⟩ := H.ql
  intro x hx
  obtain ⟨g, hg, rfl⟩ := List.mem_map.1 hx
  obtain ⟨k, hk, rfl⟩ := List.getElem_of_mem hg
  have := h k hk
  rw [List.getD_eq_getElem?_getD, List.getElem?_eq_getElem hk] at this
  exact this.1.one
theorem V.YD (H : V w0 w (AQ v es • F)) : V w0 w (kE es • AQ v es • F) := H.qO.DC (oz (fun I h => h.2) _)
theorem WX {α : Type _} (l : List α) (u : α) (h : l ≠ []) : l.set (l.length - 1) u = l.dropLast ++ [u] := by
  have e := List.dropLast_concat_getLast h
  have hl : l.dropLast.length = l.length - 1 := List.length_dropLast
  conv => lhs; rw [← e]
  rw [List.set_append_right _ _ (by simp)]
  simp
theorem V.TR (hg : gs ≠ []) (H : V w0 w (Row 80 1 v gs.length ((gs.map (·.1)).set (gs.length - 1) u) • AQ u es • nJ gs • F)) : V w0 w (glK v (gs.dropLast ++ [(u, es)]) • F) := by
  have h0 : 0 < gs.length := List.length_pos_iff.2 hg
  have H1 := (H.f3).L9 (gs.length - 1)
  rw [← List.dropLast_eq_take] at H1
  have hm : (gs.map (·.1)).set (gs.length - 1) u = gs.dropLast.map (·.1) ++ [u] := by
    have := WX (gs.map (·.1)) u (by simpa using hg)
    rw [List.length_map] at this
    rw [this, List.map_dropLast]
  have hl : gs.length = gs.dropLast.length + 1 := by rw [List.length_dropLast]; omega
  rw [hm, hl] at H1
  exact (V.qJ (H1.f2.f3.f2)).zZ
theorem JM (gs : List (Value × List dQ)) (x : Value × List dQ) : zY (gs ++ [x]) = zY gs ++ [x.2.map dQ.says] := by unfold zY; rw [List.map_append]; rfl
theorem Oj (hG : zY gs = s.here) (hne : gs ≠ []) (hl : gs.getD (gs.length - 1) default = (lv, les)) (hes : es.map dQ.says = s.put) (hp : s.put ≠ []) : zY (gs.dropLast ++ [(u, les ++ es)]) = s.kT true := by
  have h0 : s.here ≠ [] := by rw [← hG]; unfold zY; simpa using hne
  have h1 : s.here.getLast h0 = les.map dQ.says := by
    have e : s.here.getLast? = some (les.map dQ.says) := by
      rw [← hG]; unfold zY
      rw [List.getLast?_map, List.getLast?_eq_getElem?]
      rw [List.getD_eq_getElem?_getD, List.getElem?_eq_getElem (by have := List.length_pos_iff.2 hne; omega)] at hl
      rw [List.getElem?_eq_getElem (by have := List.length_pos_iff.2 hne; omega)]
      simp only [Option.getD_some] at hl
      rw [hl]; rfl
    rw [List.getLast?_eq_some_getLast h0] at e
    exact Option.some.inj e
  unfold dF.kT
  rw [if_neg hp, if_pos rfl, List.getLast?_eq_some_getLast h0, JM]
  have h2 : zY gs.dropLast = s.here.dropLast := by rw [← hG]; unfold zY; rw [List.map_dropLast]
  rw [h1, h2]
  show _ ++ [(les ++ es).map dQ.says] = _
  rw [List.map_append, hes]
theorem Ic (hG : zY gs = s.here) (hes : es.map dQ.says = s.put) (hp : s.put ≠ []) (h : ¬ (on = true ∧ 0 < gs.length)) : zY (gs ++ [(u, es)]) = s.kT on := by
  unfold dF.kT
  rw [if_neg hp, JM, hG]
  show s.here ++ [es.map dQ.says] = _
  rw [hes]
  cases on with
  | false => rw [if_neg (by decide)]
  | true =>
    have h0 : s.here = [] := by
      have : gs = [] := List.eq_nil_of_length_eq_zero (by by_cases hx : 0 < gs.length; exact absurd ⟨rfl, hx⟩ h; omega)
      rw [← hG, this]; rfl
    rw [if_pos rfl, h0]; rfl
theorem yY {x0 x1 x2 x3 x4 x6 x9 x10 x11 x12 uF x14 x15 x16 x17 x18 x19 x20 x21 vw x23 x24 x25 vU x27 x28 x29 x30 x31 x32 wR x34 LK LM LP x38 x40 x41 : Value} {pv gv nw : Value} {A : List LE} (hA : EU A = s.c.un) (hP : uz s.hl A) (hS : es.map dQ.says = s.put) (hok : lM s) (hx : Du s.c) (hhl : s.hl.length ≤ 4096)
  (H : V w0 w (dK y (.cells (x0 :: x1 :: x2 :: x3 :: x4 :: .int .i64 s.c.place :: x6 :: pv :: gv :: x9 :: x10 :: x11 :: x12 :: uF :: x14 :: x15 :: x16 :: x17 :: x18 :: x19 :: x20 :: x21 :: vw :: x23 :: x24 :: x25 :: vU :: x27 :: x28 :: x29 :: x30 :: x31 :: x32 :: wR :: x34 :: LK :: LM :: LP :: x38 :: nw :: x40 :: x41 :: []).toArray 174 (0, 0)) • mO .i64 pv (A.map (·.1)) • uh 1 gv A.length (A.map (·.2.1)) • pU A • Row 189 3 nw es.length (es.flatMap dQ.enc) • kE es • F)) :
  gI prog 116 #[.pointer (some ⟨y, 0, none⟩), .bool on] w fun _ w' => ∃ pv' gv' A' nw', EU A' = (s.gK on).c.un ∧ uz s.hl A' ∧
   V w0 w' (dK y (.cells (x0 :: x1 :: x2 :: x3 :: x4 :: .int .i64 s.c.place :: x6 :: pv' :: gv' :: x9 :: x10 :: x11 :: x12 :: uF :: x14 :: x15 :: x16 :: x17 :: x18 :: x19 :: x20 :: x21 :: vw :: x23 :: x24 :: x25 :: vU :: x27 :: x28 :: x29 :: x30 :: x31 :: x32 :: wR :: x34 :: LK :: LM :: LP :: x38 :: nw' :: x40 :: x41 :: []).toArray 174 (0, 0)) • mO .i64 pv' (A'.map (·.1)) • uh 1 gv' A'.length (A'.map (·.2.1)) • pU A' • Row 189 3 nw' 0 [] • kE [] • F) := by
 have aff := TL hx
 have hput := hok.2.2.2.2.1
 have hsp := nY s.here s.put
 have hpl := Qn hP (by omega)
 have hlp : es.length = s.put.length := by rw [← hS]; simp
 refine oq func116 ntmps116 ?_
 refine aP (bP O (dJ O (bD 39 aN O bH O (fG aU O (H).get.2 O (aV (jw ((H.f5).aS) aU O) (aV (dV O O) (jh O (fun h1 => ?_) (fun h1 => ?_))))))))
 ·(try simp only [Z] at h1)
  have he : es = [] := List.eq_nil_of_length_eq_zero (by omega)
  have hp : s.put = [] := List.eq_nil_of_length_eq_zero (by omega)
  refine mD (aF (we0 results116 ?_))
  subst he
  exact ⟨pv, gv, A, nw, by rw [yT hp]; exact hA, hP, H.f6.f6.f6.f6.f6.f6⟩
 ·(try simp only [Z] at h1)
  have hp : s.put ≠ [] := fun hx => h1 (by rw [hlp, hx]; rfl)
  refine fZ (bP O (dJ O (bD 1 aN O dY O (bD 2 cO O ni O (bD 2 fK O aj O (fG aK O (H).get.2 O (gJ O (bP O (dJ O (bD 1 aN O dY O (bD 6 cO O sizeOf170 O (bQ O (dS O func155 (Qr H.f4.f4.f4.f4) ?_)))))))))))))
  rintro u1 w1 ⟨gs1, ad8, H1⟩
  obtain ⟨gu, rfl⟩ : ∃ q, q = u1 := ⟨_, rfl⟩
  obtain ⟨gs, rfl⟩ : ∃ q, q = gs1 := ⟨_, rfl⟩
  have hG : zY gs = s.here := by rw [ad8, hA]; rfl
  have hgl : gs.length = s.here.length := by rw [← hG]; exact (List.length_map _).symm
  have Ho2 := H1.f2.f2
  have XY := Ho2
  have hone := (XY.f2).WW
  refine gJ O (jg O (bP O (bQ O (jr (fQ (XY.iP none) bf Es O O O ((XY).oD) (by assumption) (by omega) (by omega)) ?_))))
  rintro l4 w4 H4
  have Xl := H4
  rw [Nat.zero_add, List.nil_append] at Xl
  refine gJ O ?_
  refine kM [(0, _), (4, _)] (fun (ou : Value) => [(6, ou)]) (fun (ou : Value) W => ∃ gs, zY gs = s.kT on ∧ V w0 W (uh 1 ou gs.length (gs.map (·.1)) • nJ gs • dK y (.cells (x0 :: x1 :: x2 :: x3 :: x4 :: .int .i64 s.c.place :: x6 :: pv :: gv :: x9 :: x10 :: x11 :: x12 :: uF :: x14 :: x15 :: x16 :: x17 :: x18 :: x19 :: x20 :: x21 :: vw :: x23 :: x24 :: x25 :: vU :: x27 :: x28 :: x29 :: x30 :: x31 :: x32 :: wR :: x34 :: LK :: LM :: LP :: x38 :: nw :: x40 :: x41 :: []).toArray 174 (0, 0)) • mO .i64 pv (A.map (·.1)) • uh 1 gv A.length (A.map (·.2.1)) • pU A • F)) qB ?_ ?_
  ·rintro ou w5 ⟨gs, hG, HJ⟩
   dsimp only [List.cons_append, List.nil_append]
   refine bP O (dJ O (bD 1 aN O dY O (bD 6 cO O sizeOf170 O (jJ O O (dS O func156 (Oc HJ.f2.f2.f6.f6.f6.f6 (by assumption)) ?_)))))
   rintro _ w6 ⟨pv6, gv6, H6⟩
   refine iJ (aC (nD O O (bD 39 aN O bH O (aH (kR 39 H6 bH) ?_))))
   rintro _ w7 H7
   refine bM (lg (.inr O) results116 ?_)
   have HQ := (H7.f4.f4.f4.f4).qY none |>.ZP
   refine ⟨_, _, _, _, ?_, Qq hP ⟨hok.1.1, hok.1.2.1⟩, HQ.f6.f6.f6.f6⟩
   rw [lH hp, Yx, hA, hG]; rfl
  ·skip
   refine bP O (jP O (fun h2 => ?_) (fun h2 => ?_))
   ·(try simp only [Z] at h2)
    refine bC (bQ O (bC (aV (jw ((Xl).aS) bf O) (bC (aV (iV O O) (jF O O (jh O (fun h3 => ?_) (fun h3 => ?_))))))))
    ·(try simp only [Z] at h3)
     refine aP ?_
     have ad9 : on = true := by first | assumption | (simp_all; done)
     have hne : gs ≠ [] := fun hx => by subst hx; simp at *
     refine aC (gJ O (bP O (jJ O O (aV (jw ((Xl).aS) bf O) (aV (kX O O (by omega)) ?_)))))
     obtain ⟨bl4, ol4, cl4, el4⟩ := Rd.pW ((Xl).aS) (by omega)
     cases el4
     refine aV (dI bf bH O O (by omega)) ?_
     refine aV (fA (dn aU O) O (by first | exact Rd.lW ((Xl).aS) (by omega) | exact Rd.wK ((Xl).aS) (by omega) | exact Rd.wH ((Xl).aS) (by omega))) ?_
     rw [show (gs.map (·.1)).getD (((gs.length : Nat) : Int) - 1).toNat undef = (gs.getD (gs.length - 1) default).1 from by have := List.length_pos_iff.2 hne; rw [show (((gs.length : Nat) : Int) - 1).toNat = gs.length - 1 from by omega]; simp [List.getD_eq_getElem?_getD, show gs.length - 1 < gs.length from by omega]]
     obtain ⟨gl, wI, hg⟩ : ∃ gl wI, gs.getD (gs.length - 1) default = (gl, wI) := ⟨_, _, rfl⟩
     rw [hg]
     have Ho8 := Xl.f3
     have Yh := Ho8.Fa (by have := List.length_pos_iff.2 hne; omega) hg
     have aeD := (Yh).U6
     have hgm : wI.map dQ.says ∈ s.here := by rw [← hG]; exact List.mem_map.2 ⟨(gl, wI), by rw [← hg]; exact vC (by have := List.length_pos_iff.2 hne; omega), rfl⟩
     have hgb := Fb hgm
     rw [List.length_map] at hgb
     have afg : wI.length ≤ 16384 := by unfold iG at hput; omega
     refine jr (fQ (Yh.iP none) aU zI O O O ((Yh).uo) (by assumption) (by omega) (by omega)) ?_
     rintro l10 w10 pV
     have HX7 := pV
     rw [Nat.zero_add, List.nil_append] at HX7
     refine gJ O ?_
     have aeE := (HX7.f11).zH
     refine aC (jJ O O (aV (ny bf O) (aV (kX O O (by omega)) (jJ O O (dJ O (bD 39 aN O bH O (fG aU O (HX7.f6).get.2 O (jr (fQ HX7 aU zI O O O ((HX7.f10).aS) (by assumption) (by omega) (by omega)) ?_))))))))
     rintro l11 DU qo
     refine aV (dI bf bH O O (by omega)) (aH (JZ 0 qo.f4 bH O O (by first | rfl | exact Rd.one ((qo).aS)) (by omega) (by decide)) ?_)
     rintro _ w12 um
     have aay := um.f3
     have aaz := (aay.YD).f2.right
     have aan := aaz.f11.f2.f4
     have aao := V.oN (es := wI ++ es) (V.deep (V.Fh rfl aan))
     have Px := aao.f2
     have HX8 := Px
     rw [show (((gs.length : Nat) : Int) - 1).toNat * 1 + 0 = gs.length - 1 from by omega] at HX8
     have aat := HX8.f3.f3.f3
     have aau := (V.TR hne aat).Ru
     have hGJ := Oj (s := s) (u := l11) hG hne hg hS hp
     rw [← ad9] at hGJ
     refine bM ?_
     refine dh (_) lI qB (by (try dsimp only); exact ⟨_, hGJ, aau.f3.right.f7.right.f6.f6.f6.f6.f6.f6⟩)
    ·(try simp only [Z] at h3)
     have VI := Xl.f9.f9
     have PU := V.oN (v := nw) (es := es) (V.deep VI)
     have hnj : ¬ (on = true ∧ 0 < gs.length) := by first | omega | simp_all | (intro hx; simp_all; omega)
     refine aC (jJ O O (dJ O (bD 39 aN O bH O (fG aU O (PU.f5).get.2 O (jr (jQ (vs := [_]) PU bf bH lq O O O (by decide) (aW (by first | rfl | exact Rd.one ((PU).uo)) bF)) ?_)))))
     rintro l22 w22 OV
     refine jr (fQ OV.f3 bf Es O O O ((OV).aS) (aW (by first | rfl | exact Rd.one ((OV.f2).uo)) bF) (by omega) (by omega)) ?_
     rintro l23 w23 Iu
     have aea := Iu.f2.right
     have aaO := aea.f4.f3.f3
     have aaP := (V.qJ aaO).zZ.Ru
     have hGJ := Ic (s := s) (on := on) (u := nw) hG hS hp hnj
     refine fU O (bM ?_)
     refine dh (_) lI qB (by (try dsimp only); exact ⟨_, hGJ, aaP.f3.right.f6.f6.f6.f6.f6.f6⟩)
   ·(try simp only [Z] at h2)
    refine bI (bI (bI (iM O O (iJ (qy ?_)))))
    have aeb := Xl.f9.f9
    have aaQ := V.oN (v := nw) (es := es) (V.deep aeb)
    have hnj : ¬ (on = true ∧ 0 < gs.length) := by first | omega | simp_all | (intro hx; simp_all; omega)
    refine aC (jJ O O (dJ O (bD 39 aN O bH O (fG aU O (aaQ.f5).get.2 O (jr (jQ (vs := [_]) aaQ bf bH lq O O O (by decide) (aW (by first | rfl | exact Rd.one ((aaQ).uo)) bF)) ?_)))))
    rintro l29 w29 Yg
    refine jr (fQ Yg.f3 bf Es O O O ((Yg).aS) (aW (by first | rfl | exact Rd.one ((Yg.f2).uo)) bF) (by omega) (by omega)) ?_
    rintro l30 w30 Vo
    have aec := Vo.f2.right
    have aed := aec.f4.f3.f3
    have aee := (V.qJ aed).zZ.Ru
    have hGJ := Ic (s := s) (on := on) (u := nw) hG hS hp hnj
    refine fU O (bM ?_)
    refine dh (_) lI qB (by (try dsimp only); exact ⟨_, hGJ, aee.f3.right.f6.f6.f6.f6.f6.f6⟩)
end
theorem jO.bad {s : dF} {es : List dQ} {A A' : List LE} {yf yt : Int} (h : jO s es A yf yt) (hin : s.inn = true) (hA : _root_.Go.Proofs.YtpdeedplgmbopaaGreatDoor.EU A' = s.was.un) (hP : uz s.hl A') : jO s.xB [] A' yf yt :=
  ⟨P6 h.ok hin, ⟨(h.rx.2.1 hin).1, fun hi => absurd hi (by show ¬ false = true; decide), fun hi => absurd hi (by show ¬ false = true; decide)⟩, rfl, hA, hP, fun hi => absurd hi (by show ¬ false = true; decide)⟩
theorem tZ (s : dF) : s.oK = { s with c := { s.c with un := (s.gK (s.typed && s.c.run)).c.un, run := s.typed && (!s.put.isEmpty || s.c.run), last := s.cls, fr := if s.cls = 2 then s.c.fr else 0, to := if s.cls = 2 then s.c.to else 0 }, given := if s.argues = true then s.given else false, minus := if s.argues = true then s.minus else false, arg := if s.argues = true then s.arg else -1, inn := false, put := [] } := by
  unfold dF.oK dF.jT dF.gK
  by_cases ha : s.argues = true
  · by_cases hp : s.put = []
    · by_cases hc : s.cls = 2
      · simp [ha, hp, hc, dF.zM]
      · simp [ha, hp, hc, dF.zM]
    · by_cases hc : s.cls = 2
      · simp [ha, hp, hc, dF.zM, dF.vX, dF.kT, dF.here]
      · simp [ha, hp, hc, dF.zM, dF.vX, dF.kT, dF.here]
  · by_cases hp : s.put = []
    · by_cases hc : s.cls = 2
      · simp [ha, hp, hc, dF.zM]
      · simp [ha, hp, hc, dF.zM]
    · by_cases hc : s.cls = 2
      · simp [ha, hp, hc, dF.zM, dF.vX, dF.kT, dF.here]
      · simp [ha, hp, hc, dF.zM, dF.vX, dF.kT, dF.here]
theorem jO.good {s : dF} {es : List dQ} {A A' : List LE} {yf yt : Int} (h : jO s es A yf yt) (hA : _root_.Go.Proofs.YtpdeedplgmbopaaGreatDoor.EU A' = (s.gK (s.typed && s.c.run)).c.un) (hP : uz s.hl A') : jO s.oK [] A' yf yt := by
  have hok : lM s.oK := by
    have h1 := TJ (sK h.ok) (s := s.jT) (by unfold dF.jT; split <;> exact h.rx.1) (s.typed && s.c.run)
    unfold dF.oK
    dsimp only
    split <;> exact h1
  have hx : Du (s.gK (s.typed && s.c.run)).c := (TK h.ok h.rx _).1
  rw [tZ] at hok ⊢
  exact ⟨hok, ⟨⟨hx.1, h.rx.1.2⟩, fun hi => absurd hi (by show ¬ false = true; decide), fun hi => absurd hi (by show ¬ false = true; decide)⟩, rfl, hA, hP, fun hi => absurd hi (by show ¬ false = true; decide)⟩
section
variable {w0 w : World} {F : HP} {p y h : Nat} {s : dF} {x : Int}
theorem Ol (hin : s.inn = true) (hx : x ≠ 0) (H : V w0 w (oH y s • F)) : gI prog 64 #[.pointer (some ⟨y, 0, none⟩), .int .i64 x] w fun v w' => v = .int .i64 x ∧ V w0 w' (oH y s.xB • F) := by
 refine oq func64 ntmps64 ?_
 refine jg O (aP (aP ?_))
 obtain ⟨Xk, IG, II, IJ, IK, TM, TN, A_y, TP, TQ, Oe, Og, Oh, IL, IQ, IU, IV, IW, IX, IY, IZ, I4, I5, I7, I8, oU, BR, uD⟩ := (H).Oa
 have HI := uD
 rw [hin] at HI
 obtain ⟨qb, qk, qw, qn, qp, qg, qA, hu, hqA, hqP, hu1, HW⟩ := (HI.f12).ad4
 simp only [Ef, List.cons.injEq, and_true] at hu
 obtain ⟨rfl, rfl, rfl, rfl, rfl, rfl, rfl, rfl, rfl, rfl, rfl, rfl⟩ := hu
 refine aC (nD O O (bD 32 aN O aO O (fG bK O (HW.f8).get.2 O (aV (lY O) (iJ (Jk O (fun h1 => ?_)))))))
 (try simp only [Z] at h1)
 refine fZ (bP O (dJ O (bD 32 aN O aO O (aH (kR 32 HW.f8 aO) ?_))))
 rintro _ w2 H2
 refine pJ (bP O (aV (iO O O) (jh O (fun h2 => ?_) (fun h => by exfalso; (try simp only [Z] at h); exact hx h))))
 (try simp only [Z] at h2)
 refine bP O (nD O O (bD 13 aN O dY O (aV (nS 13 (xs := [_, _, _, _, _, _, _, _, _, _, _, _]) cO O dY O O (H2).get.2 O) (dJ O (bD 1 aN O dY O (aH (bU 1 (l' := [_, _, _, _, _, _, _, _, _, _, _, _, _, _, _, _, _, _, _, _, _, _, _, _, _, _, _, _, _, _, _, _, _, _, _, _, _, _, _, _, _, _]) (us := [_, _, _, _, _, _, _, _, _, _, _, _]) H2 dY O O O (ay (ay (aW (by first | rfl | exact Rd.one ((H2.f4).oD)) (aW (by first | rfl | exact Rd.one ((H2.f5).aS)) (ay (ay (aW (by first | rfl | exact Rd.one ((H2.f6).jy)) (aW (by first | rfl | exact Rd.one ((H2.f7).oD)) (ay (ay (ay (ay bF)))))))))))) O O) ?_))))))
 rintro _ w3 H3
 refine qH O (dJ O (bD 39 aN O bH O (aH (kR 39 H3 bH) ?_)))
 rintro _ w4 H4
 refine qH O (dJ O (bD 31 aN O sizeOf2 O (fG underlying2 O (H4).get.2 O (aV (ZG O O) (dJ O (bD 31 aN O sizeOf2 O (aH (kR 31 H4 sizeOf2) ?_)))))))
 rintro _ w5 H5
 refine qH O (jJ O O (dJ O (bD 25 aN O aO O (aH (kR 25 H5 aO) ?_))))
 rintro _ w6 H6
 refine dJ O (bD 26 aN O aO O (aH (kR 26 H6 aO) ?_))
 rintro _ w7 H7
 refine dJ O (bD 27 aN O aj O (aH (kR 27 H7 aj) ?_))
 rintro _ w8 H8
 refine qH O (jJ O O (dJ O (bD 28 aN O aj O (aH (kR 28 H8 aj) ?_))))
 rintro _ w9 H9
 refine dJ O (bD 29 aN O aj O (aH (kR 29 H9 aj) ?_))
 rintro _ w10 pV
 refine dJ O (bD 30 aN O aj O (aH (kR 30 pV aj) ?_))
 rintro _ DU qo
 refine qH O (dJ O (bD 39 aN O bH O (aH (kR 39 qo bH) ?_)))
 rintro _ w12 um
 refine qH O (eY O (aF (dG results64 O ?_)))
 exact ⟨O, V.Rz (s := s.xB) (oU.bad hin hqA hqP) O um.f9.right.f9.right.f9.right.f9.right.f9.right.f9.right.f9.right.f10.right.f10.right.f9.f9.f9.f9.f9.f9.f9.f9.f9 hu1⟩
theorem WY (s : dF) : s.typed = (decide (s.cls = 3) && s.whole) := by unfold dF.typed; congr 1
theorem empty_eq (l : List iR) : (!l.isEmpty) = decide ((l.length : Int) > 0) := by cases l with
  | nil => rfl
  | cons x r => simp
theorem Lj (hin : s.inn = true) (H : V w0 w (oH y s • F)) : gI prog 64 #[.pointer (some ⟨y, 0, none⟩), .int .i64 0] w fun v w' => v = .int .i64 0 ∧ V w0 w' (oH y s.oK • F) := by
  obtain ⟨on, hon⟩ : ∃ on, on = (s.typed && s.c.run) := ⟨_, rfl⟩
  obtain ⟨rn, hrn⟩ : ∃ rn, rn = (s.typed && (!s.put.isEmpty || s.c.run)) := ⟨_, rfl⟩
  have Nh := hon
  have Dx := hrn
  rw [WY] at Nh Dx
  rw [empty_eq] at Dx
  refine oq func64 ntmps64 ?_
  obtain ⟨Xk, IG, II, IJ, IK, TM, TN, A_y, TP, TQ, Oe, Og, Oh, IL, IQ, IU, IV, IW, IX, IY, IZ, I4, I5, I7, I8, oU, BR, uD⟩ := (H).Oa
  have HP9 := uD
  rw [← BR] at HP9
  have WZ := oU.EU
  have hplA := oU.placed
  have Qs := oU.says
  have aaR := oU.ok
  have hxA := oU.rx.1
  have aaS : s.hl.length ≤ 4096 := by obtain ⟨hv9, hk9, _⟩ := (HP9.f9).Q5; exact hk9.1
  have hu1 := TI (HP9.f12)
  refine jg O (aP (bP O (dJ O (bD 32 aN O aO O (fG bK O (HP9).get.2 O (aV (lY O) (jh O (fun h => by exfalso; (try simp only [Z] at h); simp [hin] at h) (fun h1 => ?_))))))))
  (try simp only [Z] at h1)
  refine fZ (bP O (dJ O (bD 32 aN O aO O (aH (kR 32 HP9 aO) ?_))))
  rintro _ w2 H2
  refine pJ (bP O (aV (iO O O) (iJ (Jk O (fun h2 => ?_)))))
  (try simp only [Z] at h2)
  refine fZ (bP O (dJ O (bD 33 aN O aj O (fG aK O (H2).get.2 O (aV (dV O O) (gJ O (bP O (dJ O (bD 39 aN O bH O (fG aU O (H2).get.2 O (aV (jw ((H2.f10).aS) aU O) (aV (iV O O) (gJ O ?_)))))))))))))
  refine kM [(0, _), (5, _), (6, _)] (fun (_ : Unit) => []) (fun (_ : Unit) W => ∃ pv2 gv2 A2 nw2, EU A2 = (s.gK on).c.un ∧ uz s.hl A2 ∧ V w0 W (dK y (.cells (.pointer (some ⟨Xk, 0, none⟩) :: .pointer (some ⟨IG, 0, none⟩) :: .pointer (some ⟨II, 0, none⟩) :: IJ :: IK :: .int .i64 s.c.place :: .string (jm s.hl s.c.tx s.c.place) :: pv2 :: gv2 :: .int .i64 s.c.mode :: .bool s.c.over :: .int .i64 s.c.res :: .bool s.c.run :: IL :: IQ :: IU :: IV :: IW :: IX :: IY :: IZ :: I4 :: I5 :: I7 :: I8 :: .bool s.given :: .bool s.minus :: .int .i64 s.arg :: .int .i64 s.y9 :: .int .i64 s.Ua :: .int .i64 s.Ub :: .int .i64 s.qL :: .bool false :: .int .i64 s.cls :: .int .i64 Oe :: .int .i64 Og :: .bool s.argues :: .bool s.killed :: .bool s.lu :: nw2 :: .bool s.whole :: .bool Oh :: []).toArray 174 (0, 0)) • mO .i64 pv2 (A2.map (·.1)) • uh 1 gv2 A2.length (A2.map (·.2.1)) • pU A2 • Row 189 3 nw2 0 [] • kE [] • nR IG s.c.L s.c.pt s.c.mark • lV II s.c.E s.c.at_ • uh 1 IJ (s.hl.length + 1) (strs (nO s.hl)) • Row 9 1 IK (s.hl.length + 1) (strs (tY s.hl s.c.tx)) • iZ Xk s.hl s.base s.most • AL s.inn s.hl s.was [IL, IQ, IU, IV, IW, IX, IY, IZ, I4, I5, I7, I8] • F)) uM ?_ ?_
  · rintro _ w3 ⟨pv2, gv2, A2, nw2, hl2, hp2, HJ⟩
    dsimp only [List.cons_append, List.nil_append]
    refine kM [(0, _)] (fun (_ : Unit) => []) (fun (_ : Unit) W => V w0 W (dK y (.cells (.pointer (some ⟨Xk, 0, none⟩) :: .pointer (some ⟨IG, 0, none⟩) :: .pointer (some ⟨II, 0, none⟩) :: IJ :: IK :: .int .i64 s.c.place :: .string (jm s.hl s.c.tx s.c.place) :: pv2 :: gv2 :: .int .i64 s.c.mode :: .bool s.c.over :: .int .i64 s.c.res :: .bool rn :: IL :: IQ :: IU :: IV :: IW :: IX :: IY :: IZ :: I4 :: I5 :: I7 :: I8 :: .bool s.given :: .bool s.minus :: .int .i64 s.arg :: .int .i64 s.y9 :: .int .i64 s.Ua :: .int .i64 s.Ub :: .int .i64 s.qL :: .bool false :: .int .i64 s.cls :: .int .i64 Oe :: .int .i64 Og :: .bool s.argues :: .bool s.killed :: .bool s.lu :: nw2 :: .bool s.whole :: .bool Oh :: []).toArray 174 (0, 0)) • mO .i64 pv2 (A2.map (·.1)) • uh 1 gv2 A2.length (A2.map (·.2.1)) • pU A2 • Row 189 3 nw2 0 [] • kE [] • nR IG s.c.L s.c.pt s.c.mark • lV II s.c.E s.c.at_ • uh 1 IJ (s.hl.length + 1) (strs (nO s.hl)) • Row 9 1 IK (s.hl.length + 1) (strs (tY s.hl s.c.tx)) • iZ Xk s.hl s.base s.most • AL s.inn s.hl s.was [IL, IQ, IU, IV, IW, IX, IY, IZ, I4, I5, I7, I8] • F)) lI ?_ ?_
    · rintro _ w4 HJ2
      dsimp only [List.cons_append, List.nil_append]
      refine bP O (jJ O O (nD O O (bD 33 aN O aj O (fG aK O (HJ2).get.2 O (dJ O (bD 28 aN O aj O (aH (kR 28 HJ2 aj) ?_)))))))
      rintro _ w5 H5
      refine dJ O (bD 29 aN O aj O (aH (kR 29 H5 aj) ?_))
      rintro _ w6 H6
      refine dJ O (bD 30 aN O aj O (aH (kR 30 H6 aj) ?_))
      rintro _ w7 H7
      refine pJ (bP O (dJ O (bD 33 aN O aj O (fG aK O (H7).get.2 O (aV (dV O O) (jh O (fun h3 => ?_) (fun h3 => ?_)))))))
      · (try simp only [Z] at h3)
        have hcT : s.cls = 2 := h3
        obtain ⟨rfl, rfl⟩ := oU.WU hin (oU.rx.2.2 hin hcT)
        have Zu := H7.drew
        have sO := V.kp (Zu.f12.f12.f12.f12.f12.f12.f12.f12.f12.f12.f12.f12)
        refine yC [5, 9] sO O (jG 0 O sO O (jG 1 O sO O (jG 2 O sO O (kD 3 O sO O (gV 4 O sO 34 aN O aj O (jS 5 O sO (fun W hW => jX aK O ((Kp.h hW)).get.2 O) (jG 6 O sO O (kD 7 O sO O (gV 8 O sO 35 aN O aj O (jS 9 O sO (fun W hW => jX aK O ((Kp.h hW)).get.2 O) (kD 10 O sO O (gV 11 O sO 29 aN O aj O ?_))))))))))))
        refine fM 12 O (by kernel_rfl) (kR 29 Zu aj) ?_
        rintro _ w8 H8
        have O7 := V.kp (H8.f12.f12.f12.f12.f12.f12.f12.f12.f12.f12.f12.f12)
        refine gW O7 (by kernel_rfl) ?_
        refine kD 13 O O7 O (gV 14 O O7 30 aN O aj O ?_)
        refine fM 15 O (by kernel_rfl) (kR 30 H8 aj) ?_
        rintro _ w9 H9
        have O8 := V.kp (H9.f12.f12.f12.f12.f12.f12.f12.f12.f12.f12.f12.f12)
        refine gW O8 (by kernel_rfl) ?_
        refine qR (aX (aP (bP O (dJ O (bD 36 aN O aO O (fG bK O (H9).get.2 O (aV (lY O) (jh O (fun h4 => ?_) (fun h4 => ?_)))))))))
        · (try simp only [Z] at h4)
          have haF : ¬ s.argues = true := by simp_all
          refine aC (jJ O O (nD O O (bD 25 aN O aO O (aH (kR 25 H9 aO) ?_))))
          rintro _ w10 pV
          refine dJ O (bD 26 aN O aO O (aH (kR 26 pV aO) ?_))
          rintro _ DU qo
          refine dJ O (bD 27 aN O aj O (aH (kR 27 qo aj) ?_))
          rintro _ w12 um
          refine iJ (jC O (dG results64 O ?_))
          refine ⟨O, ?_⟩
          rw [hon] at hl2
          have hG := oU.good hl2 hp2
          rw [tZ] at hG ⊢
          have HX := um.f12.right.f6.f6.f11.f7.f7.f7.f11.f11.f11.f11.f11
          have Ti := HX.Dv (hl := s.hl) (c := s.was) hu1
          have HX3 := Ti.f12.f12.f12.f12.f12.f12.f12.f12.f12.f12.f12
          first | simp only [if_pos hcT] at hG ⊢ | simp only [if_neg hcF] at hG ⊢
          first | simp only [if_pos haT] at hG ⊢ | simp only [if_neg haF] at hG ⊢
          rw [← hrn] at hG ⊢
          exact V.rD hG HX3
        · (try simp only [Z] at h4)
          have haT : s.argues = true := by simp_all
          refine fZ (jC O (dG results64 O ?_))
          refine ⟨O, ?_⟩
          rw [hon] at hl2
          have hG := oU.good hl2 hp2
          rw [tZ] at hG ⊢
          have HX := H9.f12.right.f6.f6.f11.f7.f7.f7.f11.f11.f11.f11.f11
          have Ti := HX.Dv (hl := s.hl) (c := s.was) hu1
          have HX3 := Ti.f12.f12.f12.f12.f12.f12.f12.f12.f12.f12.f12
          first | simp only [if_pos hcT] at hG ⊢ | simp only [if_neg hcF] at hG ⊢
          first | simp only [if_pos haT] at hG ⊢ | simp only [if_neg haF] at hG ⊢
          rw [← hrn] at hG ⊢
          exact V.rD hG HX3
      · (try simp only [Z] at h3)
        have hcF : ¬ s.cls = 2 := h3
        refine fZ (aP (bP O (dJ O (bD 36 aN O aO O (fG bK O (H7).get.2 O (aV (lY O) (jh O (fun h5 => ?_) (fun h5 => ?_))))))))
        · (try simp only [Z] at h5)
          have haF : ¬ s.argues = true := by simp_all
          refine aC (jJ O O (nD O O (bD 25 aN O aO O (aH (kR 25 H7 aO) ?_))))
          rintro _ Oz uS
          refine dJ O (bD 26 aN O aO O (aH (kR 26 uS aO) ?_))
          rintro _ RV Ag
          refine dJ O (bD 27 aN O aj O (aH (kR 27 Ag aj) ?_))
          rintro _ Sr yM
          refine iJ (jC O (dG results64 O ?_))
          refine ⟨O, ?_⟩
          rw [hon] at hl2
          have hG := oU.good hl2 hp2
          rw [tZ] at hG ⊢
          have HX := yM.f12.right.f6.f6.f11.f7.f7.f7.f11.f11.f11.f11.f11
          have Ti := HX.Dv (hl := s.hl) (c := s.was) hu1
          have HX3 := Ti.f12.f12.f12.f12.f12.f12.f12.f12.f12.f12.f12
          first | simp only [if_pos hcT] at hG ⊢ | simp only [if_neg hcF] at hG ⊢
          first | simp only [if_pos haT] at hG ⊢ | simp only [if_neg haF] at hG ⊢
          rw [← hrn] at hG ⊢
          exact V.rD hG HX3
        · (try simp only [Z] at h5)
          have haT : s.argues = true := by simp_all
          refine fZ (jC O (dG results64 O ?_))
          refine ⟨O, ?_⟩
          rw [hon] at hl2
          have hG := oU.good hl2 hp2
          rw [tZ] at hG ⊢
          have HX := H7.f12.right.f6.f6.f11.f7.f7.f7.f11.f11.f11.f11.f11
          have Ti := HX.Dv (hl := s.hl) (c := s.was) hu1
          have HX3 := Ti.f12.f12.f12.f12.f12.f12.f12.f12.f12.f12.f12
          first | simp only [if_pos hcT] at hG ⊢ | simp only [if_neg hcF] at hG ⊢
          first | simp only [if_pos haT] at hG ⊢ | simp only [if_neg haF] at hG ⊢
          rw [← hrn] at hG ⊢
          exact V.rD hG HX3
    · skip
      refine aC (jJ O O (jP O (fun h6 => ?_) (fun h6 => ?_)))
      · (try simp only [Z] at h6)
        refine bC (bQ O (bC (dJ O (bC (bD 40 aN O aO O (bC (fG bK O (HJ).get.2 O (jF O O (jP O (fun h7 => ?_) (fun h7 => ?_))))))))))
        · (try simp only [Z] at h7)
          refine bC (bQ O (bC (jP O (fun h8 => ?_) (fun h8 => ?_))))
          · (try simp only [Z] at h8)
            refine bI (bI (bI (bI (bI (bC (jF O O (jF O O (dJ O (bD 1 aN O dY O (bD 11 cO O aO O (aH (kR 12 HJ aO) ?_)))))))))))
            rintro _ w16 yH
            refine bM ?_
            refine dh (()) ?_ ?_ ?_
            · exact (Sub.nil _)
            · exact lI
            · (try dsimp only)
              first | done | exact (by first | (rw [show rn = true from by rw [Dx]; simp_all; done]; exact yH.f12.f12.f12.f12.f12.f12.f12.f12.f12.f12.f12.f12) | (rw [show rn = false from by rw [Dx]; simp_all; done]; exact yH.f12.f12.f12.f12.f12.f12.f12.f12.f12.f12.f12.f12) | (rw [show rn = s.c.run from by rw [Dx]; simp_all; done]; exact yH.f12.f12.f12.f12.f12.f12.f12.f12.f12.f12.f12.f12))
          · (try simp only [Z] at h8)
            refine bC (bQ O (bC (dJ O (bC (bD 1 aN O dY O (bC (bD 11 cO O aO O (bC (fG bK O (HJ).get.2 O (bC (iM O O (jF O O (dJ O (bD 1 aN O dY O (bD 11 cO O aO O (aH (kR 12 HJ aO) ?_))))))))))))))))
            rintro _ Zc Ig
            refine bM ?_
            refine dh (()) ?_ ?_ ?_
            · exact (Sub.nil _)
            · exact lI
            · (try dsimp only)
              first | done | exact (by first | (rw [show rn = true from by rw [Dx]; simp_all; done]; exact Ig.f12.f12.f12.f12.f12.f12.f12.f12.f12.f12.f12.f12) | (rw [show rn = false from by rw [Dx]; simp_all; done]; exact Ig.f12.f12.f12.f12.f12.f12.f12.f12.f12.f12.f12.f12) | (rw [show rn = s.c.run from by rw [Dx]; simp_all; done]; exact Ig.f12.f12.f12.f12.f12.f12.f12.f12.f12.f12.f12.f12))
        · (try simp only [Z] at h7)
          refine bI (bI (mV (mV (mV (mV (mV (bI (iM O O (dJ O (bD 1 aN O dY O (bD 11 cO O aO O (aH (kR 12 HJ aO) ?_))))))))))))
          rintro _ XF CG
          refine bM ?_
          refine dh (()) ?_ ?_ ?_
          · exact (Sub.nil _)
          · exact lI
          · (try dsimp only)
            first | done | exact (by first | (rw [show rn = true from by rw [Dx]; simp_all; done]; exact CG.f12.f12.f12.f12.f12.f12.f12.f12.f12.f12.f12.f12) | (rw [show rn = false from by rw [Dx]; simp_all; done]; exact CG.f12.f12.f12.f12.f12.f12.f12.f12.f12.f12.f12.f12) | (rw [show rn = s.c.run from by rw [Dx]; simp_all; done]; exact CG.f12.f12.f12.f12.f12.f12.f12.f12.f12.f12.f12.f12))
      · (try simp only [Z] at h6)
        refine bI (bI (bI (bI (iM O O (bQ O (bI (bI (mV (mV (mV (mV (mV (bI (iM O O (dJ O (bD 1 aN O dY O (bD 11 cO O aO O (aH (kR 12 HJ aO) ?_))))))))))))))))))
        rintro _ w19 DW
        refine bM ?_
        refine dh (()) ?_ ?_ ?_
        · exact (Sub.nil _)
        · exact lI
        · (try dsimp only)
          first | done | exact (by first | (rw [show rn = true from by rw [Dx]; simp_all; done]; exact DW.f12.f12.f12.f12.f12.f12.f12.f12.f12.f12.f12.f12) | (rw [show rn = false from by rw [Dx]; simp_all; done]; exact DW.f12.f12.f12.f12.f12.f12.f12.f12.f12.f12.f12.f12) | (rw [show rn = s.c.run from by rw [Dx]; simp_all; done]; exact DW.f12.f12.f12.f12.f12.f12.f12.f12.f12.f12.f12.f12))
  · skip
    refine aC (jJ O O (jP O (fun h9 => ?_) (fun h9 => ?_)))
    · (try simp only [Z] at h9)
      refine bC (bQ O (bC (dJ O (bC (bD 40 aN O aO O (bC (fG bK O (H2).get.2 O (jF O O (jP O (fun h10 => ?_) (fun h10 => ?_))))))))))
      · (try simp only [Z] at h10)
        refine bC (bQ O (bC (dJ O (bC (bD 1 aN O dY O (bC (bD 11 cO O aO O (bC (fG bK O (H2).get.2 O (jF O O (dS O func116 (yY WZ hplA Qs aaR hxA aaS H2.f11.f11.f10.f10.f10.f6) ?_)))))))))))
        rintro _ w20 ⟨afh, afi, A20, afj, aaT, acJ, OU⟩
        have Aa := aaT
        have W9 := acJ
        first
          | rw [show s.c.run = on from by rw [Nh]; simp_all] at Aa
          | rw [show false = on from by rw [Nh]; simp_all] at Aa
        refine bM ?_
        refine dh (()) ?_ ?_ ?_
        · exact (Sub.nil _)
        · exact uM
        · (try dsimp only)
          first | done | exact ⟨_, _, _, _, Aa, W9, OU.f12.f12.f12.f12.f12.f12.f12.f12.f12.f12.f12.f12⟩
      · (try simp only [Z] at h10)
        refine bI (bI (bI (bI (bI (iM O O (dS O func116 (yY WZ hplA Qs aaR hxA aaS H2.f11.f11.f10.f10.f10.f6) ?_))))))
        rintro _ w21 ⟨afk, afl, A21, afm, aaU, acK, Ir⟩
        have Aa := aaU
        have W9 := acK
        first
          | rw [show s.c.run = on from by rw [Nh]; simp_all] at Aa
          | rw [show false = on from by rw [Nh]; simp_all] at Aa
        refine bM ?_
        refine dh (()) ?_ ?_ ?_
        · exact (Sub.nil _)
        · exact uM
        · (try dsimp only)
          first | done | exact ⟨_, _, _, _, Aa, W9, Ir.f12.f12.f12.f12.f12.f12.f12.f12.f12.f12.f12.f12⟩
    · (try simp only [Z] at h9)
      refine bI (bI (bI (bI (iM O O (bQ O (bI (bI (bI (bI (bI (iM O O (dS O func116 (yY WZ hplA Qs aaR hxA aaS H2.f11.f11.f10.f10.f10.f6) ?_))))))))))))
      rintro _ w22 ⟨afn, afo, A22, afp, aaV, acL, OV⟩
      have Aa := aaV
      have W9 := acL
      first
        | rw [show s.c.run = on from by rw [Nh]; simp_all] at Aa
        | rw [show false = on from by rw [Nh]; simp_all] at Aa
      refine bM ?_
      refine dh (()) ?_ ?_ ?_
      · exact (Sub.nil _)
      · exact uM
      · (try dsimp only)
        first | done | exact ⟨_, _, _, _, Aa, W9, OV.f12.f12.f12.f12.f12.f12.f12.f12.f12.f12.f12.f12⟩
theorem Om (H : V w0 w (oH y s • F)) : gI prog 64 #[.pointer (some ⟨y, 0, none⟩), .int .i64 x] w fun v w' => v = .int .i64 (s.zK x) ∧ V w0 w' (oH y (s.BD x) • F) := by
 by_cases hin : s.inn = true
 ·by_cases hx : x = 0
  ·subst hx
   rw [show s.BD 0 = s.oK from by unfold dF.BD; rw [if_pos hin, if_pos rfl], show s.zK 0 = 0 from by unfold dF.zK; rw [if_pos hin]]
   exact Lj hin H
  ·rw [(Ap hin hx).1, (Ap hin hx).2]
   exact Ol hin hx H
 ·have hin' : s.inn = false := by simpa using hin
  rw [show s.BD x = s from by unfold dF.BD; rw [if_neg hin], show s.zK x = 1 from by unfold dF.zK; rw [if_neg hin]]
  refine oq func64 ntmps64 ?_
  refine jg O (aP (aP ?_))
  obtain ⟨Xk, IG, II, IJ, IK, TM, TN, A_y, TP, TQ, Oe, Og, Oh, IL, IQ, IU, IV, IW, IX, IY, IZ, I4, I5, I7, I8, oU, BR, uD⟩ := (H).Oa
  refine aC (nD O O (bD 32 aN O aO O (fG bK O (uD).get.2 O (aV (lY O) (jh O (fun h1 => ?_) (fun h => by exfalso; (try simp only [Z] at h); simp [hin'] at h))))))
  (try simp only [Z] at h1)
  refine jC O (aF (dG results64 O ?_))
  have SA := uD.f12.f12.f12.f12.f12.f12.f12.f12.f12.f12.f12.f12
  have QJ := V.rD (s := s) oU SA
  exact ⟨O, QJ⟩
end
theorem Oo (hl : List pz) : jm hl (fun _ => none) (hl.length : Int) = .empty := by
  unfold jm yP MH
  rw [if_neg (by omega)]; rfl
section
variable {w0 w : World} {F : HP} {y h : Nat} {s : dF} {hl : List pz} {base most : Int} {l : List Int} {v : Value}
set_option maxHeartbeats 1000000 in
theorem Dy {x0 x1 x2 x3 x4 x5 x6 x7 x8 x9 x10 x11 x12 uF x14 x15 x16 x17 x18 x19 x20 x21 vw x23 x24 x25 vU x27 x28 x29 x30 x31 wR x34 LK LM LP x38 x39 x40 x41 : Value} {b : Bool} (hb : b = false) (H : V w0 w (dK y (.cells (x0 :: x1 :: x2 :: x3 :: x4 :: x5 :: x6 :: x7 :: x8 :: x9 :: x10 :: x11 :: x12 :: uF :: x14 :: x15 :: x16 :: x17 :: x18 :: x19 :: x20 :: x21 :: vw :: x23 :: x24 :: x25 :: vU :: x27 :: x28 :: x29 :: x30 :: x31 :: .bool b :: wR :: x34 :: LK :: LM :: LP :: x38 :: x39 :: x40 :: x41 :: []).toArray 174 (0, 0)) • iZ h hl base most • F)) (hr : jZ w0 F .i32 v l) (hshort : l.length ≤ 1024) : gI prog 60 #[.pointer (some ⟨y, 0, none⟩), .pointer (some ⟨h, 0, none⟩), v] w fun v' w' => v' = .int .i64 0 ∧ ∃ ph pb wv nv,
    V w0 w' (dK y (.cells (.pointer (some ⟨ph, 0, none⟩) :: .pointer (some ⟨pb, 0, none⟩) :: x2 :: wv :: nv :: .int .i64 hl.length :: .string .empty :: .slice none 0 0 :: .slice none 0 0 :: x9 :: .bool false :: .int .i64 0 :: .bool false :: uF :: x14 :: x15 :: x16 :: x17 :: x18 :: x19 :: x20 :: x21 :: vw :: x23 :: x24 :: .bool false :: .bool false :: .int .i64 (-1) :: .int .i64 0 :: .int .i64 0 :: .int .i64 0 :: x31 :: .bool b :: wR :: x34 :: LK :: LM :: LP :: x38 :: x39 :: x40 :: x41 :: []).toArray 174 (0, 0)) •
      nR pb l l.length (-1) • uh 1 wv (hl.length + 1) (strs (nO hl)) • Row 9 1 nv (hl.length + 1) (strs (tY hl (fun _ => none))) • iZ ph hl base most • iZ h hl base most • F) := by
  refine FM func60 ntmps60 ?_
  refine jg O (aP (bP O (aV (fV oV O O) (iJ (Jk O (fun h1 => ?_))))))
  (try simp only [Z] at h1)
  refine fZ (aP (bP O (dJ O (bD 32 aN O aO O (fG bK O (H).get.2 O (jh O (fun h => by exfalso; (try simp only [Z] at h); simp [hb] at h) (fun h2 => ?_)))))))
  (try simp only [Z] at h2)
  refine fZ (bP O (dS O func112 (N9 H (fun W HW => hr _ (HW.right.right)) hshort) ?_))
  rintro _ w1 ⟨p1, rfl, H1⟩
  refine bQ O (rG O O (rG O O (fU O (vk O (bP O (aV (iO O O) (iJ (Jk O (fun h3 => ?_)))))))))
  (try simp only [Z] at h3)
  refine fZ (bP O (bQ O (dS O func113 (ES H1.f3) ?_)))
  rintro _ w2 ⟨q2, rfl, H2⟩
  refine dJ O (bD 0 aN O sizeOf104 O (aH (kR 0 H2.f4 sizeOf104) ?_))
  rintro _ w3 H3
  refine qH O (nD O O (bD 1 aN O dY O (bD 0 cO O sizeOf163 O (aH (kR 1 H3 sizeOf163) ?_))))
  rintro _ w4 H4
  refine qH O (nD O O (bD 0 aN O sizeOf104 O (fG oV O (H4).get.2 O (dS O func114 (IB H4.f2) ?_))))
  rintro _ w5 ⟨q5, ov5, nv5, rfl, H5⟩
  refine dJ O (aV (eU fK O ni O O (H5).get.2) (dJ O (bD 1 aN O dY O (bD 2 cO O ni O (aH (bU 3 (l' := [_, _, _, _, _, _, _, _, _, _, _, _, _, _, _, _, _, _, _, _, _, _, _, _, _, _, _, _, _, _, _, _, _, _, _, _, _, _, _, _, _, _]) (us := [_, _, _]) H5.f5 ni O O O (aW (by first | rfl | exact Rd.one ((H5.f2).aS)) (aW (by first | rfl | exact Rd.one ((H5.f3).aS)) (ay bF))) O O) ?_)))))
  rintro _ w6 H6
  refine qH O (dJ O (bD 1 aN O dY O (bD 5 cO O lN O (aH (kR 6 H6 lN) ?_))))
  rintro _ w7 H7
  refine qH O (aV (dP (zl := [.slice none 0 0, .slice none 0 0]) (pl := [(0, 1), (1, 1)]) [_, _] jq zeroValue170 O (fun w => by kernel_rfl) O (.zero (zs := [.slice none 0 0]) O (.zero (zs := [.slice none 0 0]) O .nil)) O) (dJ O (bD 1 aN O dY O (bD 6 cO O sizeOf170 O (aH (bU 7 (l' := [_, _, _, _, _, _, _, _, _, _, _, _, _, _, _, _, _, _, _, _, _, _, _, _, _, _, _, _, _, _, _, _, _, _, _, _, _, _, _, _, _, _]) (us := [_, _]) H7 sizeOf170 O O O (ay (ay bF)) O O) ?_)))))
  rintro _ w8 H8
  refine qH O (jJ O O (dJ O (bD 1 aN O dY O (bD 9 cO O aO O (aH (kR 10 H8 aO) ?_)))))
  rintro _ w9 H9
  refine dJ O (bD 1 aN O dY O (bD 10 cO O aj O (aH (kR 11 H9 aj) ?_)))
  rintro _ w10 pV
  refine dJ O (bD 1 aN O dY O (bD 11 cO O aO O (aH (kR 12 pV aO) ?_)))
  rintro _ DU qo
  refine qH O (jJ O O (dJ O (bD 25 aN O aO O (aH (kR 25 qo aO) ?_))))
  rintro _ w12 um
  refine dJ O (bD 26 aN O aO O (aH (kR 26 um aO) ?_))
  rintro _ Oz uS
  refine dJ O (bD 27 aN O aj O (aH (kR 27 uS aj) ?_))
  rintro _ RV Ag
  refine qH O (jJ O O (dJ O (bD 28 aN O aj O (aH (kR 28 Ag aj) ?_))))
  rintro _ Sr yM
  refine dJ O (bD 29 aN O aj O (aH (kR 29 yM aj) ?_))
  rintro _ w16 yH
  refine dJ O (bD 30 aN O aj O (aH (kR 30 yH aj) ?_))
  rintro _ Zc Ig
  refine iJ (jC O (dG results60 O ?_))
  have HQ := (Ig.f2.right.f5.f5.f5.f6.f5.f6).Ed
  rw [Ar, ← HY] at HQ
  exact ⟨O, _, _, _, _, by rw [← HY]; exact HQ.f2.f3.f2⟩
theorem aaW (hl : List pz) (base most : Int) : jO (dF.new hl base most) [] [] 0 0 :=
  ⟨KL hl base most, ⟨⟨fun k => ⟨by show iG [] [] ≤ 16384; decide, by show ∀ g ∈ [], _; simp⟩, by show (0 : Nat) ≤ 60; decide, .inr rfl, by show ∀ e ∈ [], _; simp⟩, fun hi => absurd hi (by show ¬ false = true; decide), fun hi => absurd hi (by show ¬ false = true; decide)⟩, rfl, rfl, ⟨List.nodup_nil, by simp⟩, fun hi => absurd hi (by show ¬ false = true; decide)⟩
theorem Oq (H : V w0 w (iZ h hl base most • F)) : gI prog 58 #[.pointer (some ⟨h, 0, none⟩)] w fun v' w' => ∃ y, v' = .tuple #[.pointer (some ⟨y, 0, none⟩), .int .i64 0] ∧ V w0 w' (oH y (dF.new hl base most) • iZ h hl base most • F) := by
  refine gG func58 ntmps58 ?_
  refine iE (fU O (vk O (bP O (aV (fV oV O O) (iJ (Jk O (fun h1 => ?_)))))))
  (try simp only [Z] at h1)
  refine fZ (iE (aV (dP (zl := [.pointer none, .pointer none, .pointer none, .slice none 0 0, .slice none 0 0, .int .i64 0, .string .empty, .slice none 0 0, .slice none 0 0, .int .i64 0, .bool false, .int .i64 0, .bool false, .pointer none, .pointer none, .slice none 0 0, .slice none 0 0, .int .i64 0, .string .empty, .slice none 0 0, .slice none 0 0, .int .i64 0, .bool false, .int .i64 0, .bool false, .bool false, .bool false, .int .i64 0, .int .i64 0, .int .i64 0, .int .i64 0, .int .i64 0, .bool false, .int .i64 0, .int .i64 0, .int .i64 0, .bool false, .bool false, .bool false, .slice none 0 0, .bool false, .bool false]) (pl := [(0, 1), (1, 12), (13, 12), (25, 1), (26, 1), (27, 1), (28, 1), (29, 1), (30, 1), (31, 1), (32, 1), (33, 1), (34, 1), (35, 1), (36, 1), (37, 1), (38, 1), (39, 1), (40, 1), (41, 1)]) [_, _, _, _, _, _, _, _, _, _, _, _, _, _, _, _, _, _, _, _, _, _, _, _, _, _, _, _, _, _, _, _, _, _, _, _, _, _, _, _, _, _] aN zeroValue174 O (fun w => by kernel_rfl) O (.zero (zs := [.pointer none]) O (.zero (zs := [.pointer none, .pointer none, .slice none 0 0, .slice none 0 0, .int .i64 0, .string .empty, .slice none 0 0, .slice none 0 0, .int .i64 0, .bool false, .int .i64 0, .bool false]) O (.zero (zs := [.pointer none, .pointer none, .slice none 0 0, .slice none 0 0, .int .i64 0, .string .empty, .slice none 0 0, .slice none 0 0, .int .i64 0, .bool false, .int .i64 0, .bool false]) O (.zero (zs := [.bool false]) O (.zero (zs := [.bool false]) O (.zero (zs := [.int .i64 0]) O (.zero (zs := [.int .i64 0]) O (.zero (zs := [.int .i64 0]) O (.zero (zs := [.int .i64 0]) O (.zero (zs := [.int .i64 0]) O (.zero (zs := [.bool false]) O (.zero (zs := [.int .i64 0]) O (.zero (zs := [.int .i64 0]) O (.zero (zs := [.int .i64 0]) O (.zero (zs := [.bool false]) O (.zero (zs := [.bool false]) O (.zero (zs := [.bool false]) O (.zero (zs := [.slice none 0 0]) O (.zero (zs := [.bool false]) O (.zero (zs := [.bool false]) O .nil)))))))))))))))))))) O) (jr (iD (l := [_, _, _, _, _, _, _, _, _, _, _, _, _, _, _, _, _, _, _, _, _, _, _, _, _, _, _, _, _, _, _, _, _, _, _, _, _, _, _, _, _, _]) H O O) ?_)))
  rintro _ w1 ⟨b1, rfl, H1⟩
  refine gJ O (bP O (aV (dP (zl := [.slice none 0 0, .int .i64 0]) (pl := [(0, 1), (1, 1)]) [_, _] underlying176 zeroValue176 O (fun w => by kernel_rfl) O (.zero (zs := [.slice none 0 0]) O (.zero (zs := [.int .i64 0]) O .nil)) O) (jr (iD (l := [_, _]) H1 O O) ?_)))
  rintro _ w2 ⟨b2, rfl, H2⟩
  refine dJ O (bD 1 aN O dY O (bD 1 cO O sizeOf164 O (aH (kR 2 H2.f2 sizeOf164) ?_)))
  rintro _ w3 H3
  refine qH O (bQ O (dS O func60 (Dy (l := []) O H3.f2.f3.f3 (fun W _ => fP.nil W _ none 0 (by decide)) (by decide)) ?_))
  rintro _ w4 ⟨rfl, ph, pb, wv, nv, H4⟩
  refine qH O (fU O (eY O (Jl results58 O O ?_)))
  have HR := ((H4.f6.f6.f6.f6.f6.f6.f7).LZ (k := .i32)).iP (e := 22) (sz := 1) none
  have HR2 := (V.Hy (E := []) (place := 0) (HR.Y1 (ls := [])).swap)
  have HR3 := ((HR2.N7.Qo (sz := 1) none).N8 (k := .i64) none)
  have hT := Oo hl
  refine ⟨_, O, V.Rz (s := dF.new hl base most) (h := ph) (pb := pb) (pk := b2) (wv := wv) (nv := nv) (pv := .slice none 0 0) (gv := .slice none 0 0) (ch := false) (u0 := .pointer none) (u1 := .pointer none) (u2 := .slice none 0 0) (u3 := .slice none 0 0) (u4 := .int .i64 0) (u5 := .string .empty) (u6 := .slice none 0 0) (u7 := .slice none 0 0) (u8 := .int .i64 0) (u9 := .bool false) (ua := .int .i64 0) (ub := .bool false) (aaW hl base most) O ?_ ?_⟩
  · show V w0 _ (dK _ (.cells (_ :: _ :: _ :: _ :: _ :: _ :: .string (jm hl (fun _ => none) (hl.length : Int)) :: _).toArray _ (0, 0)) • _)
    rw [hT]
    exact HR3.f10.f10.f5.f5.f5.f10.f10.f8.f10.f10
  · rfl
theorem Xa {es : List dQ} {A : List LE} {yf yt : Int} (h : jO s es A yf yt) (hi : s.inn = false) (hl : List pz) (base most : Int) (l : List Int) : jO (s.start hl base most l) es [] yf yt :=
  ⟨Ob h.ok hi _ _ _ _, ⟨⟨fun k => ⟨by show iG [] [] ≤ 16384; decide, by show ∀ g ∈ [], _; simp⟩, h.rx.1.2⟩, fun h2 => absurd (show s.inn = true from h2) (by rw [hi]; decide), fun h2 => absurd (show s.inn = true from h2) (by rw [hi]; decide)⟩, h.says, rfl, ⟨List.nodup_nil, by simp⟩, fun h2 => absurd (show s.inn = true from h2) (by rw [hi]; decide)⟩
theorem Ja (H : V w0 w (oH y s • iZ h hl base most • F)) (hr : jZ w0 F .i32 v l) : gI prog 60 #[.pointer (some ⟨y, 0, none⟩), .pointer (some ⟨h, 0, none⟩), v] w fun v' w' =>
  v' = .int .i64 (s.qG l) ∧ V w0 w' (oH y (s.BQ hl base most l) • iZ h hl base most • F) := by
 by_cases hin : s.inn = true
 ·have hE : s.qG l = 1 := by unfold dF.qG; rw [if_pos hin]
  unfold dF.BQ
  rw [if_neg (by rw [hE]; decide), hE]
  refine FM func60 ntmps60 ?_
  refine jg O (aP (bP O (aV (fV oV O O) (iJ (Jk O (fun h1 => ?_))))))
  (try simp only [Z] at h1)
  refine fZ (aP (aP ?_))
  obtain ⟨Xk, IG, II, IJ, IK, TM, TN, A_y, TP, TQ, Oe, Og, Oh, IL, IQ, IU, IV, IW, IX, IY, IZ, I4, I5, I7, I8, oU, BR, uD⟩ := (H).Oa
  refine aC (nD O O (bD 32 aN O aO O (fG bK O (uD).get.2 O (jh O (fun h2 => ?_) (fun h => by exfalso; (try simp only [Z] at h); simp [hin] at h)))))
  (try simp only [Z] at h2)
  refine jC O (aF (dG results60 O ?_))
  have SA := uD.f12.f12.f12.f12.f12.f12.f12.f12.f12.f12.f12.f12
  have QJ := V.rD (s := s) oU SA
  exact ⟨O, QJ.f2.f2⟩
 ·have hi : s.inn = false := by simpa using hin
  by_cases hlen : 1024 < l.length
  ·have hE : s.qG l = 3 := by unfold dF.qG; rw [if_neg hin, if_pos hlen]
   unfold dF.BQ
   rw [if_neg (by rw [hE]; decide), hE]
   refine FM func60 ntmps60 ?_
   refine jg O (aP (bP O (aV (fV oV O O) (iJ (Jk O (fun h1 => ?_))))))
   (try simp only [Z] at h1)
   refine fZ (aP (aP ?_))
   obtain ⟨Xk, IG, II, IJ, IK, TM, TN, A_y, TP, TQ, Oe, Og, Oh, IL, IQ, IU, IV, IW, IX, IY, IZ, I4, I5, I7, I8, oU, BR, uD⟩ := (H).Oa
   refine aC (nD O O (bD 32 aN O aO O (fG bK O (uD).get.2 O ?_)))
   have SA := uD.f12.f12.f12.f12.f12.f12.f12.f12.f12.f12.f12.f12
   have QJ := V.rD (s := s) oU SA
   refine jh O (fun h => by exfalso; (try simp only [Z] at h); simp [hi] at h) (fun h2 => ?_)
   (try simp only [Z] at h2)
   refine fZ (bP O (dS O func112 (La QJ (fun W HW => hr W HW.right.right) hlen) ?_))
   rintro _ _ ⟨rfl, rfl⟩
   refine bQ O (rG O O (rG O O (fU O (vk O (bP O (aV (iO O O) (iJ (wcE O (fun h3 => ?_)))))))))
   (try simp only [Z] at h3)
   refine bP O (eY O (aF (dG results60 O ?_)))
   exact ⟨O, QJ.f2.f2⟩
  ·have hE : s.qG l = 0 := by unfold dF.qG; rw [if_neg hin, if_neg hlen]
   unfold dF.BQ
   rw [if_pos hE, hE]
   obtain ⟨h0, pb, pk, wv, nv, pv, gv, A, nw, es, yf, yt, ch, u0, u1, u2, u3, u4, u5, u6, u7, u8, u9, ua, ub, ok, pl, H⟩ := H.Oa
   have HI := H.f13
   refine (Dy hi (hr := fun W HW => hr W HW.right.right.right.right.right.right.right.right.right.right.right) (l := l) HI.f2 (by omega)).mono fun v' w' h9 => ?_
   obtain ⟨e9, ph, pb', wv', nv', H9⟩ := h9
   refine ⟨e9, ?_⟩
   have pV := H9.f7.right.f8.right.f8.right.f8.right.f8.right.f8.right.f8.right
   have HR3 := ((pV.N7.Qo (sz := 1) none).N8 (k := .i64) none)
   have HX := HR3.f9.f13.f13.f13.f12.f8.f8.f8.f12.f12.f13.f13.f13
   rw [← Oo hl, show AL s.inn s.hl s.was [u0, u1, u2, u3, u4, u5, u6, u7, u8, u9, ua, ub] = AL s.inn hl s.was [u0, u1, u2, u3, u4, u5, u6, u7, u8, u9, ua, ub] from by rw [hi]; rfl] at HX
   refine V.rD (y := y) (s := s.start hl base most l) (h := ph) (pb := pb') (pk := pk) (wv := wv') (nv := nv') (pv := .slice none 0 0) (gv := .slice none 0 0) (nw := nw) (es := es) (ch := ch) (u0 := u0) (u1 := u1) (u2 := u2) (u3 := u3) (u4 := u4) (u5 := u5) (u6 := u6) (u7 := u7) (u8 := u8) (u9 := u9) (ua := ua) (ub := ub) (Xa ok hi hl base most l) ?_
   rw [show (s.start hl base most l).y9 = 0 from if_neg (by show ¬ s.inn = true; simp [hi]), show (s.start hl base most l).Ua = 0 from if_neg (by show ¬ s.inn = true; simp [hi]), show (s.start hl base most l).Ub = 0 from if_neg (by show ¬ s.inn = true; simp [hi])]
   exact HX
end
def xW (l : List Int) : dF := ((((dF.new [] 1 5).BQ [] 1 5 l).jW).yg 2).BD 0
section
variable {w0 w : World} {F : HP} {v : Value} {l : List Int}
theorem JO (H : V w0 w F) (hr : jZ w0 F .i32 v l) : gI prog 21 #[v] w fun v' w' => ∃ e y, v' = .tuple #[.pointer (some ⟨e, 0, none⟩), .pointer (some ⟨y, 0, none⟩), .bool true] ∧ V w0 w' (gB e (xW l) • oH y (xW l) • F) := by
 refine gG func21 ntmps21 ?_
 refine iE (fU O (fU O (gJ O (iE (dS O func55 (KC H (by omega)) ?_)))))
 rintro _ w1 ⟨p1, rfl, H1⟩
 refine bQ O (rG O O (rG O O (fU O (gJ O (iE (dS O func56 (Iz H1 (by omega)) ?_))))))
 rintro _ w2 ⟨p2, rfl, H2⟩
 refine bQ O (rG O O (rG O O (fU O (vk O (bP O (aV (iO O O) (QA O (fun h1 => ?_))))))))
 (try simp only [Z] at h1)
 refine bC (bQ O (bC (aV (iO O O) (iM O O (iJ (Jk O (fun h2 => ?_)))))))
 (try simp only [Z] at h2)
 refine fZ (bP O (dS O func57 (PZ H2.f2) ?_))
 rintro _ w3 ⟨e3, rfl, H3⟩
 refine bQ O (rG O O (rG O O (fU O (gJ O (bP O (dS O func58 (Oq H3.f3) ?_))))))
 rintro _ w4 ⟨y4, rfl, H4⟩
 refine bQ O (rG O O (rG O O (fU O (vk O (bP O (aV (iO O O) (QA O (fun h3 => ?_))))))))
 (try simp only [Z] at h3)
 refine bC (bQ O (bC (aV (iO O O) (iM O O (QA O (fun h4 => ?_))))))
 (try simp only [Z] at h4)
 refine bC (bQ O (bC (aV (fV iU O O) (iM O O (iJ (Jk O (fun h5 => ?_)))))))
 (try simp only [Z] at h5)
 refine fZ (aP (bP O (jJ O O (dS O func59 (Lc H4.f4.f4 (fun W HW => hr _ (HW.right.right))) ?_))))
 rintro _ w5 ⟨rfl, H5⟩
 refine jJ O O (bQ O (dS O func60 (Ja H5.f4.f4 (fun W HW => hr _ (HW.right.right))) ?_))
 rintro _ w6 ⟨rfl, H6⟩
 refine aV (iO O O) (iJ (Jk O (fun h6 => ?_)))
 (try simp only [Z] at h6)
 refine fZ (bP O (dS O func29 (Dj H6.f3) ?_))
 rintro _ w7 ⟨rfl, H7⟩
 refine qH O (dS O func61 (I9 H7.f2) ?_)
 rintro _ w8 ⟨rfl, H8⟩
 refine qH O (dS O func62 (NC H8.f2) ?_)
 rintro _ w9 ⟨rfl, H9⟩
 refine qH O (dS O func63 (Le H9.f2) ?_)
 rintro _ w10 ⟨rfl, pV⟩
 refine qH O (jJ O O (dS O func31 (BO pV.f2) ?_))
 rintro _ DU ⟨rfl, qo⟩
 refine bQ O (dS O func64 (Om qo.f2) ?_)
 rintro _ w12 ⟨rfl, um⟩
 refine aV (dV O O) (fU O (fU O (eY O ?_)))
 refine gY (.inl O) results21 O O O ?_
 exact ⟨_, _, by simp, um.f3.right.f3.right.f2⟩
end
def Ie : List Int := [102, 111, 111, 32, 98, 97, 114]
theorem Eh : zS rC := ⟨7, by decide, rfl⟩
theorem YE : nX rC [119] = 0 := GK Eh (by decide) fun h => absurd ((fE rfl).1 h).2 (by decide)
theorem YF : nX rC [98] = 0 := GK Eh (by decide) fun h => absurd ((fE rfl).1 h).2 (by decide)
theorem YG : nX rC [102] = 1 := Nj Eh ((fE rfl).2 ⟨rfl, by decide⟩)
namespace dF
variable (s : dF)
def YH (M : VM) (keys : List Int) : Int := (s.jW.WH M keys (max s.jW.count 1)).Wq (s.jW.WG M keys (max s.jW.count 1))
def TS (M : VM) (keys : List Int) : dF := (s.jW.WH M keys (max s.jW.count 1)).doS (s.jW.WG M keys (max s.jW.count 1))
end dF
def VM.went (M : VM) (s : dF) (keys : List Int) : VM := if s.YH M keys = 0 then M.sought s.jW.c.L s.jW.c.pt keys (max s.jW.count 1) else M
theorem Xb : uU Ie 0 119 0 1 = (4, false, true) := by kernel_rfl
theorem aaX : (xW Ie).inn = false := by kernel_rfl
theorem Xc : (xW Ie).YH VM.new [119] = 6 := by kernel_rfl
theorem aaY : VM.went VM.new (xW Ie) [119] = VM.new := by unfold VM.went; rw [if_neg (by rw [Xc]; decide)]
theorem YI : ((xW Ie).TS VM.new [119]).inn = false := by kernel_rfl
theorem aaZ : ((xW Ie).TS VM.new [119]).YH VM.new [98] = 0 := by kernel_rfl
theorem aa0 : (((xW Ie).TS VM.new [119]).TS VM.new [98]).c.pt = 4 := by kernel_rfl
theorem TT : ¬ (wu rC ∨ oP rC) := by
  unfold wu oP
  rintro ((h | h | h | h) | (h | h | h | h | h)) <;> exact absurd h (Bh (by decide))
theorem YJ {M : VM} {keys : List Int} {n x : Int} : M.did rC keys n x = M := BP fun h => TT h.1
theorem Ll (s : dF) : s.jW.count = s.count := by unfold dF.jW; split <;> rfl
section
variable {w0 w : World} {F : HP} {m e : Nat} {s : dF} {keys : List Int} {kv : Value} {M : VM}
theorem RD (H : V w0 w (oL m M • gB e s • F)) (hT : yG w0) (hi : s.inn = false) (hk : jZ w0 F .i32 kv keys) (hkl : keys.length * 4 ≤ 140737488355328) (hw : nX rC keys = 0) :
    gI prog 24 #[.pointer (some ⟨m, 0, none⟩), .pointer (some ⟨e, 0, none⟩), .string rC, kv] w fun v w' => v = .int .i64 (s.YH M keys) ∧ V w0 w' (oL m (M.went s keys) • gB e (s.TS M keys) • F) := by
  have hco := JF s (Ws H.f2)
  refine (Yi H hi hk hkl hw (TF hT ?_)).mono ?_
  · rw [Ll]; omega
  · rintro v w' ⟨x, t, M', ⟨rfl, rfl, rfl⟩, rfl, H⟩
    exact ⟨rfl, by unfold VM.went; unfold VM.doM at H; rw [YJ] at H; exact H⟩
theorem wG {s : ByteArray} {l : List Int} (H : V w0 w F) (hl : Conv.runesFrom s s.size 0 #[] = (l.map (Value.int .i32)).toArray) (hb : l.length ≤ 70368744177664) :
    gI prog 34 #[.string s] w fun v w' => V w0 w' (kQ 21 .i32 v l • F) := by
  refine gG func34 ntmps34 ?_
  refine jg O (bP O (jr (LJ H iW aB bg O hl hb) ?_))
  rintro u w1 H1
  refine eY O (dG results34 O ?_)
  exact H1
theorem TU (H : V w0 w F) (hT : yG w0) : gI prog 13 #[] w fun v w' => v = .bool true ∧ V w0 w' F := by
  refine RQ func13 ntmps13 ?_
  refine jg O (iE (dS O func34 (wG H (l := Ie) (by kernel_rfl) (by decide)) ?_))
  rintro u1 w1 H1
  refine dS O func21 (JO H1 (fun W HW => (HW).aS)) ?_
  rintro _ w2 ⟨e2, y2, rfl, H2⟩
  have OA := H2.f3.right
  refine bQ O (rG O O (rG O O (rG O O (fU O (fU O (gJ O (iE (dS O func22 (GN OA) ?_))))))))
  rintro _ w4 ⟨m4, rfl, H4⟩
  refine vk O (bP O (aV (lY O) (QA O (fun h1 => ?_))))
  (try simp only [Z] at h1)
  refine bC (bQ O (bC (aV (fV iU O O) (iM O O (QA O (fun h2 => ?_))))))
  (try simp only [Z] at h2)
  refine bC (bQ O (bC (aV (fV lG O O) (iM O O (iJ (Jk O (fun h3 => ?_)))))))
  (try simp only [Z] at h3)
  refine fZ (iE (dS O func34 (wG H4 (l := Ie) (by kernel_rfl) (by decide)) ?_))
  rintro u5 w5 H5
  refine dS O func11 (zX H5 (fun W HW => (HW).aS) hT (by decide) (by decide)) ?_
  rintro _ w6 ⟨rfl, H6⟩
  refine bQ O (rG O O (rG O O (rG O O (fU O (fU O (gJ O (bP O (aV (dV O O) (jP O (fun h4 => ?_) (fun h => by exfalso; (try simp only [Z] at h); exact h (by rw [Xb])))))))))))
  (try simp only [Z] at h4)
  refine bC (bQ O (jF O O (jP O (fun h5 => ?_) (fun h => by exfalso; (try simp only [Z] at h); rw [Xb] at h; exact absurd h (by decide)))))
  (try simp only [Z] at h5)
  refine bC (bQ O (bC (bQ O (bC (jr (vT (k := .i32) (l := [119]) H6 aB bT uO O O O (by decide)) ?_)))))
  rintro l7 w7 H7
  refine bC (dS O func24 (RD (s := xW Ie) (M := VM.new) (keys := [119]) H7.f4.f4 hT aaX (fun W HW => (HW).aS) (by decide) YE) ?_)
  rintro _ w8 ⟨rfl, H8⟩
  have HX := H8
  rw [aaY] at HX
  refine bC (aV (dV O O) (jF O O (jP O (fun h6 => ?_) (fun h => by exfalso; (try simp only [Z] at h); exact h Xc))))
  (try simp only [Z] at h6)
  refine bC (bQ O (bC (bQ O (bC (jr (vT (k := .i32) (l := [98]) HX aB bT uO O O O (by decide)) ?_)))))
  rintro l9 w9 H9
  refine bC (dS O func24 (RD (s := (xW Ie).TS VM.new [119]) (M := VM.new) (keys := [98]) H9.f3.f3 hT YI (fun W HW => (HW).aS) (by decide) YF) ?_)
  rintro _ w10 ⟨rfl, pV⟩
  refine bC (aV (dV O O) (jF O O (jP O (fun h7 => ?_) (fun h => by exfalso; (try simp only [Z] at h); exact h aaZ))))
  (try simp only [Z] at h7)
  refine bC (bQ O (bC (dS O func28 (zU pV.f2) ?_)))
  rintro _ DU ⟨u11, rfl, qo⟩
  refine bC (aV (EG 1 jl O O (dn aK O) O O) (bC (aV (dV O O) (jF O O (jP O (fun h8 => ?_) (fun h => by exfalso; (try simp only [Z] at h); exact h aa0))))))
  (try simp only [Z] at h8)
  refine bC (jr (vT (k := .i32) (l := [102]) qo aB bT uO O O O (by decide)) ?_)
  rintro l12 w12 um
  refine bC (dS O func16 (BJ um (fun W HW => (HW).aS)) ?_)
  rintro _ Oz ⟨rfl, uS⟩
  refine bC ?_
  refine aV (Jf (dV O O) (by exact beq_iff_eq.2 YG)) ?_
  refine jF O O (eY O (dG results13 O ?_))
  exact ⟨O, uS.right.right.right.right.right.right.right.right⟩
end
def RF (w0 : World) (F : HP) (bv : Value) : Prop := ∀ (G : HP) (W : World), V w0 W (G • F) → gI prog 65 #[bv] W fun v w' => v = .bool true ∧ W = w'
theorem Ot {w : World} : gI prog 65 #[.pointer none] w fun v w' => v = .bool true ∧ w = w' := by
  refine gG func65 ntmps65 ?_
  refine jg O (bP O (aV (fV iU O O) (xsE O (fun h1 => ?_))))
  (try simp only [Z] at h1)
  refine bI (bI (bI (bI (bI (jF O O (eY O (dG results65 O ?_)))))))
  exact ⟨O, O⟩
theorem uf {w : World} : gI prog 69 #[.pointer none] w fun v w' => v = .bool true ∧ w = w' := by
  refine gG func69 ntmps69 ?_
  refine jg O (bP O (aV (fV lG O O) (xsE O (fun h1 => ?_))))
  (try simp only [Z] at h1)
  refine bI (bI (bI (bI (bI (jF O O (eY O (dG results69 O ?_)))))))
  exact ⟨O, O⟩
section
variable {w0 w : World} {F G : HP} {bv v u : Value} {name : ByteArray} {m : Nat} {M : VM}
theorem Qu {b : Nat} {cs : Array Value} (H : V w0 w (dK b (.cells cs 82 (0, 0)) • F)) (h : cs[11]? = some (.pointer none)) : gI prog 65 #[.pointer (some ⟨b, 0, none⟩)] w fun v w' => v = .bool true ∧ w = w' := by
  refine gG func65 ntmps65 ?_
  refine jg O (bP O (aV (fV iU O O) (jP O (fun h1 => ?_) (fun h1 => ?_))))
  · (try simp only [Z] at h1)
    try (exfalso; first | contradiction | omega)
    all_goals
      refine bI (bI (bI (bI (bI (jF O O (eY O (dG results65 O ?_)))))))
      exact ⟨O, O⟩
  · (try simp only [Z] at h1)
    try (exfalso; first | contradiction | omega)
    all_goals
      refine bC (bQ O (bC (dJ O (bC (bD 11 ah O sizeOf78 O (bC (fG iT O H.get.2 h (bC (aV (fV iT O O) (iM O O (eY O (dG results65 O ?_))))))))))))
      exact ⟨O, O⟩
theorem Ou (H : V w0 w (G • F)) (hu : RF w0 F bv) : gI prog 70 #[bv] w fun v' w' => v' = .pointer none ∧ w = w' := by
  refine gG func70 ntmps70 ?_
  refine jg O (aP (bP O (dS O func65 (hu _ _ H) ?_)))
  rintro _ _ ⟨rfl, rfl⟩
  refine iJ (EK (jC O (aF (dG results70 O ?_))))
  exact ⟨O, O⟩
theorem Ov (H : V w0 w (oL m M • G • F)) (hu : RF w0 F bv) : gI prog 24 #[.pointer (some ⟨m, 0, none⟩), bv, .string name, v] w fun v' w' => v' = .int .i64 2 ∧ w = w' := by
  refine XB func24 ntmps24 ?_
  refine jg O (aP (aY (bP O (dS O func69 (wX H) ?_))))
  rintro _ _ ⟨rfl, rfl⟩
  refine bQ O (bC (bQ O (bC (dS O func70 (Ou (H).right hu) ?_))))
  rintro _ _ ⟨rfl, rfl⟩
  refine bC (aV (fV iU O O) (iM O O (gJ O (wcE O (fun h1 => ?_)))))
  (try simp only [Z] at h1)
  refine jC O (aT (aF (dG results24 O ?_)))
  exact ⟨O, O⟩
theorem YK : gI prog 24 #[.pointer none, bv, .string name, v] w fun v' w' => v' = .int .i64 2 ∧ w = w' := by
  refine XB func24 ntmps24 ?_
  refine jg O (aP (aY (bP O (dS O func69 (uf) ?_))))
  rintro _ _ ⟨rfl, rfl⟩
  refine bQ O (bI (bI (bI (jF O O (gJ O (EK (jC O (aT (aF (dG results24 O ?_))))))))))
  exact ⟨O, O⟩
theorem Qv : gI prog 35 #[.pointer none] w fun v' w' => w = w' := by
 refine gG func35 ntmps35 ?_
 refine bP O (dS O func69 (uf) ?_)
 rintro _ _ ⟨rfl, rfl⟩
 refine aV (lY O) (iJ (Jk O (fun h1 => ?_)))
 (try simp only [Z] at h1)
 refine bY (lg (.inr O) results35 ?_)
 exact rfl
theorem Ox : gI prog 36 #[.pointer none] w fun v' w' => v' = .tuple #[.string ⟨#[]⟩, .slice none 0 0] ∧ w = w' := by
  refine gG func36 ntmps36 ?_
  refine iE (fU O (vk O (bP O (dS O func69 (uf) ?_))))
  rintro _ _ ⟨rfl, rfl⟩
  refine iJ (EK (iE (fU O (eY O (aF (Jl results36 O O ?_))))))
  exact ⟨O, O⟩
theorem TV : gI prog 37 #[.pointer none] w fun v' w' => v' = .tuple #[.int .i32 0, .int .i32 0] ∧ w = w' := by
  refine gG func37 ntmps37 ?_
  refine iE (fU O (vk O (bP O (dS O func69 (uf) ?_))))
  rintro _ _ ⟨rfl, rfl⟩
  refine iJ (EK (iE (fU O (eY O (aF (Jl results37 O O ?_))))))
  exact ⟨O, O⟩
theorem Qw : gI prog 38 #[.pointer none] w fun v' w' => v' = .pointer none ∧ w = w' := by
  refine gG func38 ntmps38 ?_
  refine jg O (aP (bP O (dS O func69 (uf) ?_)))
  rintro _ _ ⟨rfl, rfl⟩
  refine iJ (EK (jC O (aF (dG results38 O ?_))))
  exact ⟨O, O⟩
end
end Go.Proofs.YtpdeedplgmbopaaGreatDoor
end
