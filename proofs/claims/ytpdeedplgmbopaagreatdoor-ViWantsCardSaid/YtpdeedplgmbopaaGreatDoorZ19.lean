import Derived.Test.YtpdeedplgmbopaaGreatDoorZ4
import Derived.Test.YtpdeedplgmbopaaGreatDoorZ18
import Derived.Test.YtpdeedplgmbopaaGreatDoorZ14
import Derived.Test.YtpdeedplgmbopaaGreatDoorZ12
import Derived.Test.YtpdeedplgmbopaaGreatDoorZ17
set_option linter.unusedSimpArgs false
set_option linter.unusedVariables false
/- Texts of mine, joined, their names in short: REdF REdE REdN VBoth VLive LawVWants. -/
section
namespace Go.Proofs.YtpdeedplgmbopaaGreatDoor
open Go.RowKit
open _root_.Go.Proofs.Tryz
theorem AX.one {I : Hp} {sz n : Nat} {v : Value} {xs : List Value} (h : AX I sz v n xs) : v.oneCell' = true := by obtain ⟨_, a, c, rfl, _⟩ := h; rfl
section
variable {w0 w : World} {F : HP} {p y h : Nat} {s : dJ} {u v lv : Value} {es les : List dV} {gs : List (Value × List dV)} {on : Bool}
theorem V.WY (H : V w0 w (nO gs • F)) : ∀ x ∈ gs.map (·.1), x.oneCell' = true := by
  obtain ⟨I, h, hI⟩ := H.qF
  intro x hx
  obtain ⟨g, hg, rfl⟩ := List.mem_map.1 hx
  obtain ⟨k, hk, rfl⟩ := List.getElem_of_mem hg
  have := h k hk
  rw [List.getD_eq_getElem?_getD, List.getElem?_eq_getElem hk] at this
  exact this.1.one
theorem V.YF (H : V w0 w (Bf v es • F)) : V w0 w (kK es • Bf v es • F) := H.qV.DW (oG (fun I h => h.2) _)
theorem WZ {α : Type _} (l : List α) (u : α) (h : l ≠ []) : l.set (l.length - 1) u = l.dropLast ++ [u] := by
  have e := List.dropLast_concat_getLast h
  have hl : l.dropLast.length = l.length - 1 := List.length_dropLast
  conv => lhs; rw [← e]
  rw [List.set_append_right _ _ (by simp)]
  simp
theorem V.TV (hg : gs ≠ []) (H : V w0 w (Row 80 1 v gs.length ((gs.map (·.1)).set (gs.length - 1) u) • Bf u es • nO gs • F)) : V w0 w (glK v (gs.dropLast ++ [(u, es)]) • F) := by
  have h0 : 0 < gs.length := List.length_pos_iff.2 hg
  have H1 := (H.f3).MH (gs.length - 1)
  rw [← List.dropLast_eq_take] at H1
  have hm : (gs.map (·.1)).set (gs.length - 1) u = gs.dropLast.map (·.1) ++ [u] := by
    have := WZ (gs.map (·.1)) u (by simpa using hg)
    rw [List.length_map] at this
    rw [this, List.map_dropLast]
  have hl : gs.length = gs.dropLast.length + 1 := by rw [List.length_dropLast]; omega
  rw [hm, hl] at H1
  exact (V.qM (H1.f2.f3.f2)).Aj
theorem JY (gs : List (Value × List dV)) (x : Value × List dV) : Ai (gs ++ [x]) = Ai gs ++ [x.2.map dV.says] := by unfold Ai; rw [List.map_append]; rfl
theorem Ov (hG : Ai gs = s.here) (hne : gs ≠ []) (hl : gs.getD (gs.length - 1) default = (lv, les)) (hes : es.map dV.says = s.put) (hp : s.put ≠ []) : Ai (gs.dropLast ++ [(u, les ++ es)]) = s.kY true := by
  have h0 : s.here ≠ [] := by rw [← hG]; unfold Ai; simpa using hne
  have h1 : s.here.getLast h0 = les.map dV.says := by
    have e : s.here.getLast? = some (les.map dV.says) := by
      rw [← hG]; unfold Ai
      rw [List.getLast?_map, List.getLast?_eq_getElem?]
      rw [List.getD_eq_getElem?_getD, List.getElem?_eq_getElem (by have := List.length_pos_iff.2 hne; omega)] at hl
      rw [List.getElem?_eq_getElem (by have := List.length_pos_iff.2 hne; omega)]
      simp only [Option.getD_some] at hl
      rw [hl]; rfl
    rw [List.getLast?_eq_some_getLast h0] at e
    exact Option.some.inj e
  unfold dJ.kY
  rw [if_neg hp, if_pos rfl, List.getLast?_eq_some_getLast h0, JY]
  have h2 : Ai gs.dropLast = s.here.dropLast := by rw [← hG]; unfold Ai; rw [List.map_dropLast]
  rw [h1, h2]
  show _ ++ [(les ++ es).map dV.says] = _
  rw [List.map_append, hes]
theorem Io (hG : Ai gs = s.here) (hes : es.map dV.says = s.put) (hp : s.put ≠ []) (h : ¬ (on = true ∧ 0 < gs.length)) : Ai (gs ++ [(u, es)]) = s.kY on := by
  unfold dJ.kY
  rw [if_neg hp, JY, hG]
  show s.here ++ [es.map dV.says] = _
  rw [hes]
  cases on with
  | false => rw [if_neg (by decide)]
  | true =>
    have h0 : s.here = [] := by
      have : gs = [] := List.eq_nil_of_length_eq_zero (by by_cases hx : 0 < gs.length; exact absurd ⟨rfl, hx⟩ h; omega)
      rw [← hG, this]; rfl
    rw [if_pos rfl, h0]; rfl
theorem y8 {x0 x1 x2 x3 x4 x6 x9 x10 x11 x12 uO x14 x15 x16 x17 x18 x19 x20 x21 vI x23 x24 x25 wo x27 x28 x29 x30 x31 x32 wX x34 LY LZ L6 x38 x40 x41 : Value} {pv gv nw : Value} {A : List LE} (hA : Fe A = s.c.un) (hP : uM s.hl A) (hS : es.map dV.says = s.put) (hok : lT s) (hx : DL s.c) (hhl : s.hl.length ≤ 4096)
  (H : V w0 w (dM y (.cells (x0 :: x1 :: x2 :: x3 :: x4 :: .int .i64 s.c.place :: x6 :: pv :: gv :: x9 :: x10 :: x11 :: x12 :: uO :: x14 :: x15 :: x16 :: x17 :: x18 :: x19 :: x20 :: x21 :: vI :: x23 :: x24 :: x25 :: wo :: x27 :: x28 :: x29 :: x30 :: x31 :: x32 :: wX :: x34 :: LY :: LZ :: L6 :: x38 :: nw :: x40 :: x41 :: []).toArray 174 (0, 0)) • mQ .i64 pv (A.map (·.1)) • uy 1 gv A.length (A.map (·.2.1)) • qj A • Row 189 3 nw es.length (es.flatMap dV.enc) • kK es • F)) :
  gQ prog 116 #[.pointer (some ⟨y, 0, none⟩), .bool on] w fun _ w' => ∃ pv' gv' A' nw', Fe A' = (s.gI on).c.un ∧ uM s.hl A' ∧
   V w0 w' (dM y (.cells (x0 :: x1 :: x2 :: x3 :: x4 :: .int .i64 s.c.place :: x6 :: pv' :: gv' :: x9 :: x10 :: x11 :: x12 :: uO :: x14 :: x15 :: x16 :: x17 :: x18 :: x19 :: x20 :: x21 :: vI :: x23 :: x24 :: x25 :: wo :: x27 :: x28 :: x29 :: x30 :: x31 :: x32 :: wX :: x34 :: LY :: LZ :: L6 :: x38 :: nw' :: x40 :: x41 :: []).toArray 174 (0, 0)) • mQ .i64 pv' (A'.map (·.1)) • uy 1 gv' A'.length (A'.map (·.2.1)) • qj A' • Row 189 3 nw' 0 [] • kK [] • F) := by
 have afg := TQ hx
 have hput := hok.2.2.2.2.1
 have hsp := oq s.here s.put
 have hpl := Qw hP (by omega)
 have hlp : es.length = s.put.length := by rw [← hS]; simp
 refine nH func116 ntmps116 ?_
 refine aO (bT O (dL O (bF 39 aP O bJ O (gq aV O (H).get.2 O (Z (iW ((H.f5).aT) aV O) (Z (dO O O) (iV O (fun h1 => ?_) (fun h1 => ?_))))))))
 ·(try simp only [aF] at h1)
  have he : es = [] := List.eq_nil_of_length_eq_zero (by omega)
  have hp : s.put = [] := List.eq_nil_of_length_eq_zero (by omega)
  refine mG (aG (we0 results116 ?_))
  subst he
  exact ⟨pv, gv, A, nw, by rw [yY hp]; exact hA, hP, H.f6.f6.f6.f6.f6.f6⟩
 ·(try simp only [aF] at h1)
  have hp : s.put ≠ [] := fun hx => h1 (by rw [hlp, hx]; rfl)
  refine fV (bT O (dL O (bF 1 aP O eH O (bF 2 dh O nC O (bF 2 fP O aj O (gq aN O (H).get.2 O (gB O (bT O (dL O (bF 1 aP O eH O (bF 6 dh O sizeOf170 O (bQ O (eG O func155 (QA H.f4.f4.f4.f4) ?_)))))))))))))
  rintro u1 w1 ⟨gs1, ad6, H1⟩
  obtain ⟨gu, rfl⟩ : ∃ q, q = u1 := ⟨_, rfl⟩
  obtain ⟨gs, rfl⟩ : ∃ q, q = gs1 := ⟨_, rfl⟩
  have hG : Ai gs = s.here := by rw [ad6, hA]; rfl
  have hgl : gs.length = s.here.length := by rw [← hG]; exact (List.length_map _).symm
  have Z9 := H1.f2.f2
  have XZ := Z9
  have hone := (XZ.f2).WY
  refine gB O (jk O (bT O (bQ O (jy (fZ (XZ.iP none) bg EG O O O ((XZ).oI) (by assumption) (by omega) (by omega)) ?_))))
  rintro l4 w4 H4
  have Xn := H4
  rw [Nat.zero_add, List.nil_append] at Xn
  refine gB O ?_
  refine jW [(0, _), (4, _)] (fun (ou : Value) => [(6, ou)]) (fun (ou : Value) W => ∃ gs, Ai gs = s.kY on ∧ V w0 W (uy 1 ou gs.length (gs.map (·.1)) • nO gs • dM y (.cells (x0 :: x1 :: x2 :: x3 :: x4 :: .int .i64 s.c.place :: x6 :: pv :: gv :: x9 :: x10 :: x11 :: x12 :: uO :: x14 :: x15 :: x16 :: x17 :: x18 :: x19 :: x20 :: x21 :: vI :: x23 :: x24 :: x25 :: wo :: x27 :: x28 :: x29 :: x30 :: x31 :: x32 :: wX :: x34 :: LY :: LZ :: L6 :: x38 :: nw :: x40 :: x41 :: []).toArray 174 (0, 0)) • mQ .i64 pv (A.map (·.1)) • uy 1 gv A.length (A.map (·.2.1)) • qj A • F)) oO ?_ ?_
  ·rintro ou w5 ⟨gs, hG, HJ⟩
   dsimp only [List.cons_append, List.nil_append]
   refine bT O (dL O (bF 1 aP O eH O (bF 6 dh O sizeOf170 O (jF O O (eG O func156 (Om HJ.f2.f2.f6.f6.f6.f6 (by assumption)) ?_)))))
   rintro _ w6 ⟨pv6, gv6, H6⟩
   refine iK (aB (nG O O (bF 39 aP O bJ O (aK (kW 39 H6 bJ) ?_))))
   rintro _ w7 H7
   refine bP (lX (.inr O) results116 ?_)
   have HQ := (H7.f4.f4.f4.f4).rD none |>.ZO
   refine ⟨_, _, _, _, ?_, Qz hP ⟨hok.1.1, hok.1.2.1⟩, HQ.f6.f6.f6.f6⟩
   rw [lN hp, Yz, hA, hG]; rfl
  ·skip
   refine bT O (jL O (fun h2 => ?_) (fun h2 => ?_))
   ·(try simp only [aF] at h2)
    refine bC (bQ O (bC (Z (iW ((Xn).aT) bg O) (bC (Z (jc O O) (jw O O (iV O (fun h3 => ?_) (fun h3 => ?_))))))))
    ·(try simp only [aF] at h3)
     refine aO ?_
     have ad7 : on = true := by first | assumption | (simp_all; done)
     have hne : gs ≠ [] := fun hx => by subst hx; simp at *
     refine aB (gB O (bT O (jF O O (Z (iW ((Xn).aT) bg O) (Z (lu O O (by omega)) ?_)))))
     obtain ⟨bl4, ol4, cl4, el4⟩ := Rd.nX ((Xn).aT) (by omega)
     cases el4
     refine Z (dw bg bJ O O (by omega)) ?_
     refine Z (dR (bV aV O) O (by first | exact Rd.jT ((Xn).aT) (by omega) | exact Rd.rP ((Xn).aT) (by omega) | exact Rd.rO ((Xn).aT) (by omega))) ?_
     rw [show (gs.map (·.1)).getD (((gs.length : Nat) : Int) - 1).toNat undef = (gs.getD (gs.length - 1) default).1 from by have := List.length_pos_iff.2 hne; rw [show (((gs.length : Nat) : Int) - 1).toNat = gs.length - 1 from by omega]; simp [List.getD_eq_getElem?_getD, show gs.length - 1 < gs.length from by omega]]
     obtain ⟨gl, wO, hg⟩ : ∃ gl wO, gs.getD (gs.length - 1) default = (gl, wO) := ⟨_, _, rfl⟩
     rw [hg]
     have Ho8 := Xn.f3
     have Yj := Ho8.Fz (by have := List.length_pos_iff.2 hne; omega) hg
     have aeB := (Yj).U9
     have hgm : wO.map dV.says ∈ s.here := by rw [← hG]; exact List.mem_map.2 ⟨(gl, wO), by rw [← hg]; exact vJ (by have := List.length_pos_iff.2 hne; omega), rfl⟩
     have hgb := FB hgm
     rw [List.length_map] at hgb
     have afh : wO.length ≤ 16384 := by unfold iH at hput; omega
     refine jy (fZ (Yj.iP none) aV zO O O O ((Yj).uH) (by assumption) (by omega) (by omega)) ?_
     rintro l10 w10 ql
     have HX7 := ql
     rw [Nat.zero_add, List.nil_append] at HX7
     refine gB O ?_
     have aeC := (HX7.f11).zN
     refine aB (jF O O (Z (nM bg O) (Z (lu O O (by omega)) (jF O O (dL O (bF 39 aP O bJ O (gq aV O (HX7.f6).get.2 O (jy (fZ HX7 aV zO O O O ((HX7.f10).aT) (by assumption) (by omega) (by omega)) ?_))))))))
     rintro l11 EI rE
     refine Z (dw bg bJ O O (by omega)) (aK (Ko 0 rE.f4 bJ O O (by first | rfl | exact Rd.one ((rE).aT)) (by omega) (by decide)) ?_)
     rintro _ w12 uG
     have aaw := uG.f3
     have aax := (aaw.YF).f2.right
     have aam := aax.f11.f2.f4
     have aan := V.oV (es := wO ++ es) (V.deep (V.FH rfl aam))
     have PI := aan.f2
     have HX8 := PI
     rw [show (((gs.length : Nat) : Int) - 1).toNat * 1 + 0 = gs.length - 1 from by omega] at HX8
     have aar := HX8.f3.f3.f3
     have aas := (V.TV hne aar).Rz
     have hGJ := Ov (s := s) (u := l11) hG hne hg hS hp
     rw [← ad7] at hGJ
     refine bP ?_
     refine cO (_) kD oO (by (try dsimp only); exact ⟨_, hGJ, aas.f3.right.f7.right.f6.f6.f6.f6.f6.f6⟩)
    ·(try simp only [aF] at h3)
     have VK := Xn.f9.f9
     have P7 := V.oV (v := nw) (es := es) (V.deep VK)
     have hnj : ¬ (on = true ∧ 0 < gs.length) := by first | omega | simp_all | (intro hx; simp_all; omega)
     refine aB (jF O O (dL O (bF 39 aP O bJ O (gq aV O (P7.f5).get.2 O (jy (jH (vs := [_]) P7 bg bJ lG O O O (by decide) (aX (by first | rfl | exact Rd.one ((P7).uH)) bD)) ?_)))))
     rintro l22 w22 O4
     refine jy (fZ O4.f3 bg EG O O O ((O4).aT) (aX (by first | rfl | exact Rd.one ((O4.f2).uH)) bD) (by omega) (by omega)) ?_
     rintro l23 w23 IL
     have ad8 := IL.f2.right
     have aaM := ad8.f4.f3.f3
     have aaN := (V.qM aaM).Aj.Rz
     have hGJ := Io (s := s) (on := on) (u := nw) hG hS hp hnj
     refine fU O (bP ?_)
     refine cO (_) kD oO (by (try dsimp only); exact ⟨_, hGJ, aaN.f3.right.f6.f6.f6.f6.f6.f6⟩)
   ·(try simp only [aF] at h2)
    refine bH (bH (bH (iJ O O (iK (pW ?_)))))
    have ad9 := Xn.f9.f9
    have aaO := V.oV (v := nw) (es := es) (V.deep ad9)
    have hnj : ¬ (on = true ∧ 0 < gs.length) := by first | omega | simp_all | (intro hx; simp_all; omega)
    refine aB (jF O O (dL O (bF 39 aP O bJ O (gq aV O (aaO.f5).get.2 O (jy (jH (vs := [_]) aaO bg bJ lG O O O (by decide) (aX (by first | rfl | exact Rd.one ((aaO).uH)) bD)) ?_)))))
    rintro l29 w29 Yi
    refine jy (fZ Yi.f3 bg EG O O O ((Yi).aT) (aX (by first | rfl | exact Rd.one ((Yi.f2).uH)) bD) (by omega) (by omega)) ?_
    rintro l30 w30 Vr
    have aea := Vr.f2.right
    have aeb := aea.f4.f3.f3
    have aec := (V.qM aeb).Aj.Rz
    have hGJ := Io (s := s) (on := on) (u := nw) hG hS hp hnj
    refine fU O (bP ?_)
    refine cO (_) kD oO (by (try dsimp only); exact ⟨_, hGJ, aec.f3.right.f6.f6.f6.f6.f6.f6⟩)
end
theorem jS.bad {s : dJ} {es : List dV} {A A' : List LE} {yf yt : Int} (h : jS s es A yf yt) (hin : s.inn = true) (hA : _root_.Go.Proofs.YtpdeedplgmbopaaGreatDoor.Fe A' = s.was.un) (hP : uM s.hl A') : jS s.xJ [] A' yf yt :=
  ⟨Qe h.ok hin, ⟨(h.rx.2.1 hin).1, fun hi => absurd hi (by show ¬ false = true; decide), fun hi => absurd hi (by show ¬ false = true; decide)⟩, rfl, hA, hP, fun hi => absurd hi (by show ¬ false = true; decide)⟩
theorem uq (s : dJ) : s.oN = { s with c := { s.c with un := (s.gI (s.typed && s.c.run)).c.un, run := s.typed && (!s.put.isEmpty || s.c.run), last := s.cls, fr := if s.cls = 2 then s.c.fr else 0, to := if s.cls = 2 then s.c.to else 0 }, given := if s.argues = true then s.given else false, minus := if s.argues = true then s.minus else false, arg := if s.argues = true then s.arg else -1, inn := false, put := [] } := by
  unfold dJ.oN dJ.jU dJ.gI
  by_cases ha : s.argues = true
  · by_cases hp : s.put = []
    · by_cases hc : s.cls = 2
      · simp [ha, hp, hc, dJ.zU]
      · simp [ha, hp, hc, dJ.zU]
    · by_cases hc : s.cls = 2
      · simp [ha, hp, hc, dJ.zU, dJ.wB, dJ.kY, dJ.here]
      · simp [ha, hp, hc, dJ.zU, dJ.wB, dJ.kY, dJ.here]
  · by_cases hp : s.put = []
    · by_cases hc : s.cls = 2
      · simp [ha, hp, hc, dJ.zU]
      · simp [ha, hp, hc, dJ.zU]
    · by_cases hc : s.cls = 2
      · simp [ha, hp, hc, dJ.zU, dJ.wB, dJ.kY, dJ.here]
      · simp [ha, hp, hc, dJ.zU, dJ.wB, dJ.kY, dJ.here]
theorem jS.good {s : dJ} {es : List dV} {A A' : List LE} {yf yt : Int} (h : jS s es A yf yt) (hA : _root_.Go.Proofs.YtpdeedplgmbopaaGreatDoor.Fe A' = (s.gI (s.typed && s.c.run)).c.un) (hP : uM s.hl A') : jS s.oN [] A' yf yt := by
  have hok : lT s.oN := by
    have h1 := TN (sZ h.ok) (s := s.jU) (by unfold dJ.jU; split <;> exact h.rx.1) (s.typed && s.c.run)
    unfold dJ.oN
    dsimp only
    split <;> exact h1
  have hx : DL (s.gI (s.typed && s.c.run)).c := (TP h.ok h.rx _).1
  rw [uq] at hok ⊢
  exact ⟨hok, ⟨⟨hx.1, h.rx.1.2⟩, fun hi => absurd hi (by show ¬ false = true; decide), fun hi => absurd hi (by show ¬ false = true; decide)⟩, rfl, hA, hP, fun hi => absurd hi (by show ¬ false = true; decide)⟩
section
variable {w0 w : World} {F : HP} {p y h : Nat} {s : dJ} {x : Int}
theorem Ox (hin : s.inn = true) (hx : x ≠ 0) (H : V w0 w (oK y s • F)) : gQ prog 64 #[.pointer (some ⟨y, 0, none⟩), .int .i64 x] w fun v w' => v = .int .i64 x ∧ V w0 w' (oK y s.xJ • F) := by
 refine nH func64 ntmps64 ?_
 refine jk O (aO (aO ?_))
 obtain ⟨Xm, IZ, I4, I5, I7, TR, TS, A_y, TT, TU, Oo, Oq, Ot, I8, I9, Ja, Jb, Jc, Jd, Je, Jf, Jg, Jh, Ji, Jj, pz, CB, uN⟩ := (H).Oj
 have HI := uN
 rw [hin] at HI
 obtain ⟨qb, qk, qw, qn, qp, qg, qA, hu, hqA, hqP, hu1, HW⟩ := (HI.f12).ad2
 simp only [Ep, List.cons.injEq, and_true] at hu
 obtain ⟨rfl, rfl, rfl, rfl, rfl, rfl, rfl, rfl, rfl, rfl, rfl, rfl⟩ := hu
 refine aB (nG O O (bF 32 aP O aQ O (gq bM O (HW.f8).get.2 O (Z (lS O) (iK (Kr O (fun h1 => ?_)))))))
 (try simp only [aF] at h1)
 refine fV (bT O (dL O (bF 32 aP O aQ O (aK (kW 32 HW.f8 aQ) ?_))))
 rintro _ w2 H2
 refine pJ (bT O (Z (iZ O O) (iV O (fun h2 => ?_) (fun h => by exfalso; (try simp only [aF] at h); exact hx h))))
 (try simp only [aF] at h2)
 refine bT O (nG O O (bF 13 aP O eH O (Z (nY 13 (xs := [_, _, _, _, _, _, _, _, _, _, _, _]) dh O eH O O (H2).get.2 O) (dL O (bF 1 aP O eH O (aK (bW 1 (l' := [_, _, _, _, _, _, _, _, _, _, _, _, _, _, _, _, _, _, _, _, _, _, _, _, _, _, _, _, _, _, _, _, _, _, _, _, _, _, _, _, _, _]) (us := [_, _, _, _, _, _, _, _, _, _, _, _]) H2 eH O O O (aA (aA (aX (by first | rfl | exact Rd.one ((H2.f4).oI)) (aX (by first | rfl | exact Rd.one ((H2.f5).aT)) (aA (aA (aX (by first | rfl | exact Rd.one ((H2.f6).jG)) (aX (by first | rfl | exact Rd.one ((H2.f7).oI)) (aA (aA (aA (aA bD)))))))))))) O O) ?_))))))
 rintro _ w3 H3
 refine qQ O (dL O (bF 39 aP O bJ O (aK (kW 39 H3 bJ) ?_)))
 rintro _ w4 H4
 refine qQ O (dL O (bF 31 aP O sizeOf2 O (gq underlying2 O (H4).get.2 O (Z (ZF O O) (dL O (bF 31 aP O sizeOf2 O (aK (kW 31 H4 sizeOf2) ?_)))))))
 rintro _ w5 H5
 refine qQ O (jF O O (dL O (bF 25 aP O aQ O (aK (kW 25 H5 aQ) ?_))))
 rintro _ w6 H6
 refine dL O (bF 26 aP O aQ O (aK (kW 26 H6 aQ) ?_))
 rintro _ w7 H7
 refine dL O (bF 27 aP O aj O (aK (kW 27 H7 aj) ?_))
 rintro _ w8 H8
 refine qQ O (jF O O (dL O (bF 28 aP O aj O (aK (kW 28 H8 aj) ?_))))
 rintro _ w9 H9
 refine dL O (bF 29 aP O aj O (aK (kW 29 H9 aj) ?_))
 rintro _ w10 ql
 refine dL O (bF 30 aP O aj O (aK (kW 30 ql aj) ?_))
 rintro _ EI rE
 refine qQ O (dL O (bF 39 aP O bJ O (aK (kW 39 rE bJ) ?_)))
 rintro _ w12 uG
 refine qQ O (fF O (aG (dG results64 O ?_)))
 exact ⟨O, V.RH (s := s.xJ) (pz.bad hin hqA hqP) O uG.f9.right.f9.right.f9.right.f9.right.f9.right.f9.right.f9.right.f10.right.f10.right.f9.f9.f9.f9.f9.f9.f9.f9.f9 hu1⟩
theorem W9 (s : dJ) : s.typed = (decide (s.cls = 3) && s.whole) := by unfold dJ.typed; congr 1
theorem empty_eq (l : List iU) : (!l.isEmpty) = decide ((l.length : Int) > 0) := by cases l with
  | nil => rfl
  | cons x r => simp
theorem LG (hin : s.inn = true) (H : V w0 w (oK y s • F)) : gQ prog 64 #[.pointer (some ⟨y, 0, none⟩), .int .i64 0] w fun v w' => v = .int .i64 0 ∧ V w0 w' (oK y s.oN • F) := by
  obtain ⟨on, hon⟩ : ∃ on, on = (s.typed && s.c.run) := ⟨_, rfl⟩
  obtain ⟨rn, hrn⟩ : ∃ rn, rn = (s.typed && (!s.put.isEmpty || s.c.run)) := ⟨_, rfl⟩
  have Ns := hon
  have DT := hrn
  rw [W9] at Ns DT
  rw [empty_eq] at DT
  refine nH func64 ntmps64 ?_
  obtain ⟨Xm, IZ, I4, I5, I7, TR, TS, A_y, TT, TU, Oo, Oq, Ot, I8, I9, Ja, Jb, Jc, Jd, Je, Jf, Jg, Jh, Ji, Jj, pz, CB, uN⟩ := (H).Oj
  have HP9 := uN
  rw [← CB] at HP9
  have Xa := pz.Fe
  have hplA := pz.placed
  have QB := pz.says
  have aaP := pz.ok
  have hxA := pz.rx.1
  have aaQ : s.hl.length ≤ 4096 := by obtain ⟨hv9, hk9, _⟩ := (HP9.f9).Q9; exact hk9.1
  have hu1 := TM (HP9.f12)
  refine jk O (aO (bT O (dL O (bF 32 aP O aQ O (gq bM O (HP9).get.2 O (Z (lS O) (iV O (fun h => by exfalso; (try simp only [aF] at h); simp [hin] at h) (fun h1 => ?_))))))))
  (try simp only [aF] at h1)
  refine fV (bT O (dL O (bF 32 aP O aQ O (aK (kW 32 HP9 aQ) ?_))))
  rintro _ w2 H2
  refine pJ (bT O (Z (iZ O O) (iK (Kr O (fun h2 => ?_)))))
  (try simp only [aF] at h2)
  refine fV (bT O (dL O (bF 33 aP O aj O (gq aN O (H2).get.2 O (Z (dO O O) (gB O (bT O (dL O (bF 39 aP O bJ O (gq aV O (H2).get.2 O (Z (iW ((H2.f10).aT) aV O) (Z (jc O O) (gB O ?_)))))))))))))
  refine jW [(0, _), (5, _), (6, _)] (fun (_ : Unit) => []) (fun (_ : Unit) W => ∃ pv2 gv2 A2 nw2, Fe A2 = (s.gI on).c.un ∧ uM s.hl A2 ∧ V w0 W (dM y (.cells (.pointer (some ⟨Xm, 0, none⟩) :: .pointer (some ⟨IZ, 0, none⟩) :: .pointer (some ⟨I4, 0, none⟩) :: I5 :: I7 :: .int .i64 s.c.place :: .string (jq s.hl s.c.tx s.c.place) :: pv2 :: gv2 :: .int .i64 s.c.mode :: .bool s.c.over :: .int .i64 s.c.res :: .bool s.c.run :: I8 :: I9 :: Ja :: Jb :: Jc :: Jd :: Je :: Jf :: Jg :: Jh :: Ji :: Jj :: .bool s.given :: .bool s.minus :: .int .i64 s.arg :: .int .i64 s.zk :: .int .i64 s.Ue :: .int .i64 s.Uf :: .int .i64 s.qO :: .bool false :: .int .i64 s.cls :: .int .i64 Oo :: .int .i64 Oq :: .bool s.argues :: .bool s.killed :: .bool s.lH :: nw2 :: .bool s.whole :: .bool Ot :: []).toArray 174 (0, 0)) • mQ .i64 pv2 (A2.map (·.1)) • uy 1 gv2 A2.length (A2.map (·.2.1)) • qj A2 • Row 189 3 nw2 0 [] • kK [] • nV IZ s.c.L s.c.pt s.c.mark • lZ I4 s.c.E s.c.at_ • uy 1 I5 (s.hl.length + 1) (strs (nT s.hl)) • Row 9 1 I7 (s.hl.length + 1) (strs (uo s.hl s.c.tx)) • jf Xm s.hl s.base s.most • Ba s.inn s.hl s.was [I8, I9, Ja, Jb, Jc, Jd, Je, Jf, Jg, Jh, Ji, Jj] • F)) uF ?_ ?_
  · rintro _ w3 ⟨pv2, gv2, A2, nw2, hl2, hp2, HJ⟩
    dsimp only [List.cons_append, List.nil_append]
    refine jW [(0, _)] (fun (_ : Unit) => []) (fun (_ : Unit) W => V w0 W (dM y (.cells (.pointer (some ⟨Xm, 0, none⟩) :: .pointer (some ⟨IZ, 0, none⟩) :: .pointer (some ⟨I4, 0, none⟩) :: I5 :: I7 :: .int .i64 s.c.place :: .string (jq s.hl s.c.tx s.c.place) :: pv2 :: gv2 :: .int .i64 s.c.mode :: .bool s.c.over :: .int .i64 s.c.res :: .bool rn :: I8 :: I9 :: Ja :: Jb :: Jc :: Jd :: Je :: Jf :: Jg :: Jh :: Ji :: Jj :: .bool s.given :: .bool s.minus :: .int .i64 s.arg :: .int .i64 s.zk :: .int .i64 s.Ue :: .int .i64 s.Uf :: .int .i64 s.qO :: .bool false :: .int .i64 s.cls :: .int .i64 Oo :: .int .i64 Oq :: .bool s.argues :: .bool s.killed :: .bool s.lH :: nw2 :: .bool s.whole :: .bool Ot :: []).toArray 174 (0, 0)) • mQ .i64 pv2 (A2.map (·.1)) • uy 1 gv2 A2.length (A2.map (·.2.1)) • qj A2 • Row 189 3 nw2 0 [] • kK [] • nV IZ s.c.L s.c.pt s.c.mark • lZ I4 s.c.E s.c.at_ • uy 1 I5 (s.hl.length + 1) (strs (nT s.hl)) • Row 9 1 I7 (s.hl.length + 1) (strs (uo s.hl s.c.tx)) • jf Xm s.hl s.base s.most • Ba s.inn s.hl s.was [I8, I9, Ja, Jb, Jc, Jd, Je, Jf, Jg, Jh, Ji, Jj] • F)) kD ?_ ?_
    · rintro _ w4 HJ2
      dsimp only [List.cons_append, List.nil_append]
      refine bT O (jF O O (nG O O (bF 33 aP O aj O (gq aN O (HJ2).get.2 O (dL O (bF 28 aP O aj O (aK (kW 28 HJ2 aj) ?_)))))))
      rintro _ w5 H5
      refine dL O (bF 29 aP O aj O (aK (kW 29 H5 aj) ?_))
      rintro _ w6 H6
      refine dL O (bF 30 aP O aj O (aK (kW 30 H6 aj) ?_))
      rintro _ w7 H7
      refine pJ (bT O (dL O (bF 33 aP O aj O (gq aN O (H7).get.2 O (Z (dO O O) (iV O (fun h3 => ?_) (fun h3 => ?_)))))))
      · (try simp only [aF] at h3)
        have hcT : s.cls = 2 := h3
        obtain ⟨rfl, rfl⟩ := pz.WW hin (pz.rx.2.2 hin hcT)
        have Zt := H7.drew
        have tu := V.kp (Zt.f12.f12.f12.f12.f12.f12.f12.f12.f12.f12.f12.f12)
        refine yj [5, 9] tu O (jE 0 O tu O (jE 1 O tu O (jE 2 O tu O (kJ 3 O tu O (gU 4 O tu 34 aP O aj O (jQ 5 O tu (fun W hW => kC aN O ((Kp.h hW)).get.2 O) (jE 6 O tu O (kJ 7 O tu O (gU 8 O tu 35 aP O aj O (jQ 9 O tu (fun W hW => kC aN O ((Kp.h hW)).get.2 O) (kJ 10 O tu O (gU 11 O tu 29 aP O aj O ?_))))))))))))
        refine fQ 12 O (by kernel_rfl) (kW 29 Zt aj) ?_
        rintro _ w8 H8
        have Ph := V.kp (H8.f12.f12.f12.f12.f12.f12.f12.f12.f12.f12.f12.f12)
        refine gV Ph (by kernel_rfl) ?_
        refine kJ 13 O Ph O (gU 14 O Ph 30 aP O aj O ?_)
        refine fQ 15 O (by kernel_rfl) (kW 30 H8 aj) ?_
        rintro _ w9 H9
        have Pj := V.kp (H9.f12.f12.f12.f12.f12.f12.f12.f12.f12.f12.f12.f12)
        refine gV Pj (by kernel_rfl) ?_
        refine qR (aW (aO (bT O (dL O (bF 36 aP O aQ O (gq bM O (H9).get.2 O (Z (lS O) (iV O (fun h4 => ?_) (fun h4 => ?_)))))))))
        · (try simp only [aF] at h4)
          have haF : ¬ s.argues = true := by simp_all
          refine aB (jF O O (nG O O (bF 25 aP O aQ O (aK (kW 25 H9 aQ) ?_))))
          rintro _ w10 ql
          refine dL O (bF 26 aP O aQ O (aK (kW 26 ql aQ) ?_))
          rintro _ EI rE
          refine dL O (bF 27 aP O aj O (aK (kW 27 rE aj) ?_))
          rintro _ w12 uG
          refine iK (jd O (dG results64 O ?_))
          refine ⟨O, ?_⟩
          rw [hon] at hl2
          have hG := pz.good hl2 hp2
          rw [uq] at hG ⊢
          have HX := uG.f12.right.f6.f6.f11.f7.f7.f7.f11.f11.f11.f11.f11
          have Tt := HX.DN (hl := s.hl) (c := s.was) hu1
          have HX3 := Tt.f12.f12.f12.f12.f12.f12.f12.f12.f12.f12.f12
          first | simp only [if_pos hcT] at hG ⊢ | simp only [if_neg hcF] at hG ⊢
          first | simp only [if_pos haT] at hG ⊢ | simp only [if_neg haF] at hG ⊢
          rw [← hrn] at hG ⊢
          exact V.rM hG HX3
        · (try simp only [aF] at h4)
          have haT : s.argues = true := by simp_all
          refine fV (jd O (dG results64 O ?_))
          refine ⟨O, ?_⟩
          rw [hon] at hl2
          have hG := pz.good hl2 hp2
          rw [uq] at hG ⊢
          have HX := H9.f12.right.f6.f6.f11.f7.f7.f7.f11.f11.f11.f11.f11
          have Tt := HX.DN (hl := s.hl) (c := s.was) hu1
          have HX3 := Tt.f12.f12.f12.f12.f12.f12.f12.f12.f12.f12.f12
          first | simp only [if_pos hcT] at hG ⊢ | simp only [if_neg hcF] at hG ⊢
          first | simp only [if_pos haT] at hG ⊢ | simp only [if_neg haF] at hG ⊢
          rw [← hrn] at hG ⊢
          exact V.rM hG HX3
      · (try simp only [aF] at h3)
        have hcF : ¬ s.cls = 2 := h3
        refine fV (aO (bT O (dL O (bF 36 aP O aQ O (gq bM O (H7).get.2 O (Z (lS O) (iV O (fun h5 => ?_) (fun h5 => ?_))))))))
        · (try simp only [aF] at h5)
          have haF : ¬ s.argues = true := by simp_all
          refine aB (jF O O (nG O O (bF 25 aP O aQ O (aK (kW 25 H7 aQ) ?_))))
          rintro _ Pn wZ
          refine dL O (bF 26 aP O aQ O (aK (kW 26 wZ aQ) ?_))
          rintro _ Si Aw
          refine dL O (bF 27 aP O aj O (aK (kW 27 Aw aj) ?_))
          rintro _ SA yQ
          refine iK (jd O (dG results64 O ?_))
          refine ⟨O, ?_⟩
          rw [hon] at hl2
          have hG := pz.good hl2 hp2
          rw [uq] at hG ⊢
          have HX := yQ.f12.right.f6.f6.f11.f7.f7.f7.f11.f11.f11.f11.f11
          have Tt := HX.DN (hl := s.hl) (c := s.was) hu1
          have HX3 := Tt.f12.f12.f12.f12.f12.f12.f12.f12.f12.f12.f12
          first | simp only [if_pos hcT] at hG ⊢ | simp only [if_neg hcF] at hG ⊢
          first | simp only [if_pos haT] at hG ⊢ | simp only [if_neg haF] at hG ⊢
          rw [← hrn] at hG ⊢
          exact V.rM hG HX3
        · (try simp only [aF] at h5)
          have haT : s.argues = true := by simp_all
          refine fV (jd O (dG results64 O ?_))
          refine ⟨O, ?_⟩
          rw [hon] at hl2
          have hG := pz.good hl2 hp2
          rw [uq] at hG ⊢
          have HX := H7.f12.right.f6.f6.f11.f7.f7.f7.f11.f11.f11.f11.f11
          have Tt := HX.DN (hl := s.hl) (c := s.was) hu1
          have HX3 := Tt.f12.f12.f12.f12.f12.f12.f12.f12.f12.f12.f12
          first | simp only [if_pos hcT] at hG ⊢ | simp only [if_neg hcF] at hG ⊢
          first | simp only [if_pos haT] at hG ⊢ | simp only [if_neg haF] at hG ⊢
          rw [← hrn] at hG ⊢
          exact V.rM hG HX3
    · skip
      refine aB (jF O O (jL O (fun h6 => ?_) (fun h6 => ?_)))
      · (try simp only [aF] at h6)
        refine bC (bQ O (bC (dL O (bC (bF 40 aP O aQ O (bC (gq bM O (HJ).get.2 O (jw O O (jL O (fun h7 => ?_) (fun h7 => ?_))))))))))
        · (try simp only [aF] at h7)
          refine bC (bQ O (bC (jL O (fun h8 => ?_) (fun h8 => ?_))))
          · (try simp only [aF] at h8)
            refine bH (bH (bH (bH (bH (bC (jw O O (jw O O (dL O (bF 1 aP O eH O (bF 11 dh O aQ O (aK (kW 12 HJ aQ) ?_)))))))))))
            rintro _ w16 yL
            refine bP ?_
            refine cO (()) ?_ ?_ ?_
            · exact (Sub.nil _)
            · exact kD
            · (try dsimp only)
              first | done | exact (by first | (rw [show rn = true from by rw [DT]; simp_all; done]; exact yL.f12.f12.f12.f12.f12.f12.f12.f12.f12.f12.f12.f12) | (rw [show rn = false from by rw [DT]; simp_all; done]; exact yL.f12.f12.f12.f12.f12.f12.f12.f12.f12.f12.f12.f12) | (rw [show rn = s.c.run from by rw [DT]; simp_all; done]; exact yL.f12.f12.f12.f12.f12.f12.f12.f12.f12.f12.f12.f12))
          · (try simp only [aF] at h8)
            refine bC (bQ O (bC (dL O (bC (bF 1 aP O eH O (bC (bF 11 dh O aQ O (bC (gq bM O (HJ).get.2 O (bC (iJ O O (jw O O (dL O (bF 1 aP O eH O (bF 11 dh O aQ O (aK (kW 12 HJ aQ) ?_))))))))))))))))
            rintro _ Zc Iu
            refine bP ?_
            refine cO (()) ?_ ?_ ?_
            · exact (Sub.nil _)
            · exact kD
            · (try dsimp only)
              first | done | exact (by first | (rw [show rn = true from by rw [DT]; simp_all; done]; exact Iu.f12.f12.f12.f12.f12.f12.f12.f12.f12.f12.f12.f12) | (rw [show rn = false from by rw [DT]; simp_all; done]; exact Iu.f12.f12.f12.f12.f12.f12.f12.f12.f12.f12.f12.f12) | (rw [show rn = s.c.run from by rw [DT]; simp_all; done]; exact Iu.f12.f12.f12.f12.f12.f12.f12.f12.f12.f12.f12.f12))
        · (try simp only [aF] at h7)
          refine bH (bH (kS (kS (kS (kS (kS (bH (iJ O O (dL O (bF 1 aP O eH O (bF 11 dh O aQ O (aK (kW 12 HJ aQ) ?_))))))))))))
          rintro _ XG CW
          refine bP ?_
          refine cO (()) ?_ ?_ ?_
          · exact (Sub.nil _)
          · exact kD
          · (try dsimp only)
            first | done | exact (by first | (rw [show rn = true from by rw [DT]; simp_all; done]; exact CW.f12.f12.f12.f12.f12.f12.f12.f12.f12.f12.f12.f12) | (rw [show rn = false from by rw [DT]; simp_all; done]; exact CW.f12.f12.f12.f12.f12.f12.f12.f12.f12.f12.f12.f12) | (rw [show rn = s.c.run from by rw [DT]; simp_all; done]; exact CW.f12.f12.f12.f12.f12.f12.f12.f12.f12.f12.f12.f12))
      · (try simp only [aF] at h6)
        refine bH (bH (bH (bH (iJ O O (bQ O (bH (bH (kS (kS (kS (kS (kS (bH (iJ O O (dL O (bF 1 aP O eH O (bF 11 dh O aQ O (aK (kW 12 HJ aQ) ?_))))))))))))))))))
        rintro _ w19 Ec
        refine bP ?_
        refine cO (()) ?_ ?_ ?_
        · exact (Sub.nil _)
        · exact kD
        · (try dsimp only)
          first | done | exact (by first | (rw [show rn = true from by rw [DT]; simp_all; done]; exact Ec.f12.f12.f12.f12.f12.f12.f12.f12.f12.f12.f12.f12) | (rw [show rn = false from by rw [DT]; simp_all; done]; exact Ec.f12.f12.f12.f12.f12.f12.f12.f12.f12.f12.f12.f12) | (rw [show rn = s.c.run from by rw [DT]; simp_all; done]; exact Ec.f12.f12.f12.f12.f12.f12.f12.f12.f12.f12.f12.f12))
  · skip
    refine aB (jF O O (jL O (fun h9 => ?_) (fun h9 => ?_)))
    · (try simp only [aF] at h9)
      refine bC (bQ O (bC (dL O (bC (bF 40 aP O aQ O (bC (gq bM O (H2).get.2 O (jw O O (jL O (fun h10 => ?_) (fun h10 => ?_))))))))))
      · (try simp only [aF] at h10)
        refine bC (bQ O (bC (dL O (bC (bF 1 aP O eH O (bC (bF 11 dh O aQ O (bC (gq bM O (H2).get.2 O (jw O O (eG O func116 (y8 Xa hplA QB aaP hxA aaQ H2.f11.f11.f10.f10.f10.f6) ?_)))))))))))
        rintro _ w20 ⟨afi, afj, A20, afk, aaR, acG, OZ⟩
        have Ak := aaR
        have Xb := acG
        first
          | rw [show s.c.run = on from by rw [Ns]; simp_all] at Ak
          | rw [show false = on from by rw [Ns]; simp_all] at Ak
        refine bP ?_
        refine cO (()) ?_ ?_ ?_
        · exact (Sub.nil _)
        · exact uF
        · (try dsimp only)
          first | done | exact ⟨_, _, _, _, Ak, Xb, OZ.f12.f12.f12.f12.f12.f12.f12.f12.f12.f12.f12.f12⟩
      · (try simp only [aF] at h10)
        refine bH (bH (bH (bH (bH (iJ O O (eG O func116 (y8 Xa hplA QB aaP hxA aaQ H2.f11.f11.f10.f10.f10.f6) ?_))))))
        rintro _ w21 ⟨afl, afm, A21, afn, aaS, acH, IK⟩
        have Ak := aaS
        have Xb := acH
        first
          | rw [show s.c.run = on from by rw [Ns]; simp_all] at Ak
          | rw [show false = on from by rw [Ns]; simp_all] at Ak
        refine bP ?_
        refine cO (()) ?_ ?_ ?_
        · exact (Sub.nil _)
        · exact uF
        · (try dsimp only)
          first | done | exact ⟨_, _, _, _, Ak, Xb, IK.f12.f12.f12.f12.f12.f12.f12.f12.f12.f12.f12.f12⟩
    · (try simp only [aF] at h9)
      refine bH (bH (bH (bH (iJ O O (bQ O (bH (bH (bH (bH (bH (iJ O O (eG O func116 (y8 Xa hplA QB aaP hxA aaQ H2.f11.f11.f10.f10.f10.f6) ?_))))))))))))
      rintro _ w22 ⟨afo, afp, A22, afq, aaT, acI, O4⟩
      have Ak := aaT
      have Xb := acI
      first
        | rw [show s.c.run = on from by rw [Ns]; simp_all] at Ak
        | rw [show false = on from by rw [Ns]; simp_all] at Ak
      refine bP ?_
      refine cO (()) ?_ ?_ ?_
      · exact (Sub.nil _)
      · exact uF
      · (try dsimp only)
        first | done | exact ⟨_, _, _, _, Ak, Xb, O4.f12.f12.f12.f12.f12.f12.f12.f12.f12.f12.f12.f12⟩
theorem Oy (H : V w0 w (oK y s • F)) : gQ prog 64 #[.pointer (some ⟨y, 0, none⟩), .int .i64 x] w fun v w' => v = .int .i64 (s.zS x) ∧ V w0 w' (oK y (s.BP x) • F) := by
 by_cases hin : s.inn = true
 ·by_cases hx : x = 0
  ·subst hx
   rw [show s.BP 0 = s.oN from by unfold dJ.BP; rw [if_pos hin, if_pos rfl], show s.zS 0 = 0 from by unfold dJ.zS; rw [if_pos hin]]
   exact LG hin H
  ·rw [(AQ hin hx).1, (AQ hin hx).2]
   exact Ox hin hx H
 ·have hin' : s.inn = false := by simpa using hin
  rw [show s.BP x = s from by unfold dJ.BP; rw [if_neg hin], show s.zS x = 1 from by unfold dJ.zS; rw [if_neg hin]]
  refine nH func64 ntmps64 ?_
  refine jk O (aO (aO ?_))
  obtain ⟨Xm, IZ, I4, I5, I7, TR, TS, A_y, TT, TU, Oo, Oq, Ot, I8, I9, Ja, Jb, Jc, Jd, Je, Jf, Jg, Jh, Ji, Jj, pz, CB, uN⟩ := (H).Oj
  refine aB (nG O O (bF 32 aP O aQ O (gq bM O (uN).get.2 O (Z (lS O) (iV O (fun h1 => ?_) (fun h => by exfalso; (try simp only [aF] at h); simp [hin'] at h))))))
  (try simp only [aF] at h1)
  refine jd O (aG (dG results64 O ?_))
  have SE := uN.f12.f12.f12.f12.f12.f12.f12.f12.f12.f12.f12.f12
  have QO := V.rM (s := s) pz SE
  exact ⟨O, QO⟩
end
theorem Oz (hl : List pO) : jq hl (fun _ => none) (hl.length : Int) = .empty := by
  unfold jq yT MR
  rw [if_neg (by omega)]; rfl
section
variable {w0 w : World} {F : HP} {y h : Nat} {s : dJ} {hl : List pO} {base most : Int} {l : List Int} {v : Value}
set_option maxHeartbeats 1000000 in
theorem DU {x0 x1 x2 x3 x4 x5 x6 x7 x8 x9 x10 x11 x12 uO x14 x15 x16 x17 x18 x19 x20 x21 vI x23 x24 x25 wo x27 x28 x29 x30 x31 wX x34 LY LZ L6 x38 x39 x40 x41 : Value} {b : Bool} (hb : b = false) (H : V w0 w (dM y (.cells (x0 :: x1 :: x2 :: x3 :: x4 :: x5 :: x6 :: x7 :: x8 :: x9 :: x10 :: x11 :: x12 :: uO :: x14 :: x15 :: x16 :: x17 :: x18 :: x19 :: x20 :: x21 :: vI :: x23 :: x24 :: x25 :: wo :: x27 :: x28 :: x29 :: x30 :: x31 :: .bool b :: wX :: x34 :: LY :: LZ :: L6 :: x38 :: x39 :: x40 :: x41 :: []).toArray 174 (0, 0)) • jf h hl base most • F)) (hr : jM w0 F .i32 v l) (hshort : l.length ≤ 1024) : gQ prog 60 #[.pointer (some ⟨y, 0, none⟩), .pointer (some ⟨h, 0, none⟩), v] w fun v' w' => v' = .int .i64 0 ∧ ∃ ph pb wv nv,
    V w0 w' (dM y (.cells (.pointer (some ⟨ph, 0, none⟩) :: .pointer (some ⟨pb, 0, none⟩) :: x2 :: wv :: nv :: .int .i64 hl.length :: .string .empty :: .slice none 0 0 :: .slice none 0 0 :: x9 :: .bool false :: .int .i64 0 :: .bool false :: uO :: x14 :: x15 :: x16 :: x17 :: x18 :: x19 :: x20 :: x21 :: vI :: x23 :: x24 :: .bool false :: .bool false :: .int .i64 (-1) :: .int .i64 0 :: .int .i64 0 :: .int .i64 0 :: x31 :: .bool b :: wX :: x34 :: LY :: LZ :: L6 :: x38 :: x39 :: x40 :: x41 :: []).toArray 174 (0, 0)) •
      nV pb l l.length (-1) • uy 1 wv (hl.length + 1) (strs (nT hl)) • Row 9 1 nv (hl.length + 1) (strs (uo hl (fun _ => none))) • jf ph hl base most • jf h hl base most • F) := by
  refine FY func60 ntmps60 ?_
  refine jk O (aO (bT O (Z (iT pF O O) (iK (Kr O (fun h1 => ?_))))))
  (try simp only [aF] at h1)
  refine fV (aO (bT O (dL O (bF 32 aP O aQ O (gq bM O (H).get.2 O (iV O (fun h => by exfalso; (try simp only [aF] at h); simp [hb] at h) (fun h2 => ?_)))))))
  (try simp only [aF] at h2)
  refine fV (bT O (eG O func112 (Oi H (fun W HW => hr _ (HW.right.right)) hshort) ?_))
  rintro _ w1 ⟨p1, rfl, H1⟩
  refine bQ O (uD O O (uD O O (fU O (vZ O (bT O (Z (iZ O O) (iK (Kr O (fun h3 => ?_)))))))))
  (try simp only [aF] at h3)
  refine fV (bT O (bQ O (eG O func113 (Fa H1.f3) ?_)))
  rintro _ w2 ⟨q2, rfl, H2⟩
  refine dL O (bF 0 aP O sizeOf104 O (aK (kW 0 H2.f4 sizeOf104) ?_))
  rintro _ w3 H3
  refine qQ O (nG O O (bF 1 aP O eH O (bF 0 dh O sizeOf163 O (aK (kW 1 H3 sizeOf163) ?_))))
  rintro _ w4 H4
  refine qQ O (nG O O (bF 0 aP O sizeOf104 O (gq pF O (H4).get.2 O (eG O func114 (IW H4.f2) ?_))))
  rintro _ w5 ⟨q5, ov5, nv5, rfl, H5⟩
  refine dL O (Z (fD fP O nC O O (H5).get.2) (dL O (bF 1 aP O eH O (bF 2 dh O nC O (aK (bW 3 (l' := [_, _, _, _, _, _, _, _, _, _, _, _, _, _, _, _, _, _, _, _, _, _, _, _, _, _, _, _, _, _, _, _, _, _, _, _, _, _, _, _, _, _]) (us := [_, _, _]) H5.f5 nC O O O (aX (by first | rfl | exact Rd.one ((H5.f2).aT)) (aX (by first | rfl | exact Rd.one ((H5.f3).aT)) (aA bD))) O O) ?_)))))
  rintro _ w6 H6
  refine qQ O (dL O (bF 1 aP O eH O (bF 5 dh O lF O (aK (kW 6 H6 lF) ?_))))
  rintro _ w7 H7
  refine qQ O (Z (dW (zl := [.slice none 0 0, .slice none 0 0]) (pl := [(0, 1), (1, 1)]) [_, _] jv zeroValue170 O (fun w => by kernel_rfl) O (.zero (zs := [.slice none 0 0]) O (.zero (zs := [.slice none 0 0]) O .nil)) O) (dL O (bF 1 aP O eH O (bF 6 dh O sizeOf170 O (aK (bW 7 (l' := [_, _, _, _, _, _, _, _, _, _, _, _, _, _, _, _, _, _, _, _, _, _, _, _, _, _, _, _, _, _, _, _, _, _, _, _, _, _, _, _, _, _]) (us := [_, _]) H7 sizeOf170 O O O (aA (aA bD)) O O) ?_)))))
  rintro _ w8 H8
  refine qQ O (jF O O (dL O (bF 1 aP O eH O (bF 9 dh O aQ O (aK (kW 10 H8 aQ) ?_)))))
  rintro _ w9 H9
  refine dL O (bF 1 aP O eH O (bF 10 dh O aj O (aK (kW 11 H9 aj) ?_)))
  rintro _ w10 ql
  refine dL O (bF 1 aP O eH O (bF 11 dh O aQ O (aK (kW 12 ql aQ) ?_)))
  rintro _ EI rE
  refine qQ O (jF O O (dL O (bF 25 aP O aQ O (aK (kW 25 rE aQ) ?_))))
  rintro _ w12 uG
  refine dL O (bF 26 aP O aQ O (aK (kW 26 uG aQ) ?_))
  rintro _ Pn wZ
  refine dL O (bF 27 aP O aj O (aK (kW 27 wZ aj) ?_))
  rintro _ Si Aw
  refine qQ O (jF O O (dL O (bF 28 aP O aj O (aK (kW 28 Aw aj) ?_))))
  rintro _ SA yQ
  refine dL O (bF 29 aP O aj O (aK (kW 29 yQ aj) ?_))
  rintro _ w16 yL
  refine dL O (bF 30 aP O aj O (aK (kW 30 yL aj) ?_))
  rintro _ Zc Iu
  refine iK (jd O (dG results60 O ?_))
  have HQ := (Iu.f2.right.f5.f5.f5.f6.f5.f6).En
  rw [AV, ← Ij] at HQ
  exact ⟨O, _, _, _, _, by rw [← Ij]; exact HQ.f2.f3.f2⟩
theorem aaU (hl : List pO) (base most : Int) : jS (dJ.new hl base most) [] [] 0 0 :=
  ⟨KX hl base most, ⟨⟨fun k => ⟨by show iH [] [] ≤ 16384; decide, by show ∀ g ∈ [], _; simp⟩, by show (0 : Nat) ≤ 60; decide, .inr rfl, by show ∀ e ∈ [], _; simp⟩, fun hi => absurd hi (by show ¬ false = true; decide), fun hi => absurd hi (by show ¬ false = true; decide)⟩, rfl, rfl, ⟨List.nodup_nil, by simp⟩, fun hi => absurd hi (by show ¬ false = true; decide)⟩
theorem OA (H : V w0 w (jf h hl base most • F)) : gQ prog 58 #[.pointer (some ⟨h, 0, none⟩)] w fun v' w' => ∃ y, v' = .tuple #[.pointer (some ⟨y, 0, none⟩), .int .i64 0] ∧ V w0 w' (oK y (dJ.new hl base most) • jf h hl base most • F) := by
  refine iC func58 ntmps58 ?_
  refine iy (fU O (vZ O (bT O (Z (iT pF O O) (iK (Kr O (fun h1 => ?_)))))))
  (try simp only [aF] at h1)
  refine fV (iy (Z (dW (zl := [.pointer none, .pointer none, .pointer none, .slice none 0 0, .slice none 0 0, .int .i64 0, .string .empty, .slice none 0 0, .slice none 0 0, .int .i64 0, .bool false, .int .i64 0, .bool false, .pointer none, .pointer none, .slice none 0 0, .slice none 0 0, .int .i64 0, .string .empty, .slice none 0 0, .slice none 0 0, .int .i64 0, .bool false, .int .i64 0, .bool false, .bool false, .bool false, .int .i64 0, .int .i64 0, .int .i64 0, .int .i64 0, .int .i64 0, .bool false, .int .i64 0, .int .i64 0, .int .i64 0, .bool false, .bool false, .bool false, .slice none 0 0, .bool false, .bool false]) (pl := [(0, 1), (1, 12), (13, 12), (25, 1), (26, 1), (27, 1), (28, 1), (29, 1), (30, 1), (31, 1), (32, 1), (33, 1), (34, 1), (35, 1), (36, 1), (37, 1), (38, 1), (39, 1), (40, 1), (41, 1)]) [_, _, _, _, _, _, _, _, _, _, _, _, _, _, _, _, _, _, _, _, _, _, _, _, _, _, _, _, _, _, _, _, _, _, _, _, _, _, _, _, _, _] aP zeroValue174 O (fun w => by kernel_rfl) O (.zero (zs := [.pointer none]) O (.zero (zs := [.pointer none, .pointer none, .slice none 0 0, .slice none 0 0, .int .i64 0, .string .empty, .slice none 0 0, .slice none 0 0, .int .i64 0, .bool false, .int .i64 0, .bool false]) O (.zero (zs := [.pointer none, .pointer none, .slice none 0 0, .slice none 0 0, .int .i64 0, .string .empty, .slice none 0 0, .slice none 0 0, .int .i64 0, .bool false, .int .i64 0, .bool false]) O (.zero (zs := [.bool false]) O (.zero (zs := [.bool false]) O (.zero (zs := [.int .i64 0]) O (.zero (zs := [.int .i64 0]) O (.zero (zs := [.int .i64 0]) O (.zero (zs := [.int .i64 0]) O (.zero (zs := [.int .i64 0]) O (.zero (zs := [.bool false]) O (.zero (zs := [.int .i64 0]) O (.zero (zs := [.int .i64 0]) O (.zero (zs := [.int .i64 0]) O (.zero (zs := [.bool false]) O (.zero (zs := [.bool false]) O (.zero (zs := [.bool false]) O (.zero (zs := [.slice none 0 0]) O (.zero (zs := [.bool false]) O (.zero (zs := [.bool false]) O .nil)))))))))))))))))))) O) (jy (iO (l := [_, _, _, _, _, _, _, _, _, _, _, _, _, _, _, _, _, _, _, _, _, _, _, _, _, _, _, _, _, _, _, _, _, _, _, _, _, _, _, _, _, _]) H O O) ?_)))
  rintro _ w1 ⟨b1, rfl, H1⟩
  refine gB O (bT O (Z (dW (zl := [.slice none 0 0, .int .i64 0]) (pl := [(0, 1), (1, 1)]) [_, _] underlying176 zeroValue176 O (fun w => by kernel_rfl) O (.zero (zs := [.slice none 0 0]) O (.zero (zs := [.int .i64 0]) O .nil)) O) (jy (iO (l := [_, _]) H1 O O) ?_)))
  rintro _ w2 ⟨b2, rfl, H2⟩
  refine dL O (bF 1 aP O eH O (bF 1 dh O sizeOf164 O (aK (kW 2 H2.f2 sizeOf164) ?_)))
  rintro _ w3 H3
  refine qQ O (bQ O (eG O func60 (DU (l := []) O H3.f2.f3.f3 (fun W _ => eX.nil W _ none 0 (by decide)) (by decide)) ?_))
  rintro _ w4 ⟨rfl, ph, pb, wv, nv, H4⟩
  refine qQ O (fU O (fF O (FX results58 O O ?_)))
  have HR := ((H4.f6.f6.f6.f6.f6.f6.f7).MC (k := .i32)).iP (e := 22) (sz := 1) none
  have HR2 := (V.Ih (E := []) (place := 0) (HR.Y1 (ls := [])).swap)
  have HR3 := ((HR2.Og.Qx (sz := 1) none).Oh (k := .i64) none)
  have hT := Oz hl
  refine ⟨_, O, V.RH (s := dJ.new hl base most) (h := ph) (pb := pb) (pk := b2) (wv := wv) (nv := nv) (pv := .slice none 0 0) (gv := .slice none 0 0) (ch := false) (u0 := .pointer none) (u1 := .pointer none) (u2 := .slice none 0 0) (u3 := .slice none 0 0) (u4 := .int .i64 0) (u5 := .string .empty) (u6 := .slice none 0 0) (u7 := .slice none 0 0) (u8 := .int .i64 0) (u9 := .bool false) (ua := .int .i64 0) (ub := .bool false) (aaU hl base most) O ?_ ?_⟩
  · show V w0 _ (dM _ (.cells (_ :: _ :: _ :: _ :: _ :: _ :: .string (jq hl (fun _ => none) (hl.length : Int)) :: _).toArray _ (0, 0)) • _)
    rw [hT]
    exact HR3.f10.f10.f5.f5.f5.f10.f10.f8.f10.f10
  · rfl
theorem Xc {es : List dV} {A : List LE} {yf yt : Int} (h : jS s es A yf yt) (hi : s.inn = false) (hl : List pO) (base most : Int) (l : List Int) : jS (s.start hl base most l) es [] yf yt :=
  ⟨Ol h.ok hi _ _ _ _, ⟨⟨fun k => ⟨by show iH [] [] ≤ 16384; decide, by show ∀ g ∈ [], _; simp⟩, h.rx.1.2⟩, fun h2 => absurd (show s.inn = true from h2) (by rw [hi]; decide), fun h2 => absurd (show s.inn = true from h2) (by rw [hi]; decide)⟩, h.says, rfl, ⟨List.nodup_nil, by simp⟩, fun h2 => absurd (show s.inn = true from h2) (by rw [hi]; decide)⟩
theorem Jl (H : V w0 w (oK y s • jf h hl base most • F)) (hr : jM w0 F .i32 v l) : gQ prog 60 #[.pointer (some ⟨y, 0, none⟩), .pointer (some ⟨h, 0, none⟩), v] w fun v' w' =>
  v' = .int .i64 (s.qK l) ∧ V w0 w' (oK y (s.Cm hl base most l) • jf h hl base most • F) := by
 by_cases hin : s.inn = true
 ·have hE : s.qK l = 1 := by unfold dJ.qK; rw [if_pos hin]
  unfold dJ.Cm
  rw [if_neg (by rw [hE]; decide), hE]
  refine FY func60 ntmps60 ?_
  refine jk O (aO (bT O (Z (iT pF O O) (iK (Kr O (fun h1 => ?_))))))
  (try simp only [aF] at h1)
  refine fV (aO (aO ?_))
  obtain ⟨Xm, IZ, I4, I5, I7, TR, TS, A_y, TT, TU, Oo, Oq, Ot, I8, I9, Ja, Jb, Jc, Jd, Je, Jf, Jg, Jh, Ji, Jj, pz, CB, uN⟩ := (H).Oj
  refine aB (nG O O (bF 32 aP O aQ O (gq bM O (uN).get.2 O (iV O (fun h2 => ?_) (fun h => by exfalso; (try simp only [aF] at h); simp [hin] at h)))))
  (try simp only [aF] at h2)
  refine jd O (aG (dG results60 O ?_))
  have SE := uN.f12.f12.f12.f12.f12.f12.f12.f12.f12.f12.f12.f12
  have QO := V.rM (s := s) pz SE
  exact ⟨O, QO.f2.f2⟩
 ·have hi : s.inn = false := by simpa using hin
  by_cases hlen : 1024 < l.length
  ·have hE : s.qK l = 3 := by unfold dJ.qK; rw [if_neg hin, if_pos hlen]
   unfold dJ.Cm
   rw [if_neg (by rw [hE]; decide), hE]
   refine FY func60 ntmps60 ?_
   refine jk O (aO (bT O (Z (iT pF O O) (iK (Kr O (fun h1 => ?_))))))
   (try simp only [aF] at h1)
   refine fV (aO (aO ?_))
   obtain ⟨Xm, IZ, I4, I5, I7, TR, TS, A_y, TT, TU, Oo, Oq, Ot, I8, I9, Ja, Jb, Jc, Jd, Je, Jf, Jg, Jh, Ji, Jj, pz, CB, uN⟩ := (H).Oj
   refine aB (nG O O (bF 32 aP O aQ O (gq bM O (uN).get.2 O ?_)))
   have SE := uN.f12.f12.f12.f12.f12.f12.f12.f12.f12.f12.f12.f12
   have QO := V.rM (s := s) pz SE
   refine iV O (fun h => by exfalso; (try simp only [aF] at h); simp [hi] at h) (fun h2 => ?_)
   (try simp only [aF] at h2)
   refine fV (bT O (eG O func112 (Lr QO (fun W HW => hr W HW.right.right) hlen) ?_))
   rintro _ _ ⟨rfl, rfl⟩
   refine bQ O (uD O O (uD O O (fU O (vZ O (bT O (Z (iZ O O) (iK (wcE O (fun h3 => ?_)))))))))
   (try simp only [aF] at h3)
   refine bT O (fF O (aG (dG results60 O ?_)))
   exact ⟨O, QO.f2.f2⟩
  ·have hE : s.qK l = 0 := by unfold dJ.qK; rw [if_neg hin, if_neg hlen]
   unfold dJ.Cm
   rw [if_pos hE, hE]
   obtain ⟨h0, pb, pk, wv, nv, pv, gv, A, nw, es, yf, yt, ch, u0, u1, u2, u3, u4, u5, u6, u7, u8, u9, ua, ub, ok, pl, H⟩ := H.Oj
   have HI := H.f13
   refine (DU hi (hr := fun W HW => hr W HW.right.right.right.right.right.right.right.right.right.right.right) (l := l) HI.f2 (by omega)).mono fun v' w' h9 => ?_
   obtain ⟨e9, ph, pb', wv', nv', H9⟩ := h9
   refine ⟨e9, ?_⟩
   have ql := H9.f7.right.f8.right.f8.right.f8.right.f8.right.f8.right.f8.right
   have HR3 := ((ql.Og.Qx (sz := 1) none).Oh (k := .i64) none)
   have HX := HR3.f9.f13.f13.f13.f12.f8.f8.f8.f12.f12.f13.f13.f13
   rw [← Oz hl, show Ba s.inn s.hl s.was [u0, u1, u2, u3, u4, u5, u6, u7, u8, u9, ua, ub] = Ba s.inn hl s.was [u0, u1, u2, u3, u4, u5, u6, u7, u8, u9, ua, ub] from by rw [hi]; rfl] at HX
   refine V.rM (y := y) (s := s.start hl base most l) (h := ph) (pb := pb') (pk := pk) (wv := wv') (nv := nv') (pv := .slice none 0 0) (gv := .slice none 0 0) (nw := nw) (es := es) (ch := ch) (u0 := u0) (u1 := u1) (u2 := u2) (u3 := u3) (u4 := u4) (u5 := u5) (u6 := u6) (u7 := u7) (u8 := u8) (u9 := u9) (ua := ua) (ub := ub) (Xc ok hi hl base most l) ?_
   rw [show (s.start hl base most l).zk = 0 from if_neg (by show ¬ s.inn = true; simp [hi]), show (s.start hl base most l).Ue = 0 from if_neg (by show ¬ s.inn = true; simp [hi]), show (s.start hl base most l).Uf = 0 from if_neg (by show ¬ s.inn = true; simp [hi])]
   exact HX
end
def yh (l : List Int) : dJ := ((((dJ.new [] 1 5).Cm [] 1 5 l).jZ).yA 2).BP 0
section
variable {w0 w : World} {F : HP} {v : Value} {l : List Int}
theorem TW (H : V w0 w F) (hr : jM w0 F .i32 v l) : gQ prog 21 #[v] w fun v' w' => ∃ e y, v' = .tuple #[.pointer (some ⟨e, 0, none⟩), .pointer (some ⟨y, 0, none⟩), .bool true] ∧ V w0 w' (gG e (yh l) • oK y (yh l) • F) := by
 refine iC func21 ntmps21 ?_
 refine iy (fU O (fU O (gB O (iy (eG O func55 (KN H (by omega)) ?_)))))
 rintro _ w1 ⟨p1, rfl, H1⟩
 refine bQ O (uD O O (uD O O (fU O (gB O (iy (eG O func56 (IV H1 (by omega)) ?_))))))
 rintro _ w2 ⟨p2, rfl, H2⟩
 refine bQ O (uD O O (uD O O (fU O (vZ O (bT O (Z (iZ O O) (YW O (fun h1 => ?_))))))))
 (try simp only [aF] at h1)
 refine bC (bQ O (bC (Z (iZ O O) (iJ O O (iK (Kr O (fun h2 => ?_)))))))
 (try simp only [aF] at h2)
 refine fV (bT O (eG O func57 (Qc H2.f2) ?_))
 rintro _ w3 ⟨e3, rfl, H3⟩
 refine bQ O (uD O O (uD O O (fU O (gB O (bT O (eG O func58 (OA H3.f3) ?_))))))
 rintro _ w4 ⟨y4, rfl, H4⟩
 refine bQ O (uD O O (uD O O (fU O (vZ O (bT O (Z (iZ O O) (YW O (fun h3 => ?_))))))))
 (try simp only [aF] at h3)
 refine bC (bQ O (bC (Z (iZ O O) (iJ O O (YW O (fun h4 => ?_))))))
 (try simp only [aF] at h4)
 refine bC (bQ O (bC (Z (iT kH O O) (iJ O O (iK (Kr O (fun h5 => ?_)))))))
 (try simp only [aF] at h5)
 refine fV (aO (bT O (jF O O (eG O func59 (Ls H4.f4.f4 (fun W HW => hr _ (HW.right.right))) ?_))))
 rintro _ w5 ⟨rfl, H5⟩
 refine jF O O (bQ O (eG O func60 (Jl H5.f4.f4 (fun W HW => hr _ (HW.right.right))) ?_))
 rintro _ w6 ⟨rfl, H6⟩
 refine Z (iZ O O) (iK (Kr O (fun h6 => ?_)))
 (try simp only [aF] at h6)
 refine fV (bT O (eG O func29 (Dy H6.f3) ?_))
 rintro _ w7 ⟨rfl, H7⟩
 refine qQ O (eG O func61 (Jk H7.f2) ?_)
 rintro _ w8 ⟨rfl, H8⟩
 refine qQ O (eG O func62 (NM H8.f2) ?_)
 rintro _ w9 ⟨rfl, H9⟩
 refine qQ O (eG O func63 (LC H9.f2) ?_)
 rintro _ w10 ⟨rfl, ql⟩
 refine qQ O (jF O O (eG O func31 (Ci ql.f2) ?_))
 rintro _ EI ⟨rfl, rE⟩
 refine bQ O (eG O func64 (Oy rE.f2) ?_)
 rintro _ w12 ⟨rfl, uG⟩
 refine Z (dO O O) (fU O (fU O (fF O ?_)))
 refine gY (.inl O) results21 O O O ?_
 exact ⟨_, _, by simp, uG.f3.right.f3.right.f2⟩
end
def Ip : List Int := [102, 111, 111, 32, 98, 97, 114]
theorem Es : wG qB := ⟨7, by decide, rfl⟩
theorem YG : nJ qB [119] = 0 := qC Es (by decide) fun h => absurd ((dK rfl).1 h).2 (by decide)
theorem YH : nJ qB [98] = 0 := qC Es (by decide) fun h => absurd ((dK rfl).1 h).2 (by decide)
theorem YI : nJ qB [102] = 1 := yE Es ((dK rfl).2 ⟨rfl, by decide⟩)
namespace dJ
variable (s : dJ)
def YJ (M : VM) (keys : List Int) : Int := (s.jZ.WJ M keys (max s.jZ.count 1)).Wu (s.jZ.WI M keys (max s.jZ.count 1))
def TY (M : VM) (keys : List Int) : dJ := (s.jZ.WJ M keys (max s.jZ.count 1)).doS (s.jZ.WI M keys (max s.jZ.count 1))
end dJ
def VM.went (M : VM) (s : dJ) (keys : List Int) : VM := if s.YJ M keys = 0 then M.sought s.jZ.c.L s.jZ.c.pt keys (max s.jZ.count 1) else M
theorem Xd : vw Ip 0 119 0 1 = (4, false, true) := by kernel_rfl
theorem aaV : (yh Ip).inn = false := by kernel_rfl
theorem Xf : (yh Ip).YJ VM.new [119] = 6 := by kernel_rfl
theorem aaW : VM.went VM.new (yh Ip) [119] = VM.new := by unfold VM.went; rw [if_neg (by rw [Xf]; decide)]
theorem YK : ((yh Ip).TY VM.new [119]).inn = false := by kernel_rfl
theorem aaX : ((yh Ip).TY VM.new [119]).YJ VM.new [98] = 0 := by kernel_rfl
theorem aaY : (((yh Ip).TY VM.new [119]).TY VM.new [98]).c.pt = 4 := by kernel_rfl
theorem Ua : ¬ (wH qB ∨ oW qB) := by
  unfold wH oW
  rintro ((h | h | h | h) | (h | h | h | h | h)) <;> exact absurd h (BG (by decide))
theorem YL {M : VM} {keys : List Int} {n x : Int} : M.did qB keys n x = M := Cj fun h => Ua h.1
theorem LH (s : dJ) : s.jZ.count = s.count := by unfold dJ.jZ; split <;> rfl
section
variable {w0 w : World} {F : HP} {m e : Nat} {s : dJ} {keys : List Int} {kv : Value} {M : VM}
theorem RI (H : V w0 w (oZ m M • gG e s • F)) (hT : yK w0) (hi : s.inn = false) (hk : jM w0 F .i32 kv keys) (hkl : keys.length * 4 ≤ 140737488355328) (hw : nJ qB keys = 0) :
    gQ prog 24 #[.pointer (some ⟨m, 0, none⟩), .pointer (some ⟨e, 0, none⟩), .string qB, kv] w fun v w' => v = .int .i64 (s.YJ M keys) ∧ V w0 w' (oZ m (M.went s keys) • gG e (s.TY M keys) • F) := by
  have hco := JO s (Wv H.f2)
  refine (Yk H hi hk hkl hw (TK hT ?_)).mono ?_
  · rw [LH]; omega
  · rintro v w' ⟨x, t, M', ⟨rfl, rfl, rfl⟩, rfl, H⟩
    exact ⟨rfl, by unfold VM.went; unfold VM.doM at H; rw [YL] at H; exact H⟩
theorem Am {s : ByteArray} {l : List Int} (H : V w0 w F) (hl : Conv.runesFrom s s.size 0 #[] = (l.map (Value.int .i32)).toArray) (hb : l.length ≤ 70368744177664) :
    gQ prog 34 #[.string s] w fun v w' => V w0 w' (kT 21 .i32 v l • F) := by
  refine iC func34 ntmps34 ?_
  refine jk O (bT O (jy (Et H iR ay bf O hl hb) ?_))
  rintro u w1 H1
  refine fF O (dG results34 O ?_)
  exact H1
theorem Ub (H : V w0 w F) (hT : yK w0) : gQ prog 13 #[] w fun v w' => v = .bool true ∧ V w0 w' F := by
  refine OW func13 ntmps13 ?_
  refine jk O (iy (eG O func34 (Am H (l := Ip) (by kernel_rfl) (by decide)) ?_))
  rintro u1 w1 H1
  refine eG O func21 (TW H1 (fun W HW => (HW).aT)) ?_
  rintro _ w2 ⟨e2, y2, rfl, H2⟩
  have OC := H2.f3.right
  refine bQ O (uD O O (uD O O (uD O O (fU O (fU O (gB O (iy (eG O func22 (PZ OC) ?_))))))))
  rintro _ w4 ⟨m4, rfl, H4⟩
  refine vZ O (bT O (Z (lS O) (YW O (fun h1 => ?_))))
  (try simp only [aF] at h1)
  refine bC (bQ O (bC (Z (iT kH O O) (iJ O O (YW O (fun h2 => ?_))))))
  (try simp only [aF] at h2)
  refine bC (bQ O (bC (Z (iT underlying41 O O) (iJ O O (iK (Kr O (fun h3 => ?_)))))))
  (try simp only [aF] at h3)
  refine fV (iy (eG O func34 (Am H4 (l := Ip) (by kernel_rfl) (by decide)) ?_))
  rintro u5 w5 H5
  refine eG O func11 (Ah H5 (fun W HW => (HW).aT) hT (by decide) (by decide)) ?_
  rintro _ w6 ⟨rfl, H6⟩
  refine bQ O (uD O O (uD O O (uD O O (fU O (fU O (gB O (bT O (Z (dO O O) (jL O (fun h4 => ?_) (fun h => by exfalso; (try simp only [aF] at h); exact h (by rw [Xd])))))))))))
  (try simp only [aF] at h4)
  refine bC (bQ O (jw O O (jL O (fun h5 => ?_) (fun h => by exfalso; (try simp only [aF] at h); rw [Xd] at h; exact absurd h (by decide)))))
  (try simp only [aF] at h5)
  refine bC (bQ O (bC (bQ O (bC (jy (vY (k := .i32) (l := [119]) H6 ay bK uX O O O (by decide)) ?_)))))
  rintro l7 w7 H7
  refine bC (eG O func24 (RI (s := yh Ip) (M := VM.new) (keys := [119]) H7.f4.f4 hT aaV (fun W HW => (HW).aT) (by decide) YG) ?_)
  rintro _ w8 ⟨rfl, H8⟩
  have HX := H8
  rw [aaW] at HX
  refine bC (Z (dO O O) (jw O O (jL O (fun h6 => ?_) (fun h => by exfalso; (try simp only [aF] at h); exact h Xf))))
  (try simp only [aF] at h6)
  refine bC (bQ O (bC (bQ O (bC (jy (vY (k := .i32) (l := [98]) HX ay bK uX O O O (by decide)) ?_)))))
  rintro l9 w9 H9
  refine bC (eG O func24 (RI (s := (yh Ip).TY VM.new [119]) (M := VM.new) (keys := [98]) H9.f3.f3 hT YK (fun W HW => (HW).aT) (by decide) YH) ?_)
  rintro _ w10 ⟨rfl, ql⟩
  refine bC (Z (dO O O) (jw O O (jL O (fun h7 => ?_) (fun h => by exfalso; (try simp only [aF] at h); exact h aaX))))
  (try simp only [aF] at h7)
  refine bC (bQ O (bC (eG O func28 (Ae ql.f2) ?_)))
  rintro _ EI ⟨u11, rfl, rE⟩
  refine bC (Z (ER 1 jo O O (bV aN O) O O) (bC (Z (dO O O) (jw O O (jL O (fun h8 => ?_) (fun h => by exfalso; (try simp only [aF] at h); exact h aaY))))))
  (try simp only [aF] at h8)
  refine bC (jy (vY (k := .i32) (l := [102]) rE ay bK uX O O O (by decide)) ?_)
  rintro l12 w12 uG
  refine bC (eG O func16 (yX uG (fun W HW => (HW).aT)) ?_)
  rintro _ Pn ⟨rfl, wZ⟩
  refine bC ?_
  refine Z (RS (dO O O) (by exact beq_iff_eq.2 YI)) ?_
  refine jw O O (fF O (dG results13 O ?_))
  exact ⟨O, wZ.right.right.right.right.right.right.right.right⟩
end
section
variable {w0 w : World} {F : HP} {v u : Value} {l : List ByteArray}
theorem Xg (H : V w0 w F) (q1 : OO w0 F 1 v l.length (strs l)) (q2 : OO w0 F 1 u l.length (strs l)) (hl : l.length ≤ 1000) : gQ prog 18 #[v, u] w fun x w' => x = .bool true ∧ V w0 w' F := by
 refine nH func18 ntmps18 ?_
 refine jk O (aO (bT O (Z (iW (q1 _ (H)) dU O) (bQ O (Z (iW (q2 _ (H)) dU O) (Z (iZ O O) (iK (Kr O (fun h1 => ?_)))))))))
 (try simp only [aF] at h1)
 refine fV (aO (bT O (Z (iW (q1 _ (H)) dU O) (bQ O (iK (aZ ?_))))))
 refine fC [(0, _), (1, _), (12, _)] (fun (k : Nat) => [(13, .int .i64 (k : Int))]) (fun (k : Nat) W => k ≤ l.length ∧ V w0 W F) (fun (k : Nat) => l.length - k) (0) uF kD ⟨by omega, H⟩ ?_
 rintro k w1 ⟨hk, HL⟩
 dsimp only [List.cons_append, List.nil_append]
 refine iy (Z (gZ O O) (pJ (bG O (fun h2 => ?_) (fun h2 => ?_))))
 ·(try simp only [aF] at h2)
  refine fV (aO (aZ (aO ?_)))
  have hkl : k < l.length := by omega
  refine aB (bQ O (vZ O ?_))
  have YM := HL.drew
  have BI := V.kp (YM)
  refine yj [3, 7] BI O (jE 0 O BI O (jE 1 O BI O ?_))
  obtain ⟨bv, ov, cv, ev⟩ := Rd.nX (q1 _ (YM)) (by omega)
  cases ev
  refine jC 2 O BI (fun _ => dw dU lF O O (by omega)) ?_
  refine jQ 3 O BI (fun W hW => DY (dR (bV iR O) O (by first | exact Rd.jT (q1 _ ((Kp.h hW))) (by omega) | exact Rd.rP (q1 _ ((Kp.h hW))) (by omega) | exact Rd.rO (q1 _ ((Kp.h hW))) (by omega))) (Dw (l := l) hkl)) ?_
  refine jE 4 O BI O (jE 5 O BI O ?_)
  obtain ⟨bu, ou, cu, eu⟩ := Rd.nX (q2 _ (YM)) (by omega)
  cases eu
  refine jC 6 O BI (fun _ => dw dU lF O O (by omega)) ?_
  refine jQ 7 O BI (fun W hW => DY (dR (bV iR O) O (by first | exact Rd.jT (q2 _ ((Kp.h hW))) (by omega) | exact Rd.rP (q2 _ ((Kp.h hW))) (by omega) | exact Rd.rO (q2 _ ((Kp.h hW))) (by omega))) (Dw (l := l) hkl)) ?_
  refine jC 8 O BI (fun _ => DZ O O) (qR (aW (Kr O (fun h3 => ?_))))
  (try simp only [aF] at h3)
  refine bU (aJ (aW (aB (Z (fK O O (by omega)) (bQ O (bP ?_))))))
  refine dH (k + 1) ?_ ?_ ?_ ?_
  ·exact kD
  ·exact uF
  ·(try dsimp only)
   first | done | exact ⟨by omega, YM⟩
  ·(try dsimp only); omega
 ·(try simp only [aF] at h2)
  refine dn (aI (aI (aY (aW (jd O (dG results18 O ?_))))))
  exact ⟨O, HL⟩
end
theorem Xh {w : World} {name : ByteArray} {kv : Value} {keys : List Int} (hT : yK w) (g : eX w .i32 kv keys) :
    gQ prog 4 #[.string name, kv] w fun v w' => v = .bool true ∧ Below w.heap.size w w' := by
  obtain ⟨F, H⟩ : ∃ F, V w w F := ⟨_, V.start w⟩
  have hv : jM w F .i32 kv keys := jM.LW g F
  refine nH func4 ntmps4 ?_
  refine jk O (iy (eG O func13 (Ub H hT) ?_))
  rintro _ w1 ⟨rfl, H1⟩
  refine bQ O (bC (bQ O (bC (bQ O (bC (eG O func16 (yX H1 (fun W HW => hv _ (HW))) ?_))))))
  rintro _ w2 ⟨rfl, H2⟩
  refine bC (bQ O (bC (bQ O (bC (eG O func17 (PY H2 (fun W HW => hv _ (HW))) ?_)))))
  rintro _ w3 ⟨rfl, H3⟩
  refine bC (Z (dO O O) (jw O O (xsE O (fun h1 => ?_))))
  (try simp only [aF] at h1)
  refine bC (eG O func19 (GZ H3) ?_)
  rintro u4 w4 H4
  refine bC (eG O func20 (G6 H4) ?_)
  rintro u5 w5 H5
  refine bC (eG O func18 (Xg (l := rH) H5 (fun W HW => (HW.f2).aT) (fun W HW => (HW).aT) (by decide)) ?_)
  rintro _ w6 ⟨rfl, H6⟩
  refine jw O O (fF O (dG results4 O ?_))
  exact ⟨O, H6.base⟩
end Go.Proofs.YtpdeedplgmbopaaGreatDoor
end
