import Derived.Test.YtnhhmieghbfalaaGreatDoorZ4
import Derived.Test.YtnhhmieghbfalaaGreatDoorZ19
set_option linter.unusedSimpArgs false
set_option linter.unusedVariables false
/- Texts of mine, joined, their names in short: REdF REdE REdN. -/
section
namespace Go.Proofs.YtnhhmieghbfalaaGreatDoor
open Go.RowKit
open _root_.Go.Proofs.Tryz
theorem KF.one {I : Hp} {sz n : Nat} {v : Value} {xs : List Value} (h : KF I sz v n xs) : v.oneCell' = true := by obtain ⟨_, a, c, rfl, _⟩ := h; rfl
section
variable {w0 w : World} {F : HP} {p y h : Nat} {s : aX} {u v lv : Value} {es les : List gJ} {gs : List (Value × List gJ)} {on : Bool}
theorem V.aeO (H : V w0 w (vW gs • F)) : ∀ x ∈ gs.map (·.1), x.oneCell' = true := by
  obtain ⟨I, h, hI⟩ := H.zx
  intro x hx
  obtain ⟨g, hg, rfl⟩ := List.mem_map.1 hx
  obtain ⟨k, hk, rfl⟩ := List.getElem_of_mem hg
  have := h k hk
  rw [List.getD_eq_getElem?_getD, List.getElem?_eq_getElem hk] at this
  exact this.1.one
theorem V.agt (H : V w0 w (Jm v es • F)) : V w0 w (oK es • Jm v es • F) := H.zU.I5 (qH (fun I h => h.2) _)
theorem aeP {α : Type _} (l : List α) (u : α) (h : l ≠ []) : l.set (l.length - 1) u = l.dropLast ++ [u] := by
  have e := List.dropLast_concat_getLast h
  have hl : l.dropLast.length = l.length - 1 := List.length_dropLast
  conv => lhs; rw [← e]
  rw [List.set_append_right _ _ (by simp)]
  simp
theorem V.acQ (hg : gs ≠ []) (H : V w0 w (Row 56 1 v gs.length ((gs.map (·.1)).set (gs.length - 1) u) • Jm u es • vW gs • F)) : V w0 w (glK v (gs.dropLast ++ [(u, es)]) • F) := by
  have h0 : 0 < gs.length := List.length_pos_iff.2 hg
  have H1 := (H.f3).Rk (gs.length - 1)
  rw [← List.dropLast_eq_take] at H1
  have hm : (gs.map (·.1)).set (gs.length - 1) u = gs.dropLast.map (·.1) ++ [u] := by
    have := aeP (gs.map (·.1)) u (by simpa using hg)
    rw [List.length_map] at this
    rw [this, List.map_dropLast]
  have hl : gs.length = gs.dropLast.length + 1 := by rw [List.length_dropLast]; omega
  rw [hm, hl] at H1
  exact (V.Az (H1.f2.f3.f2)).JH
theorem Vs (gs : List (Value × List gJ)) (x : Value × List gJ) : BG (gs ++ [x]) = BG gs ++ [x.2.map gJ.says] := by unfold BG; rw [List.map_append]; rfl
theorem Zd (hG : BG gs = s.here) (hne : gs ≠ []) (hl : gs.getD (gs.length - 1) default = (lv, les)) (hes : es.map gJ.says = s.put) (hp : s.put ≠ []) : BG (gs.dropLast ++ [(u, les ++ es)]) = s.jJ true := by
  have h0 : s.here ≠ [] := by rw [← hG]; unfold BG; simpa using hne
  have h1 : s.here.getLast h0 = les.map gJ.says := by
    have e : s.here.getLast? = some (les.map gJ.says) := by
      rw [← hG]; unfold BG
      rw [List.getLast?_map, List.getLast?_eq_getElem?]
      rw [List.getD_eq_getElem?_getD, List.getElem?_eq_getElem (by have := List.length_pos_iff.2 hne; omega)] at hl
      rw [List.getElem?_eq_getElem (by have := List.length_pos_iff.2 hne; omega)]
      simp only [Option.getD_some] at hl
      rw [hl]; rfl
    rw [List.getLast?_eq_some_getLast h0] at e
    exact Option.some.inj e
  unfold aX.jJ
  rw [if_neg hp, if_pos rfl, List.getLast?_eq_some_getLast h0, Vs]
  have h2 : BG gs.dropLast = s.here.dropLast := by rw [← hG]; unfold BG; rw [List.map_dropLast]
  rw [h1, h2]
  show _ ++ [(les ++ es).map gJ.says] = _
  rw [List.map_append, hes]
theorem TD (hG : BG gs = s.here) (hes : es.map gJ.says = s.put) (hp : s.put ≠ []) (h : ¬ (on = true ∧ 0 < gs.length)) : BG (gs ++ [(u, es)]) = s.jJ on := by
  unfold aX.jJ
  rw [if_neg hp, Vs, hG]
  show s.here ++ [es.map gJ.says] = _
  rw [hes]
  cases on with
  | false => rw [if_neg (by decide)]
  | true =>
    have h0 : s.here = [] := by
      have : gs = [] := List.eq_nil_of_length_eq_zero (by by_cases hx : 0 < gs.length; exact absurd ⟨rfl, hx⟩ h; omega)
      rw [← hG, this]; rfl
    rw [if_pos rfl, h0]; rfl
theorem Em {x0 x1 x2 x3 x4 x6 x9 x10 x11 x12 yJ x14 x15 x16 x17 x18 x19 x20 x21 yO x23 x24 x25 yS x27 x28 x29 x30 x31 x32 yZ x34 Gn Gp Gq x38 x40 x41 : Value} {pv gv nw : Value} {A : List LE} (hA : Fv A = s.c.un) (hP : BH s.hl A) (hS : es.map gJ.says = s.put) (hok : ru s) (hx : Nu s.c) (hhl : s.hl.length ≤ 4096)
  (H : V w0 w (gU y (.cells (x0 :: x1 :: x2 :: x3 :: x4 :: .int .i64 s.c.place :: x6 :: pv :: gv :: x9 :: x10 :: x11 :: x12 :: yJ :: x14 :: x15 :: x16 :: x17 :: x18 :: x19 :: x20 :: x21 :: yO :: x23 :: x24 :: x25 :: yS :: x27 :: x28 :: x29 :: x30 :: x31 :: x32 :: yZ :: x34 :: Gn :: Gp :: Gq :: x38 :: nw :: x40 :: x41 :: []).toArray 58 (0, 0)) • uQ .i64 pv (A.map (·.1)) • yK 1 gv A.length (A.map (·.2.1)) • xU A • Row 143 3 nw es.length (es.flatMap gJ.enc) • oK es • F)) :
  iK prog 49 #[.pointer (some ⟨y, 0, none⟩), .bool on] w fun _ w' => ∃ pv' gv' A' nw', Fv A' = (s.dH on).c.un ∧ BH s.hl A' ∧
   V w0 w' (gU y (.cells (x0 :: x1 :: x2 :: x3 :: x4 :: .int .i64 s.c.place :: x6 :: pv' :: gv' :: x9 :: x10 :: x11 :: x12 :: yJ :: x14 :: x15 :: x16 :: x17 :: x18 :: x19 :: x20 :: x21 :: yO :: x23 :: x24 :: x25 :: yS :: x27 :: x28 :: x29 :: x30 :: x31 :: x32 :: yZ :: x34 :: Gn :: Gp :: Gq :: x38 :: nw' :: x40 :: x41 :: []).toArray 58 (0, 0)) • uQ .i64 pv' (A'.map (·.1)) • yK 1 gv' A'.length (A'.map (·.2.1)) • xU A' • Row 143 3 nw' 0 [] • oK [] • F) := by
 have aic := Vp hx
 have hput := hok.2.2.2.2.1
 have hsp := pV s.here s.put
 have hpl := Iz hP (by omega)
 have hlp : es.length = s.put.length := by rw [← hS]; simp
 refine nO func49 ntmps49 ?_
 refine aI (bT O (dM O (bg 39 aA O bU O (dQ aV O (H).get.2 O (aT (fV ((H.f5).aJ) aV O) (aT (fA O O) (jo O (fun h1 => ?_) (fun h1 => ?_))))))))
 ·(try simp only [aG] at h1)
  have he : es = [] := List.eq_nil_of_length_eq_zero (by omega)
  have hp : s.put = [] := List.eq_nil_of_length_eq_zero (by omega)
  refine kN (aC (we0 results49 ?_))
  subst he
  exact ⟨pv, gv, A, nw, by rw [CU hp]; exact hA, hP, H.f6.f6.f6.f6.f6.f6⟩
 ·(try simp only [aG] at h1)
  have hp : s.put ≠ [] := fun hx => h1 (by rw [hlp, hx]; rfl)
  refine gX (bT O (dM O (bg 1 aA O bZ O (bg 2 bf O mJ O (bg 2 dL O ah O (dQ ay O (H).get.2 O (iU O (bT O (dM O (bg 1 aA O bZ O (bg 6 bf O xX O (cO O (fH O func118 (Fa H.f4.f4.f4.f4) ?_)))))))))))))
  rintro u1 w1 ⟨gs1, alr, H1⟩
  obtain ⟨gu, rfl⟩ : ∃ q, q = u1 := ⟨_, rfl⟩
  obtain ⟨gs, rfl⟩ : ∃ q, q = gs1 := ⟨_, rfl⟩
  have hG : BG gs = s.here := by rw [alr, hA]; rfl
  have hgl : gs.length = s.here.length := by rw [← hG]; exact (List.length_map _).symm
  have Ho2 := H1.f2.f2
  have Hc3 := Ho2
  have hone := (Hc3.f2).aeO
  refine iU O (kG O (bT O (cO O (jT (gK (Hc3.iV none) bP Pg O O O ((Hc3).oC) (by assumption) (by omega) (by omega)) ?_))))
  rintro l4 w4 H4
  have HX4 := H4
  rw [Nat.zero_add, List.nil_append] at HX4
  refine iU O ?_
  refine yV [(0, _), (4, _)] (fun (ou : Value) => [(6, ou)]) (fun (ou : Value) W => ∃ gs, BG gs = s.jJ on ∧ V w0 W (yK 1 ou gs.length (gs.map (·.1)) • vW gs • gU y (.cells (x0 :: x1 :: x2 :: x3 :: x4 :: .int .i64 s.c.place :: x6 :: pv :: gv :: x9 :: x10 :: x11 :: x12 :: yJ :: x14 :: x15 :: x16 :: x17 :: x18 :: x19 :: x20 :: x21 :: yO :: x23 :: x24 :: x25 :: yS :: x27 :: x28 :: x29 :: x30 :: x31 :: x32 :: yZ :: x34 :: Gn :: Gp :: Gq :: x38 :: nw :: x40 :: x41 :: []).toArray 58 (0, 0)) • uQ .i64 pv (A.map (·.1)) • yK 1 gv A.length (A.map (·.2.1)) • xU A • F)) vV ?_ ?_
  ·rintro ou w5 ⟨gs, hG, HJ⟩
   dsimp only [List.cons_append, List.nil_append]
   refine bT O (dM O (bg 1 aA O bZ O (bg 6 bf O xX O (ku O O (fH O func119 (JL HJ.f2.f2.f6.f6.f6.f6 (by assumption)) ?_)))))
   rintro _ w6 ⟨pv6, gv6, H6⟩
   refine iR (aF (kY O O (bg 39 aA O bU O (aH (kU 39 H6 bU) ?_))))
   rintro _ w7 H7
   refine dJ (nJ (.inr O) results49 ?_)
   have HQ := (H7.f4.f4.f4.f4).zA none |>.edL
   refine ⟨_, _, _, _, ?_, IJ hP ⟨hok.1.1, hok.1.2.1⟩, HQ.f6.f6.f6.f6⟩
   rw [qo hp, QA, hA, hG]; rfl
  ·skip
   refine bT O (nS O (fun h2 => ?_) (fun h2 => ?_))
   ·(try simp only [aG] at h2)
    refine bJ (cO O (bJ (aT (fV ((HX4).aJ) bP O) (bJ (aT (fZ O O) (mQ O O (jo O (fun h3 => ?_) (fun h3 => ?_))))))))
    ·(try simp only [aG] at h3)
     refine aI ?_
     have als : on = true := by first | assumption | (simp_all; done)
     have hne : gs ≠ [] := fun hx => by subst hx; simp at *
     refine aF (iU O (bT O (ku O O (aT (fV ((HX4).aJ) bP O) (aT (nN O O (by omega)) ?_)))))
     obtain ⟨bl4, ol4, cl4, el4⟩ := Rd.qX ((HX4).aJ) (by omega)
     cases el4
     refine aT (dP bP bU O O (by omega)) ?_
     refine aT (fB (dG aV O) O (by first | exact Rd.yc ((HX4).aJ) (by omega) | exact Rd.I8 ((HX4).aJ) (by omega) | exact Rd.Ib ((HX4).aJ) (by omega))) ?_
     rw [show (gs.map (·.1)).getD (((gs.length : Nat) : Int) - 1).toNat undef = (gs.getD (gs.length - 1) default).1 from by have := List.length_pos_iff.2 hne; rw [show (((gs.length : Nat) : Int) - 1).toNat = gs.length - 1 from by omega]; simp [List.getD_eq_getElem?_getD, show gs.length - 1 < gs.length from by omega]]
     obtain ⟨gl, vO, hg⟩ : ∃ gl vO, gs.getD (gs.length - 1) default = (gl, vO) := ⟨_, _, rfl⟩
     rw [hg]
     have YW := HX4.f3
     have QC := YW.Iw (by have := List.length_pos_iff.2 hne; omega) hg
     have alZ := (QC).Yn
     have hgm : vO.map gJ.says ∈ s.here := by rw [← hG]; exact List.mem_map.2 ⟨(gl, vO), by rw [← hg]; exact vM (by have := List.length_pos_iff.2 hne; omega), rfl⟩
     have hgb := Nl hgm
     rw [List.length_map] at hgb
     have amR : vO.length ≤ 16384 := by unfold iH at hput; omega
     refine jT (gK (QC.iV none) aV Ap O O O ((QC).yU) (by assumption) (by omega) (by omega)) ?_
     rintro l10 w10 rU
     have HX7 := rU
     rw [Nat.zero_add, List.nil_append] at HX7
     refine iU O ?_
     have al0 := (HX7.f11).MR
     refine aF (ku O O (aT (kE bP O) (aT (nN O O (by omega)) (ku O O (dM O (bg 39 aA O bU O (dQ aV O (HX7.f6).get.2 O (jT (gK HX7 aV Ap O O O ((HX7.f10).aJ) (by assumption) (by omega) (by omega)) ?_))))))))
     rintro l11 Ii rE
     refine aT (dP bP bU O O (by omega)) (aH (MI 0 rE.f4 bU O O (by first | rfl | exact Rd.one ((rE).aJ)) (by omega) (by decide)) ?_)
     rintro _ w12 uP
     have Sj := uP.f3
     have Qh := (Sj.agt).f2.right
     have ahz := Qh.f11.f2.f4
     have ahA := V.yE (es := vO ++ es) (V.deep (V.QD rfl ahz))
     have SI := ahA.f2
     have HX8 := SI
     rw [show (((gs.length : Nat) : Int) - 1).toNat * 1 + 0 = gs.length - 1 from by omega] at HX8
     have alu := HX8.f3.f3.f3
     have alv := (V.acQ hne alu).Yt
     have hGJ := Zd (s := s) (u := l11) hG hne hg hS hp
     rw [← als] at hGJ
     refine dJ ?_
     refine ji (_) rJ vV (by (try dsimp only); exact ⟨_, hGJ, alv.f3.right.f7.right.f6.f6.f6.f6.f6.f6⟩)
    ·(try simp only [aG] at h3)
     have aer := HX4.f9.f9
     have aaB := V.yE (v := nw) (es := es) (V.deep aer)
     have hnj : ¬ (on = true ∧ 0 < gs.length) := by first | omega | simp_all | (intro hx; simp_all; omega)
     refine aF (ku O O (dM O (bg 39 aA O bU O (dQ aV O (aaB.f5).get.2 O (jT (mX (vs := [_]) aaB bP bU sV O O O (by decide) (bD (by first | rfl | exact Rd.one ((aaB).yU)) bW)) ?_)))))
     rintro l22 w22 FI
     refine jT (gK FI.f3 bP Pg O O O ((FI).aJ) (bD (by first | rfl | exact Rd.one ((FI.f2).yU)) bW) (by omega) (by omega)) ?_
     rintro l23 Yb BM
     have alw := BM.f2.right
     have aeL := alw.f4.f3.f3
     have aeM := (V.Az aeL).JH.Yt
     have hGJ := TD (s := s) (on := on) (u := nw) hG hS hp hnj
     refine lg O (dJ ?_)
     refine ji (_) rJ vV (by (try dsimp only); exact ⟨_, hGJ, aeM.f3.right.f6.f6.f6.f6.f6.f6⟩)
   ·(try simp only [aG] at h2)
    refine dB (dB (dB (kP O O (iR (yh ?_)))))
    have aie := HX4.f9.f9
    have acR := V.yE (v := nw) (es := es) (V.deep aie)
    have hnj : ¬ (on = true ∧ 0 < gs.length) := by first | omega | simp_all | (intro hx; simp_all; omega)
    refine aF (ku O O (dM O (bg 39 aA O bU O (dQ aV O (acR.f5).get.2 O (jT (mX (vs := [_]) acR bP bU sV O O O (by decide) (bD (by first | rfl | exact Rd.one ((acR).yU)) bW)) ?_)))))
    rintro l29 w29 N9
    refine jT (gK N9.f3 bP Pg O O O ((N9).aJ) (bD (by first | rfl | exact Rd.one ((N9.f2).yU)) bW) (by omega) (by omega)) ?_
    rintro l30 w30 P9
    have alx := P9.f2.right
    have aif := alx.f4.f3.f3
    have aih := (V.Az aif).JH.Yt
    have hGJ := TD (s := s) (on := on) (u := nw) hG hS hp hnj
    refine lg O (dJ ?_)
    refine ji (_) rJ vV (by (try dsimp only); exact ⟨_, hGJ, aih.f3.right.f6.f6.f6.f6.f6.f6⟩)
theorem Ll (H : V w0 w (dY y s • F)) : iK prog 49 #[.pointer (some ⟨y, 0, none⟩), .bool on] w fun _ w' => V w0 w' (dY y (s.dH on) • F) := by
  obtain ⟨h, pb, pk, wv, nv, pv, gv, A, nw, es, yf, yt, ch, u0, u1, u2, u3, u4, u5, u6, u7, u8, u9, ua, ub, ok, pl, H⟩ := H.xq
  have hhl : s.hl.length ≤ 4096 := by obtain ⟨hv9, hk9, _⟩ := (H.f9).FH; exact hk9.1
  rw [← pl] at H
  have HI : V w0 w (gU y (.cells (.pointer (some ⟨h, 0, none⟩) :: .pointer (some ⟨pb, 0, none⟩) :: .pointer (some ⟨pk, 0, none⟩) :: wv :: nv :: .int .i64 s.c.place :: .string (fP s.hl s.c.tx s.c.place) :: pv :: gv :: .int .i64 s.c.mode :: .bool s.c.over :: .int .i64 s.c.res :: .bool s.c.run :: u0 :: u1 :: u2 :: u3 :: u4 :: u5 :: u6 :: u7 :: u8 :: u9 :: ua :: ub :: .bool s.given :: .bool s.minus :: .int .i64 s.arg :: .int .i64 s.yx :: .int .i64 s.Ox :: .int .i64 s.Qi :: .int .i64 s.nR :: .bool s.inn :: .int .i64 s.cls :: .int .i64 yf :: .int .i64 yt :: .bool s.argues :: .bool s.lS :: .bool s.jc :: nw :: .bool s.whole :: .bool ch :: []).toArray 58 (0, 0)) • uQ .i64 pv (A.map (·.1)) • yK 1 gv A.length (A.map (·.2.1)) • xU A • Row 143 3 nw es.length (es.flatMap gJ.enc) • oK es • kC pb s.c.L s.c.pt s.c.mark • lI pk s.c.E s.c.at_ • yK 1 wv (s.hl.length + 1) (strs (pz s.hl)) • Row 9 1 nv (s.hl.length + 1) (strs (oO s.hl s.c.tx)) • jS h s.hl s.base s.most • FB s.inn s.hl s.was [u0, u1, u2, u3, u4, u5, u6, u7, u8, u9, ua, ub] • F) := H.of_eq (by ac_rfl)
  refine (Em ok.Fv ok.placed ok.says ok.ok ok.rx.1 hhl HI).mono fun v w' h9 => ?_
  obtain ⟨pv', gv', A', nw', k1, k2, H9⟩ := h9
  by_cases hp : s.put = []
  · rw [CU hp] at k1 ⊢
    refine V.fE (y := y) (h := h) (pb := pb) (pk := pk) (wv := wv) (nv := nv) (pv := pv') (gv := gv') (A := A') (nw := nw') (es := []) (ch := ch) (u0 := u0) (u1 := u1) (u2 := u2) (u3 := u3) (u4 := u4) (u5 := u5) (u6 := u6) (u7 := u7) (u8 := u8) (u9 := u9) (ua := ua) (ub := ub) ⟨ok.ok, ok.rx, hp.symm, k1, k2, ok.G9⟩ ?_
    rw [hp]
    exact H9.of_eq (by simp only [List.length_nil, List.flatMap_nil]; ac_rfl)
  · have o1 := OJ ok.ok ok.rx.1 on
    have o2 := OL ok.ok ok.rx on
    rw [qo hp] at k1 o1 o2 ⊢
    refine V.fE (y := y) (h := h) (pb := pb) (pk := pk) (wv := wv) (nv := nv) (pv := pv') (gv := gv') (A := A') (nw := nw') (es := []) (ch := ch) (u0 := u0) (u1 := u1) (u2 := u2) (u3 := u3) (u4 := u4) (u5 := u5) (u6 := u6) (u7 := u7) (u8 := u8) (u9 := u9) (ua := ua) (ub := ub) ⟨o1, o2, rfl, k1, k2, ok.G9⟩ ?_
    exact H9.of_eq (by simp only [List.length_nil, List.flatMap_nil]; ac_rfl)
end
theorem iY.bad {s : aX} {es : List gJ} {A A' : List LE} {yf yt : Int} (h : iY s es A yf yt) (hin : s.inn = true) (hA : _root_.Go.Proofs.YtnhhmieghbfalaaGreatDoor.Fv A' = s.was.un) (hP : BH s.hl A') : iY s.DV [] A' yf yt :=
  ⟨aaI h.ok hin, ⟨(h.rx.2.1 hin).1, fun hi => absurd hi (by show ¬ false = true; decide), fun hi => absurd hi (by show ¬ false = true; decide)⟩, rfl, hA, hP, fun hi => absurd hi (by show ¬ false = true; decide)⟩
theorem Lm (s : aX) (on : Bool) : (s.dH on).put = [] ∧ (s.dH on).inn = s.inn ∧ (s.dH on).hl = s.hl := by
  unfold aX.dH; split
  · exact ⟨by assumption, rfl, rfl⟩
  · exact ⟨rfl, rfl, rfl⟩
theorem DC (s : aX) : s.nY = { s with c := { s.c with un := (s.dH (s.typed && s.c.run)).c.un, run := s.typed && (!s.put.isEmpty || s.c.run), last := s.cls, fr := if s.cls = 2 then s.c.fr else 0, to := if s.cls = 2 then s.c.to else 0 }, given := if s.argues = true then s.given else false, minus := if s.argues = true then s.minus else false, arg := if s.argues = true then s.arg else -1, inn := false, put := [] } := by
  unfold aX.nY aX.lT aX.dH
  by_cases ha : s.argues = true
  · by_cases hp : s.put = []
    · by_cases hc : s.cls = 2
      · simp [ha, hp, hc, aX.zM]
      · simp [ha, hp, hc, aX.zM]
    · by_cases hc : s.cls = 2
      · simp [ha, hp, hc, aX.zM, aX.lY, aX.jJ, aX.here]
      · simp [ha, hp, hc, aX.zM, aX.lY, aX.jJ, aX.here]
  · by_cases hp : s.put = []
    · by_cases hc : s.cls = 2
      · simp [ha, hp, hc, aX.zM]
      · simp [ha, hp, hc, aX.zM]
    · by_cases hc : s.cls = 2
      · simp [ha, hp, hc, aX.zM, aX.lY, aX.jJ, aX.here]
      · simp [ha, hp, hc, aX.zM, aX.lY, aX.jJ, aX.here]
theorem iY.good {s : aX} {es : List gJ} {A A' : List LE} {yf yt : Int} (h : iY s es A yf yt) (hA : _root_.Go.Proofs.YtnhhmieghbfalaaGreatDoor.Fv A' = (s.dH (s.typed && s.c.run)).c.un) (hP : BH s.hl A') : iY s.nY [] A' yf yt := by
  have hok : ru s.nY := by
    have h1 := OJ (CV h.ok) (s := s.lT) (by unfold aX.lT; split <;> exact h.rx.1) (s.typed && s.c.run)
    unfold aX.nY
    dsimp only
    split <;> exact h1
  have hx : Nu (s.dH (s.typed && s.c.run)).c := (OL h.ok h.rx _).1
  rw [DC] at hok ⊢
  exact ⟨hok, ⟨⟨hx.1, h.rx.1.2⟩, fun hi => absurd hi (by show ¬ false = true; decide), fun hi => absurd hi (by show ¬ false = true; decide)⟩, rfl, hA, hP, fun hi => absurd hi (by show ¬ false = true; decide)⟩
section
variable {w0 w : World} {F : HP} {p y h : Nat} {s : aX} {x : Int}
theorem Ze (hin : s.inn = true) (hx : x ≠ 0) (H : V w0 w (dY y s • F)) : iK prog 10 #[.pointer (some ⟨y, 0, none⟩), .int .i64 x] w fun v w' => v = .int .i64 x ∧ V w0 w' (dY y s.DV • F) := by
 refine nO func10 ntmps10 ?_
 refine kG O (aI (aI ?_))
 obtain ⟨ED, tu, uo, uq, uw, wL, wM, EF, wO, wP, vJ, vK, wQ, uy, uz, uD, uF, uG, uH, uI, uJ, uK, uM, uN, uO, dS, lF, fU⟩ := (H).xq
 have HI := fU
 rw [hin] at HI
 obtain ⟨qb, qk, qw, qn, qp, qg, qA, hu, hqA, hqP, hu1, HW⟩ := (HI.f12).akZ
 simp only [OC, List.cons.injEq, and_true] at hu
 obtain ⟨rfl, rfl, rfl, rfl, rfl, rfl, rfl, rfl, rfl, rfl, rfl, rfl⟩ := hu
 refine aF (kY O O (bg 32 aA O aN O (dQ bn O (HW.f8).get.2 O (aT (jG O) (iR (Kq O (fun h1 => ?_)))))))
 (try simp only [aG] at h1)
 refine gX (bT O (dM O (bg 32 aA O aN O (aH (kU 32 HW.f8 aN) ?_))))
 rintro _ w2 H2
 refine uV (bT O (aT (fF O O) (jo O (fun h2 => ?_) (fun h => by exfalso; (try simp only [aG] at h); exact hx h))))
 (try simp only [aG] at h2)
 refine bT O (kY O O (bg 13 aA O bZ O (aT (yj 13 (xs := [_, _, _, _, _, _, _, _, _, _, _, _]) bf O bZ O O (H2).get.2 O) (dM O (bg 1 aA O bZ O (aH (dR 1 (l' := [_, _, _, _, _, _, _, _, _, _, _, _, _, _, _, _, _, _, _, _, _, _, _, _, _, _, _, _, _, _, _, _, _, _, _, _, _, _, _, _, _, _]) (us := [_, _, _, _, _, _, _, _, _, _, _, _]) H2 bZ O O O (aP (aP (bD (by first | rfl | exact Rd.one ((H2.f4).oC)) (bD (by first | rfl | exact Rd.one ((H2.f5).aJ)) (aP (aP (bD (by first | rfl | exact Rd.one ((H2.f6).o9)) (bD (by first | rfl | exact Rd.one ((H2.f7).oC)) (aP (aP (aP (aP bW)))))))))))) O O) ?_))))))
 rintro _ w3 H3
 refine qG O (dM O (bg 39 aA O bU O (aH (kU 39 H3 bU) ?_)))
 rintro _ w4 H4
 refine qG O (dM O (bg 31 aA O nC O (dQ nD O (H4).get.2 O (aT (ads O O) (dM O (bg 31 aA O nC O (aH (kU 31 H4 nC) ?_)))))))
 rintro _ w5 H5
 refine qG O (ku O O (dM O (bg 25 aA O aN O (aH (kU 25 H5 aN) ?_))))
 rintro _ w6 H6
 refine dM O (bg 26 aA O aN O (aH (kU 26 H6 aN) ?_))
 rintro _ w7 H7
 refine dM O (bg 27 aA O ah O (aH (kU 27 H7 ah) ?_))
 rintro _ w8 H8
 refine qG O (ku O O (dM O (bg 28 aA O ah O (aH (kU 28 H8 ah) ?_))))
 rintro _ w9 H9
 refine dM O (bg 29 aA O ah O (aH (kU 29 H9 ah) ?_))
 rintro _ w10 rU
 refine dM O (bg 30 aA O ah O (aH (kU 30 rU ah) ?_))
 rintro _ Ii rE
 refine qG O (dM O (bg 39 aA O bU O (aH (kU 39 rE bU) ?_)))
 rintro _ w12 uP
 refine qG O (iJ O (aC (dO results10 O ?_)))
 exact ⟨O, V.abZ (s := s.DV) (dS.bad hin hqA hqP) O uP.f9.right.f9.right.f9.right.f9.right.f9.right.f9.right.f9.right.f10.right.f10.right.f9.f9.f9.f9.f9.f9.f9.f9.f9 hu1⟩
theorem Zf (s : aX) : s.typed = (decide (s.cls = 3) && s.whole) := by unfold aX.typed; congr 1
theorem empty_eq (l : List jH) : (!l.isEmpty) = decide ((l.length : Int) > 0) := by cases l with
  | nil => rfl
  | cons x r => simp
theorem Xk (hin : s.inn = true) (H : V w0 w (dY y s • F)) : iK prog 10 #[.pointer (some ⟨y, 0, none⟩), .int .i64 0] w fun v w' => v = .int .i64 0 ∧ V w0 w' (dY y s.nY • F) := by
  obtain ⟨on, hon⟩ : ∃ on, on = (s.typed && s.c.run) := ⟨_, rfl⟩
  obtain ⟨rn, hrn⟩ : ∃ rn, rn = (s.typed && (!s.put.isEmpty || s.c.run)) := ⟨_, rfl⟩
  have V6 := hon
  have NK := hrn
  rw [Zf] at V6 NK
  rw [empty_eq] at NK
  refine nO func10 ntmps10 ?_
  obtain ⟨ED, tu, uo, uq, uw, wL, wM, EF, wO, wP, vJ, vK, wQ, uy, uz, uD, uF, uG, uH, uI, uJ, uK, uM, uN, uO, dS, lF, fU⟩ := (H).xq
  have HP9 := fU
  rw [← lF] at HP9
  have aeQ := dS.Fv
  have hplA := dS.placed
  have aaT := dS.says
  have aii := dS.ok
  have hxA := dS.rx.1
  have aij : s.hl.length ≤ 4096 := by obtain ⟨hv9, hk9, _⟩ := (HP9.f9).FH; exact hk9.1
  have hu1 := acI (HP9.f12)
  refine kG O (aI (bT O (dM O (bg 32 aA O aN O (dQ bn O (HP9).get.2 O (aT (jG O) (jo O (fun h => by exfalso; (try simp only [aG] at h); simp [hin] at h) (fun h1 => ?_))))))))
  (try simp only [aG] at h1)
  refine gX (bT O (dM O (bg 32 aA O aN O (aH (kU 32 HP9 aN) ?_))))
  rintro _ w2 H2
  refine uV (bT O (aT (fF O O) (iR (Kq O (fun h2 => ?_)))))
  (try simp only [aG] at h2)
  refine gX (bT O (dM O (bg 33 aA O ah O (dQ ay O (H2).get.2 O (aT (fA O O) (iU O (bT O (dM O (bg 39 aA O bU O (dQ aV O (H2).get.2 O (aT (fV ((H2.f10).aJ) aV O) (aT (fZ O O) (iU O ?_)))))))))))))
  refine yV [(0, _), (5, _), (6, _)] (fun (_ : Unit) => []) (fun (_ : Unit) W => ∃ pv2 gv2 A2 nw2, Fv A2 = (s.dH on).c.un ∧ BH s.hl A2 ∧ V w0 W (gU y (.cells (.pointer (some ⟨ED, 0, none⟩) :: .pointer (some ⟨tu, 0, none⟩) :: .pointer (some ⟨uo, 0, none⟩) :: uq :: uw :: .int .i64 s.c.place :: .string (fP s.hl s.c.tx s.c.place) :: pv2 :: gv2 :: .int .i64 s.c.mode :: .bool s.c.over :: .int .i64 s.c.res :: .bool s.c.run :: uy :: uz :: uD :: uF :: uG :: uH :: uI :: uJ :: uK :: uM :: uN :: uO :: .bool s.given :: .bool s.minus :: .int .i64 s.arg :: .int .i64 s.yx :: .int .i64 s.Ox :: .int .i64 s.Qi :: .int .i64 s.nR :: .bool false :: .int .i64 s.cls :: .int .i64 vJ :: .int .i64 vK :: .bool s.argues :: .bool s.lS :: .bool s.jc :: nw2 :: .bool s.whole :: .bool wQ :: []).toArray 58 (0, 0)) • uQ .i64 pv2 (A2.map (·.1)) • yK 1 gv2 A2.length (A2.map (·.2.1)) • xU A2 • Row 143 3 nw2 0 [] • oK [] • kC tu s.c.L s.c.pt s.c.mark • lI uo s.c.E s.c.at_ • yK 1 uq (s.hl.length + 1) (strs (pz s.hl)) • Row 9 1 uw (s.hl.length + 1) (strs (oO s.hl s.c.tx)) • jS ED s.hl s.base s.most • FB s.inn s.hl s.was [uy, uz, uD, uF, uG, uH, uI, uJ, uK, uM, uN, uO] • F)) DK ?_ ?_
  · rintro _ w3 ⟨pv2, gv2, A2, nw2, hl2, hp2, HJ⟩
    dsimp only [List.cons_append, List.nil_append]
    refine yV [(0, _)] (fun (_ : Unit) => []) (fun (_ : Unit) W => V w0 W (gU y (.cells (.pointer (some ⟨ED, 0, none⟩) :: .pointer (some ⟨tu, 0, none⟩) :: .pointer (some ⟨uo, 0, none⟩) :: uq :: uw :: .int .i64 s.c.place :: .string (fP s.hl s.c.tx s.c.place) :: pv2 :: gv2 :: .int .i64 s.c.mode :: .bool s.c.over :: .int .i64 s.c.res :: .bool rn :: uy :: uz :: uD :: uF :: uG :: uH :: uI :: uJ :: uK :: uM :: uN :: uO :: .bool s.given :: .bool s.minus :: .int .i64 s.arg :: .int .i64 s.yx :: .int .i64 s.Ox :: .int .i64 s.Qi :: .int .i64 s.nR :: .bool false :: .int .i64 s.cls :: .int .i64 vJ :: .int .i64 vK :: .bool s.argues :: .bool s.lS :: .bool s.jc :: nw2 :: .bool s.whole :: .bool wQ :: []).toArray 58 (0, 0)) • uQ .i64 pv2 (A2.map (·.1)) • yK 1 gv2 A2.length (A2.map (·.2.1)) • xU A2 • Row 143 3 nw2 0 [] • oK [] • kC tu s.c.L s.c.pt s.c.mark • lI uo s.c.E s.c.at_ • yK 1 uq (s.hl.length + 1) (strs (pz s.hl)) • Row 9 1 uw (s.hl.length + 1) (strs (oO s.hl s.c.tx)) • jS ED s.hl s.base s.most • FB s.inn s.hl s.was [uy, uz, uD, uF, uG, uH, uI, uJ, uK, uM, uN, uO] • F)) rJ ?_ ?_
    · rintro _ w4 HJ2
      dsimp only [List.cons_append, List.nil_append]
      refine bT O (ku O O (kY O O (bg 33 aA O ah O (dQ ay O (HJ2).get.2 O (dM O (bg 28 aA O ah O (aH (kU 28 HJ2 ah) ?_)))))))
      rintro _ w5 H5
      refine dM O (bg 29 aA O ah O (aH (kU 29 H5 ah) ?_))
      rintro _ w6 H6
      refine dM O (bg 30 aA O ah O (aH (kU 30 H6 ah) ?_))
      rintro _ w7 H7
      refine uV (bT O (dM O (bg 33 aA O ah O (dQ ay O (H7).get.2 O (aT (fA O O) (jo O (fun h3 => ?_) (fun h3 => ?_)))))))
      · (try simp only [aG] at h3)
        have hcT : s.cls = 2 := h3
        obtain ⟨rfl, rfl⟩ := dS.G9 hin (dS.rx.2.2 hin hcT)
        have ahd := H7.drew
        have CY := V.kp (ahd.f12.f12.f12.f12.f12.f12.f12.f12.f12.f12.f12.f12)
        refine tH [5, 9] CY O (fM 0 O CY O (fM 1 O CY O (fM 2 O CY O (jF 3 O CY O (eP 4 O CY 34 aA O ah O (iD 5 O CY (fun W hW => jk ay O ((Kp.h hW)).get.2 O) (fM 6 O CY O (jF 7 O CY O (eP 8 O CY 35 aA O ah O (iD 9 O CY (fun W hW => jk ay O ((Kp.h hW)).get.2 O) (jF 10 O CY O (eP 11 O CY 29 aA O ah O ?_))))))))))))
        refine gW 12 O (by kernel_rfl) (kU 29 ahd ah) ?_
        rintro _ w8 H8
        have Ip := V.kp (H8.f12.f12.f12.f12.f12.f12.f12.f12.f12.f12.f12.f12)
        refine dX Ip (by kernel_rfl) ?_
        refine jF 13 O Ip O (eP 14 O Ip 30 aA O ah O ?_)
        refine gW 15 O (by kernel_rfl) (kU 30 H8 ah) ?_
        rintro _ w9 H9
        have Dw := V.kp (H9.f12.f12.f12.f12.f12.f12.f12.f12.f12.f12.f12.f12)
        refine dX Dw (by kernel_rfl) ?_
        refine oH (aZ (aI (bT O (dM O (bg 36 aA O aN O (dQ bn O (H9).get.2 O (aT (jG O) (jo O (fun h4 => ?_) (fun h4 => ?_)))))))))
        · (try simp only [aG] at h4)
          have haF : ¬ s.argues = true := by simp_all
          refine aF (ku O O (kY O O (bg 25 aA O aN O (aH (kU 25 H9 aN) ?_))))
          rintro _ w10 rU
          refine dM O (bg 26 aA O aN O (aH (kU 26 rU aN) ?_))
          rintro _ Ii rE
          refine dM O (bg 27 aA O ah O (aH (kU 27 rE ah) ?_))
          rintro _ w12 uP
          refine iR (jE O (dO results10 O ?_))
          refine ⟨O, ?_⟩
          rw [hon] at hl2
          have hG := dS.good hl2 hp2
          rw [DC] at hG ⊢
          have HX := uP.f12.right.f6.f6.f11.f7.f7.f7.f11.f11.f11.f11.f11
          have HX2 := HX.Nv (hl := s.hl) (c := s.was) hu1
          have HX3 := HX2.f12.f12.f12.f12.f12.f12.f12.f12.f12.f12.f12
          first | simp only [if_pos hcT] at hG ⊢ | simp only [if_neg hcF] at hG ⊢
          first | simp only [if_pos haT] at hG ⊢ | simp only [if_neg haF] at hG ⊢
          rw [← hrn] at hG ⊢
          exact V.fE hG HX3
        · (try simp only [aG] at h4)
          have haT : s.argues = true := by simp_all
          refine gX (jE O (dO results10 O ?_))
          refine ⟨O, ?_⟩
          rw [hon] at hl2
          have hG := dS.good hl2 hp2
          rw [DC] at hG ⊢
          have HX := H9.f12.right.f6.f6.f11.f7.f7.f7.f11.f11.f11.f11.f11
          have HX2 := HX.Nv (hl := s.hl) (c := s.was) hu1
          have HX3 := HX2.f12.f12.f12.f12.f12.f12.f12.f12.f12.f12.f12
          first | simp only [if_pos hcT] at hG ⊢ | simp only [if_neg hcF] at hG ⊢
          first | simp only [if_pos haT] at hG ⊢ | simp only [if_neg haF] at hG ⊢
          rw [← hrn] at hG ⊢
          exact V.fE hG HX3
      · (try simp only [aG] at h3)
        have hcF : ¬ s.cls = 2 := h3
        refine gX (aI (bT O (dM O (bg 36 aA O aN O (dQ bn O (H7).get.2 O (aT (jG O) (jo O (fun h5 => ?_) (fun h5 => ?_))))))))
        · (try simp only [aG] at h5)
          have haF : ¬ s.argues = true := by simp_all
          refine aF (ku O O (kY O O (bg 25 aA O aN O (aH (kU 25 H7 aN) ?_))))
          rintro _ P7 AZ
          refine dM O (bg 26 aA O aN O (aH (kU 26 AZ aN) ?_))
          rintro _ O9 BJ
          refine dM O (bg 27 aA O ah O (aH (kU 27 BJ ah) ?_))
          rintro _ Ry CJ
          refine iR (jE O (dO results10 O ?_))
          refine ⟨O, ?_⟩
          rw [hon] at hl2
          have hG := dS.good hl2 hp2
          rw [DC] at hG ⊢
          have HX := CJ.f12.right.f6.f6.f11.f7.f7.f7.f11.f11.f11.f11.f11
          have HX2 := HX.Nv (hl := s.hl) (c := s.was) hu1
          have HX3 := HX2.f12.f12.f12.f12.f12.f12.f12.f12.f12.f12.f12
          first | simp only [if_pos hcT] at hG ⊢ | simp only [if_neg hcF] at hG ⊢
          first | simp only [if_pos haT] at hG ⊢ | simp only [if_neg haF] at hG ⊢
          rw [← hrn] at hG ⊢
          exact V.fE hG HX3
        · (try simp only [aG] at h5)
          have haT : s.argues = true := by simp_all
          refine gX (jE O (dO results10 O ?_))
          refine ⟨O, ?_⟩
          rw [hon] at hl2
          have hG := dS.good hl2 hp2
          rw [DC] at hG ⊢
          have HX := H7.f12.right.f6.f6.f11.f7.f7.f7.f11.f11.f11.f11.f11
          have HX2 := HX.Nv (hl := s.hl) (c := s.was) hu1
          have HX3 := HX2.f12.f12.f12.f12.f12.f12.f12.f12.f12.f12.f12
          first | simp only [if_pos hcT] at hG ⊢ | simp only [if_neg hcF] at hG ⊢
          first | simp only [if_pos haT] at hG ⊢ | simp only [if_neg haF] at hG ⊢
          rw [← hrn] at hG ⊢
          exact V.fE hG HX3
    · skip
      refine aF (ku O O (nS O (fun h6 => ?_) (fun h6 => ?_)))
      · (try simp only [aG] at h6)
        refine bJ (cO O (bJ (dM O (bJ (bg 40 aA O aN O (bJ (dQ bn O (HJ).get.2 O (mQ O O (nS O (fun h7 => ?_) (fun h7 => ?_))))))))))
        · (try simp only [aG] at h7)
          refine bJ (cO O (bJ (nS O (fun h8 => ?_) (fun h8 => ?_))))
          · (try simp only [aG] at h8)
            refine dB (dB (dB (dB (dB (bJ (mQ O O (mQ O O (dM O (bg 1 aA O bZ O (bg 11 bf O aN O (aH (kU 12 HJ aN) ?_)))))))))))
            rintro _ w16 yG
            refine dJ ?_
            refine ji (()) ?_ ?_ ?_
            · exact (Sub.nil _)
            · exact rJ
            · (try dsimp only)
              first | done | exact (by first | (rw [show rn = true from by rw [NK]; simp_all; done]; exact yG.f12.f12.f12.f12.f12.f12.f12.f12.f12.f12.f12.f12) | (rw [show rn = false from by rw [NK]; simp_all; done]; exact yG.f12.f12.f12.f12.f12.f12.f12.f12.f12.f12.f12.f12) | (rw [show rn = s.c.run from by rw [NK]; simp_all; done]; exact yG.f12.f12.f12.f12.f12.f12.f12.f12.f12.f12.f12.f12))
          · (try simp only [aG] at h8)
            refine bJ (cO O (bJ (dM O (bJ (bg 1 aA O bZ O (bJ (bg 11 bf O aN O (bJ (dQ bn O (HJ).get.2 O (bJ (kP O O (mQ O O (dM O (bg 1 aA O bZ O (bg 11 bf O aN O (aH (kU 12 HJ aN) ?_))))))))))))))))
            rintro _ ZI DL
            refine dJ ?_
            refine ji (()) ?_ ?_ ?_
            · exact (Sub.nil _)
            · exact rJ
            · (try dsimp only)
              first | done | exact (by first | (rw [show rn = true from by rw [NK]; simp_all; done]; exact DL.f12.f12.f12.f12.f12.f12.f12.f12.f12.f12.f12.f12) | (rw [show rn = false from by rw [NK]; simp_all; done]; exact DL.f12.f12.f12.f12.f12.f12.f12.f12.f12.f12.f12.f12) | (rw [show rn = s.c.run from by rw [NK]; simp_all; done]; exact DL.f12.f12.f12.f12.f12.f12.f12.f12.f12.f12.f12.f12))
        · (try simp only [aG] at h7)
          refine dB (dB (yX (yX (yX (yX (yX (dB (kP O O (dM O (bg 1 aA O bZ O (bg 11 bf O aN O (aH (kU 12 HJ aN) ?_))))))))))))
          rintro _ U5 DN
          refine dJ ?_
          refine ji (()) ?_ ?_ ?_
          · exact (Sub.nil _)
          · exact rJ
          · (try dsimp only)
            first | done | exact (by first | (rw [show rn = true from by rw [NK]; simp_all; done]; exact DN.f12.f12.f12.f12.f12.f12.f12.f12.f12.f12.f12.f12) | (rw [show rn = false from by rw [NK]; simp_all; done]; exact DN.f12.f12.f12.f12.f12.f12.f12.f12.f12.f12.f12.f12) | (rw [show rn = s.c.run from by rw [NK]; simp_all; done]; exact DN.f12.f12.f12.f12.f12.f12.f12.f12.f12.f12.f12.f12))
      · (try simp only [aG] at h6)
        refine dB (dB (dB (dB (kP O O (cO O (dB (dB (yX (yX (yX (yX (yX (dB (kP O O (dM O (bg 1 aA O bZ O (bg 11 bf O aN O (aH (kU 12 HJ aN) ?_))))))))))))))))))
        rintro _ X9 Df
        refine dJ ?_
        refine ji (()) ?_ ?_ ?_
        · exact (Sub.nil _)
        · exact rJ
        · (try dsimp only)
          first | done | exact (by first | (rw [show rn = true from by rw [NK]; simp_all; done]; exact Df.f12.f12.f12.f12.f12.f12.f12.f12.f12.f12.f12.f12) | (rw [show rn = false from by rw [NK]; simp_all; done]; exact Df.f12.f12.f12.f12.f12.f12.f12.f12.f12.f12.f12.f12) | (rw [show rn = s.c.run from by rw [NK]; simp_all; done]; exact Df.f12.f12.f12.f12.f12.f12.f12.f12.f12.f12.f12.f12))
  · skip
    refine aF (ku O O (nS O (fun h9 => ?_) (fun h9 => ?_)))
    · (try simp only [aG] at h9)
      refine bJ (cO O (bJ (dM O (bJ (bg 40 aA O aN O (bJ (dQ bn O (H2).get.2 O (mQ O O (nS O (fun h10 => ?_) (fun h10 => ?_))))))))))
      · (try simp only [aG] at h10)
        refine bJ (cO O (bJ (dM O (bJ (bg 1 aA O bZ O (bJ (bg 11 bf O aN O (bJ (dQ bn O (H2).get.2 O (mQ O O (fH O func49 (Em aeQ hplA aaT aii hxA aij H2.f11.f11.f10.f10.f10.f6) ?_)))))))))))
        rintro _ ZJ ⟨amS, amT, A20, amU, aik, ajK, DR⟩
        have JO := aik
        have aeR := ajK
        first
          | rw [show s.c.run = on from by rw [V6]; simp_all] at JO
          | rw [show false = on from by rw [V6]; simp_all] at JO
        refine dJ ?_
        refine ji (()) ?_ ?_ ?_
        · exact (Sub.nil _)
        · exact DK
        · (try dsimp only)
          first | done | exact ⟨_, _, _, _, JO, aeR, DR.f12.f12.f12.f12.f12.f12.f12.f12.f12.f12.f12.f12⟩
      · (try simp only [aG] at h10)
        refine dB (dB (dB (dB (dB (kP O O (fH O func49 (Em aeQ hplA aaT aii hxA aij H2.f11.f11.f10.f10.f10.f6) ?_))))))
        rintro _ Ya ⟨amV, amW, A21, amX, ail, ajL, xZ⟩
        have JO := ail
        have aeR := ajL
        first
          | rw [show s.c.run = on from by rw [V6]; simp_all] at JO
          | rw [show false = on from by rw [V6]; simp_all] at JO
        refine dJ ?_
        refine ji (()) ?_ ?_ ?_
        · exact (Sub.nil _)
        · exact DK
        · (try dsimp only)
          first | done | exact ⟨_, _, _, _, JO, aeR, xZ.f12.f12.f12.f12.f12.f12.f12.f12.f12.f12.f12.f12⟩
    · (try simp only [aG] at h9)
      refine dB (dB (dB (dB (kP O O (cO O (dB (dB (dB (dB (dB (kP O O (fH O func49 (Em aeQ hplA aaT aii hxA aij H2.f11.f11.f10.f10.f10.f6) ?_))))))))))))
      rintro _ w22 ⟨aly, alz, A22, amY, aim, ajM, FI⟩
      have JO := aim
      have aeR := ajM
      first
        | rw [show s.c.run = on from by rw [V6]; simp_all] at JO
        | rw [show false = on from by rw [V6]; simp_all] at JO
      refine dJ ?_
      refine ji (()) ?_ ?_ ?_
      · exact (Sub.nil _)
      · exact DK
      · (try dsimp only)
        first | done | exact ⟨_, _, _, _, JO, aeR, FI.f12.f12.f12.f12.f12.f12.f12.f12.f12.f12.f12.f12⟩
theorem FU (H : V w0 w (dY y s • F)) : iK prog 10 #[.pointer (some ⟨y, 0, none⟩), .int .i64 x] w fun v w' => v = .int .i64 (s.Gg x) ∧ V w0 w' (dY y (s.nZ x) • F) := by
 by_cases hin : s.inn = true
 ·by_cases hx : x = 0
  ·subst hx
   rw [show s.nZ 0 = s.nY from by unfold aX.nZ; rw [if_pos hin, if_pos rfl], show s.Gg 0 = 0 from by unfold aX.Gg; rw [if_pos hin]]
   exact Xk hin H
  ·rw [(Kz hin hx).1, (Kz hin hx).2]
   exact Ze hin hx H
 ·have hin' : s.inn = false := by simpa using hin
  rw [show s.nZ x = s from by unfold aX.nZ; rw [if_neg hin], show s.Gg x = 1 from by unfold aX.Gg; rw [if_neg hin]]
  refine nO func10 ntmps10 ?_
  refine kG O (aI (aI ?_))
  obtain ⟨ED, tu, uo, uq, uw, wL, wM, EF, wO, wP, vJ, vK, wQ, uy, uz, uD, uF, uG, uH, uI, uJ, uK, uM, uN, uO, dS, lF, fU⟩ := (H).xq
  refine aF (kY O O (bg 32 aA O aN O (dQ bn O (fU).get.2 O (aT (jG O) (jo O (fun h1 => ?_) (fun h => by exfalso; (try simp only [aG] at h); simp [hin'] at h))))))
  (try simp only [aG] at h1)
  refine jE O (aC (dO results10 O ?_))
  have F9 := fU.f12.f12.f12.f12.f12.f12.f12.f12.f12.f12.f12.f12
  have Fq := V.fE (s := s) dS F9
  exact ⟨O, Fq⟩
end
theorem Zg (hl : List rM) : fP hl (fun _ => none) (hl.length : Int) = .empty := by
  unfold fP BA WB
  rw [if_neg (by omega)]; rfl
section
variable {w0 w : World} {F : HP} {y h : Nat} {s : aX} {hl : List rM} {base most : Int} {l : List Int} {v : Value}
set_option maxHeartbeats 1000000 in
theorem NM {x0 x1 x2 x3 x4 x5 x6 x7 x8 x9 x10 x11 x12 yJ x14 x15 x16 x17 x18 x19 x20 x21 yO x23 x24 x25 yS x27 x28 x29 x30 x31 yZ x34 Gn Gp Gq x38 x39 x40 x41 : Value} {b : Bool} (hb : b = false) (H : V w0 w (gU y (.cells (x0 :: x1 :: x2 :: x3 :: x4 :: x5 :: x6 :: x7 :: x8 :: x9 :: x10 :: x11 :: x12 :: yJ :: x14 :: x15 :: x16 :: x17 :: x18 :: x19 :: x20 :: x21 :: yO :: x23 :: x24 :: x25 :: yS :: x27 :: x28 :: x29 :: x30 :: x31 :: .bool b :: yZ :: x34 :: Gn :: Gp :: Gq :: x38 :: x39 :: x40 :: x41 :: []).toArray 58 (0, 0)) • jS h hl base most • F)) (hr : jZ w0 F .i32 v l) (hshort : l.length ≤ 1024) : iK prog 14 #[.pointer (some ⟨y, 0, none⟩), .pointer (some ⟨h, 0, none⟩), v] w fun v' w' => v' = .int .i64 0 ∧ ∃ ph pb wv nv,
    V w0 w' (gU y (.cells (.pointer (some ⟨ph, 0, none⟩) :: .pointer (some ⟨pb, 0, none⟩) :: x2 :: wv :: nv :: .int .i64 hl.length :: .string .empty :: .slice none 0 0 :: .slice none 0 0 :: x9 :: .bool false :: .int .i64 0 :: .bool false :: yJ :: x14 :: x15 :: x16 :: x17 :: x18 :: x19 :: x20 :: x21 :: yO :: x23 :: x24 :: .bool false :: .bool false :: .int .i64 (-1) :: .int .i64 0 :: .int .i64 0 :: .int .i64 0 :: x31 :: .bool b :: yZ :: x34 :: Gn :: Gp :: Gq :: x38 :: x39 :: x40 :: x41 :: []).toArray 58 (0, 0)) •
      kC pb l l.length (-1) • yK 1 wv (hl.length + 1) (strs (pz hl)) • Row 9 1 nv (hl.length + 1) (strs (oO hl (fun _ => none))) • jS ph hl base most • jS h hl base most • F) := by
  refine FY func14 ntmps14 ?_
  refine kG O (aI (bT O (aT (oQ xu O O) (iR (Kq O (fun h1 => ?_))))))
  (try simp only [aG] at h1)
  refine gX (aI (bT O (dM O (bg 32 aA O aN O (dQ bn O (H).get.2 O (jo O (fun h => by exfalso; (try simp only [aG] at h); simp [hb] at h) (fun h2 => ?_)))))))
  (try simp only [aG] at h2)
  refine gX (bT O (fH O func65 (Yw H (fun W HW => hr _ (HW.right.right)) hshort) ?_))
  rintro _ w1 ⟨p1, rfl, H1⟩
  refine cO O (xY O O (xY O O (lg O (vI O (bT O (aT (fF O O) (iR (Kq O (fun h3 => ?_)))))))))
  (try simp only [aG] at h3)
  refine gX (bT O (cO O (fH O func66 (P6 H1.f3) ?_)))
  rintro _ w2 ⟨q2, rfl, H2⟩
  refine dM O (bg 0 aA O sizeOf44 O (aH (kU 0 H2.f4 sizeOf44) ?_))
  rintro _ w3 H3
  refine qG O (kY O O (bg 1 aA O bZ O (bg 0 bf O kD O (aH (kU 1 H3 kD) ?_))))
  rintro _ w4 H4
  refine qG O (kY O O (bg 0 aA O sizeOf44 O (dQ xu O (H4).get.2 O (fH O func67 (Ug H4.f2) ?_))))
  rintro _ w5 ⟨q5, ov5, nv5, rfl, H5⟩
  refine dM O (aT (dU dL O mJ O O (H5).get.2) (dM O (bg 1 aA O bZ O (bg 2 bf O mJ O (aH (dR 3 (l' := [_, _, _, _, _, _, _, _, _, _, _, _, _, _, _, _, _, _, _, _, _, _, _, _, _, _, _, _, _, _, _, _, _, _, _, _, _, _, _, _, _, _]) (us := [_, _, _]) H5.f5 mJ O O O (bD (by first | rfl | exact Rd.one ((H5.f2).aJ)) (bD (by first | rfl | exact Rd.one ((H5.f3).aJ)) (aP bW))) O O) ?_)))))
  rintro _ w6 H6
  refine qG O (dM O (bg 1 aA O bZ O (bg 5 bf O oM O (aH (kU 6 H6 oM) ?_))))
  rintro _ w7 H7
  refine qG O (aT (iT (zl := [.slice none 0 0, .slice none 0 0]) (pl := [(0, 1), (1, 1)]) [_, _] pJ zeroValue53 O (fun w => by kernel_rfl) O (.zero (zs := [.slice none 0 0]) O (.zero (zs := [.slice none 0 0]) O .nil)) O) (dM O (bg 1 aA O bZ O (bg 6 bf O xX O (aH (dR 7 (l' := [_, _, _, _, _, _, _, _, _, _, _, _, _, _, _, _, _, _, _, _, _, _, _, _, _, _, _, _, _, _, _, _, _, _, _, _, _, _, _, _, _, _]) (us := [_, _]) H7 xX O O O (aP (aP bW)) O O) ?_)))))
  rintro _ w8 H8
  refine qG O (ku O O (dM O (bg 1 aA O bZ O (bg 9 bf O aN O (aH (kU 10 H8 aN) ?_)))))
  rintro _ w9 H9
  refine dM O (bg 1 aA O bZ O (bg 10 bf O ah O (aH (kU 11 H9 ah) ?_)))
  rintro _ w10 rU
  refine dM O (bg 1 aA O bZ O (bg 11 bf O aN O (aH (kU 12 rU aN) ?_)))
  rintro _ Ii rE
  refine qG O (ku O O (dM O (bg 25 aA O aN O (aH (kU 25 rE aN) ?_))))
  rintro _ w12 uP
  refine dM O (bg 26 aA O aN O (aH (kU 26 uP aN) ?_))
  rintro _ P7 AZ
  refine dM O (bg 27 aA O ah O (aH (kU 27 AZ ah) ?_))
  rintro _ O9 BJ
  refine qG O (ku O O (dM O (bg 28 aA O ah O (aH (kU 28 BJ ah) ?_))))
  rintro _ Ry CJ
  refine dM O (bg 29 aA O ah O (aH (kU 29 CJ ah) ?_))
  rintro _ w16 yG
  refine dM O (bg 30 aA O ah O (aH (kU 30 yG ah) ?_))
  rintro _ ZI DL
  refine iR (jE O (dO results14 O ?_))
  have HQ := (DL.f2.right.f5.f5.f5.f6.f5.f6).Oy
  rw [G6, ← Tc] at HQ
  exact ⟨O, _, _, _, _, by rw [← Tc]; exact HQ.f2.f3.f2⟩
theorem ain (hl : List rM) (base most : Int) : iY (aX.new hl base most) [] [] 0 0 :=
  ⟨aew hl base most, ⟨⟨fun k => ⟨by show iH [] [] ≤ 16384; decide, by show ∀ g ∈ [], _; simp⟩, by show (0 : Nat) ≤ 60; decide, .inr rfl, by show ∀ e ∈ [], _; simp⟩, fun hi => absurd hi (by show ¬ false = true; decide), fun hi => absurd hi (by show ¬ false = true; decide)⟩, rfl, rfl, ⟨List.nodup_nil, by simp⟩, fun hi => absurd hi (by show ¬ false = true; decide)⟩
theorem Zh (H : V w0 w (jS h hl base most • F)) : iK prog 18 #[.pointer (some ⟨h, 0, none⟩)] w fun v' w' => ∃ y, v' = .tuple #[.pointer (some ⟨y, 0, none⟩), .int .i64 0] ∧ V w0 w' (dY y (aX.new hl base most) • jS h hl base most • F) := by
  refine jl func18 ntmps18 ?_
  refine kQ (lg O (vI O (bT O (aT (oQ xu O O) (iR (Kq O (fun h1 => ?_)))))))
  (try simp only [aG] at h1)
  refine gX (kQ (aT (iT (zl := [.pointer none, .pointer none, .pointer none, .slice none 0 0, .slice none 0 0, .int .i64 0, .string .empty, .slice none 0 0, .slice none 0 0, .int .i64 0, .bool false, .int .i64 0, .bool false, .pointer none, .pointer none, .slice none 0 0, .slice none 0 0, .int .i64 0, .string .empty, .slice none 0 0, .slice none 0 0, .int .i64 0, .bool false, .int .i64 0, .bool false, .bool false, .bool false, .int .i64 0, .int .i64 0, .int .i64 0, .int .i64 0, .int .i64 0, .bool false, .int .i64 0, .int .i64 0, .int .i64 0, .bool false, .bool false, .bool false, .slice none 0 0, .bool false, .bool false]) (pl := [(0, 1), (1, 12), (13, 12), (25, 1), (26, 1), (27, 1), (28, 1), (29, 1), (30, 1), (31, 1), (32, 1), (33, 1), (34, 1), (35, 1), (36, 1), (37, 1), (38, 1), (39, 1), (40, 1), (41, 1)]) [_, _, _, _, _, _, _, _, _, _, _, _, _, _, _, _, _, _, _, _, _, _, _, _, _, _, _, _, _, _, _, _, _, _, _, _, _, _, _, _, _, _] aA zeroValue58 O (fun w => by kernel_rfl) O (.zero (zs := [.pointer none]) O (.zero (zs := [.pointer none, .pointer none, .slice none 0 0, .slice none 0 0, .int .i64 0, .string .empty, .slice none 0 0, .slice none 0 0, .int .i64 0, .bool false, .int .i64 0, .bool false]) O (.zero (zs := [.pointer none, .pointer none, .slice none 0 0, .slice none 0 0, .int .i64 0, .string .empty, .slice none 0 0, .slice none 0 0, .int .i64 0, .bool false, .int .i64 0, .bool false]) O (.zero (zs := [.bool false]) O (.zero (zs := [.bool false]) O (.zero (zs := [.int .i64 0]) O (.zero (zs := [.int .i64 0]) O (.zero (zs := [.int .i64 0]) O (.zero (zs := [.int .i64 0]) O (.zero (zs := [.int .i64 0]) O (.zero (zs := [.bool false]) O (.zero (zs := [.int .i64 0]) O (.zero (zs := [.int .i64 0]) O (.zero (zs := [.int .i64 0]) O (.zero (zs := [.bool false]) O (.zero (zs := [.bool false]) O (.zero (zs := [.bool false]) O (.zero (zs := [.slice none 0 0]) O (.zero (zs := [.bool false]) O (.zero (zs := [.bool false]) O .nil)))))))))))))))))))) O) (jT (kZ (l := [_, _, _, _, _, _, _, _, _, _, _, _, _, _, _, _, _, _, _, _, _, _, _, _, _, _, _, _, _, _, _, _, _, _, _, _, _, _, _, _, _, _]) H O O) ?_)))
  rintro _ w1 ⟨b1, rfl, H1⟩
  refine iU O (bT O (aT (iT (zl := [.slice none 0 0, .int .i64 0]) (pl := [(0, 1), (1, 1)]) [_, _] dD zeroValue115 O (fun w => by kernel_rfl) O (.zero (zs := [.slice none 0 0]) O (.zero (zs := [.int .i64 0]) O .nil)) O) (jT (kZ (l := [_, _]) H1 O O) ?_)))
  rintro _ w2 ⟨b2, rfl, H2⟩
  refine dM O (bg 1 aA O bZ O (bg 1 bf O vP O (aH (kU 2 H2.f2 vP) ?_)))
  rintro _ w3 H3
  refine qG O (cO O (fH O func14 (NM (l := []) O H3.f2.f3.f3 (fun W _ => mP.nil W _ none 0 (by decide)) (by decide)) ?_))
  rintro _ w4 ⟨rfl, ph, pb, wv, nv, H4⟩
  refine qG O (lg O (iJ O (Fp results18 O O ?_)))
  have HR := ((H4.f6.f6.f6.f6.f6.f6.f7).Rh (k := .i32)).iV (e := 24) (sz := 1) none
  have HR2 := (V.mV (E := []) (place := 0) (HR.agS (ls := [])).swap)
  have HR3 := ((HR2.Yu.aax (sz := 1) none).Yv (k := .i64) none)
  have hT := Zg hl
  refine ⟨_, O, V.abZ (s := aX.new hl base most) (h := ph) (pb := pb) (pk := b2) (wv := wv) (nv := nv) (pv := .slice none 0 0) (gv := .slice none 0 0) (ch := false) (u0 := .pointer none) (u1 := .pointer none) (u2 := .slice none 0 0) (u3 := .slice none 0 0) (u4 := .int .i64 0) (u5 := .string .empty) (u6 := .slice none 0 0) (u7 := .slice none 0 0) (u8 := .int .i64 0) (u9 := .bool false) (ua := .int .i64 0) (ub := .bool false) (ain hl base most) O ?_ ?_⟩
  · show V w0 _ (gU _ (.cells (_ :: _ :: _ :: _ :: _ :: _ :: .string (fP hl (fun _ => none) (hl.length : Int)) :: _).toArray _ (0, 0)) • _)
    rw [hT]
    exact HR3.f10.f10.f5.f5.f5.f10.f10.f8.f10.f10
  · rfl
theorem aeS {es : List gJ} {A : List LE} {yf yt : Int} (h : iY s es A yf yt) (hi : s.inn = false) (hl : List rM) (base most : Int) (l : List Int) : iY (s.start hl base most l) es [] yf yt :=
  ⟨Y8 h.ok hi _ _ _ _, ⟨⟨fun k => ⟨by show iH [] [] ≤ 16384; decide, by show ∀ g ∈ [], _; simp⟩, h.rx.1.2⟩, fun h2 => absurd (show s.inn = true from h2) (by rw [hi]; decide), fun h2 => absurd (show s.inn = true from h2) (by rw [hi]; decide)⟩, h.says, rfl, ⟨List.nodup_nil, by simp⟩, fun h2 => absurd (show s.inn = true from h2) (by rw [hi]; decide)⟩
end
end Go.Proofs.YtnhhmieghbfalaaGreatDoor
end
