import Derived.Test.YtnhhmieghbfalaaGreatZ4
import Derived.Test.YtnhhmieghbfalaaGreatZ17
set_option linter.unusedSimpArgs false
set_option linter.unusedVariables false
/- Texts of mine, joined, their names in short: REdR REdT REdF. -/
section
namespace Go.Proofs.YtnhhmieghbfalaaGreat
open Go.RowKit
open _root_.Go.Proofs.Tryz
section
variable {w0 w : World} {F : HP} {p y h : Nat} {s : bP} {l dl il : List Int} {v d i : Value} {a x j k : Int}
theorem GI (H : V w0 w (iT y s • F)) : iQ prog 122 #[.pointer (some ⟨y, 0, none⟩)] w fun v w' => v = .int .i64 (fQ s.here s.put : Nat) ∧ V w0 w' (iT y s • F) := by
 refine jH func122 ntmps122 ?_
 obtain ⟨MB, zk, zn, zo, zq, BR, BU, Ny, BX, BZ, Bl, Bo, Bq, zu, zx, zy, zA, zB, zC, zD, zF, zG, zH, zI, zJ, jG, qW, lI⟩ := (H).Bj
 have ad5 := S9 jG
 have htot := jG.ok.2.2.2.2.1
 unfold fQ at htot
 rw [Vl] at htot
 refine kW O (bY O (dA O (Z 39 aI O bn O (dL aQ O (lI).get.2 O (aZ (fA ((lI.f10).aG) aQ O) (uK O ?_))))))
 have Np := lI.drew
 have lg := V.kp (Np.f12.f12.f12.f12.f12.f12.f12.f12.f12.f12.f12.f12)
 refine wL [9] lg O (gK 0 O lg O (jL 1 O lg O (fH 2 O lg 1 aI O dB O (fH 3 O lg 6 bH O sizeOf81 O (gK 4 O lg O (jL 5 O lg O (fH 6 O lg 1 aI O dB O (fH 7 O lg 2 bH O mP O (fH 8 O lg 2 dH O ah O (iY 9 O lg (fun W hW => jQ ay O ((Kp.h hW)).get.2 O) (lU 10 O (xB O func95 (Fv Np.f8.f8.f8.f4)) ?_)))))))))))
 rintro u2 w2 ⟨gs2, afD, H2⟩
 obtain ⟨gu, rfl⟩ : ∃ q, q = u2 := ⟨_, rfl⟩
 obtain ⟨gs, rfl⟩ : ∃ q, q = gs2 := ⟨_, rfl⟩
 have hG : Aw gs = s.here := by rw [afD, jG.CS]; rfl
 have hgl : gs.length = s.here.length := by rw [← hG]; exact (List.length_map _).symm
 have Q9 := H2.f2.f2
 have Oi := Q9
 have xR := V.kp (Oi.f14.f14.f14.f14.f14.f14.f14.f14.f14.f14.f14.f14.f14.f14)
 refine fG xR (by kernel_rfl) ?_
 refine jR 11 O xR (fun _ => iV O) (qN (bC (aO (kW O (bI ?_)))))
 obtain ⟨agu, cgu, egu, -⟩ := ((Oi).nO).form
 subst egu
 have PG := Oi.f14.f14.f14.f14.f10.f10.f10.f14.f14.f14.f14.f14
 have PI := V.lu (s := s) jG PG
 refine iC [(4, _)] (fun (k : Nat) => [(3, .int .i64 ((s.put.length + (s.here.take k).flatten.length : Nat) : Int)), (5, .int .i64 (k : Int))]) (fun (k : Nat) W => k ≤ gs.length ∧ V w0 W (iT y s • tY 1 (.slice agu gs.length cgu) gs.length (gs.map (·.1)) • qL gs • F)) (fun (k : Nat) => gs.length - k) (0) pY (Sub.qF O (by simp) (Sub.qF O (O) (Sub.nil _))) ⟨by omega, PI.f3.f3.f3⟩ ?_
 rintro k w9 ⟨hk, HL⟩
 dsimp only [List.cons_append, List.nil_append]
 refine aO (bY O (dn O (aZ (iW bJ O) (aZ (iE O O) (kE O (fun h1 => ?_) (fun h1 => ?_))))))
 ·(try simp only [aK] at h1)
  refine gX (aO (bI (aB (jw O O (dn O ?_)))))
  obtain ⟨bgu, ogu, rfl⟩ := Rd.pos ((HL.f2).nO) (by omega)
  refine aZ (eG bJ bn O O (by omega)) ?_
  refine aZ (jk (eH aQ O) O (by first | exact Rd.wG ((HL.f2).nO) (by omega) | exact Rd.Hf ((HL.f2).nO) (by omega) | exact Rd.GX ((HL.f2).nO) (by omega))) ?_
  have hkl : k < gs.length := by omega
  rw [show (gs.map (·.1)).getD k undef = (gs.getD k default).1 from by simp [List.getD_eq_getElem?_getD, hkl]]
  obtain ⟨gl, xQ, hg⟩ : ∃ gl xQ, gs.getD k default = (gl, xQ) := ⟨_, _, rfl⟩
  rw [hg]
  have KR := HL.f3
  have Jr := KR.F6 hkl hg
  have hge : s.here.getD k [] = xQ.map fB.says := by
   rw [← hG]
   have h9 : (Aw gs).getD k [] = (gs.getD k default).2.map fB.says := by unfold Aw; simp [List.getD_eq_getElem?_getD, hkl]
   rw [h9, hg]
  have hft := congrArg List.length (PL (G := s.here) (k := k) (by omega))
  rw [List.length_append, hge, List.length_map] at hft
  have hfe := Un s.here (k + 1)
  refine aZ (fA ((Jr).wU) aQ O) (aZ (fZ O O (by omega)) (oD O (cO (aX (bC (aB (dn O (aZ (fZ O O (by omega)) (oD O (cO ?_))))))))))
  refine eX (k + 1) ?_ ?_ ?_ ?_
  ·exact (Sub.qF O (by rw [show s.put.length + (s.here.take (k + 1)).flatten.length = s.put.length + (s.here.take k).flatten.length + xQ.length from by omega, Int.natCast_add (s.put.length + (s.here.take k).flatten.length)]) pY)
  ·exact pY
  ·(try dsimp only)
   first | done | exact ⟨by omega, Jr.right.f3.f3⟩
  ·(try dsimp only); omega
 ·(try simp only [aK] at h1)
  refine gY (aY (aY (dw (bC (bY O (jP O (gy results122 O ?_)))))))
  rw [List.take_of_length_le (by omega)]
  exact ⟨by unfold fQ; rw [Vl]; congr 1; omega, HL.f2.right.f2.right⟩
theorem V.JZ {h pb pk : Nat} {wv nv pv gv : Value} {A : List LE} {nw : Value} {es : List fB} {yf yt : Int} {ch : Bool} {u0 u1 u2 u3 u4 u5 u6 u7 u8 u9 ua ub : Value} (h1 : gB s es A yf yt) (H : V w0 w (JI nw es • eF y (.cells (.pointer (some ⟨h, 0, none⟩) :: .pointer (some ⟨pb, 0, none⟩) :: .pointer (some ⟨pk, 0, none⟩) :: wv :: nv :: .int .i64 s.c.place :: .string (iK s.hl s.c.tx s.c.place) :: pv :: gv :: .int .i64 s.c.mode :: .bool s.c.over :: .int .i64 s.c.res :: .bool s.c.run :: u0 :: u1 :: u2 :: u3 :: u4 :: u5 :: u6 :: u7 :: u8 :: u9 :: ua :: ub :: .bool s.given :: .bool s.minus :: .int .i64 s.arg :: .int .i64 s.xI :: .int .i64 s.Uo :: .int .i64 s.Ur :: .int .i64 s.nZ :: .bool s.inn :: .int .i64 s.cls :: .int .i64 yf :: .int .i64 yt :: .bool s.argues :: .bool s.kJ :: .bool s.kZ :: nw :: .bool s.whole :: .bool ch :: []).toArray 85 (0, 0)) • kN pb s.c.L s.c.pt s.c.mark • lF pk s.c.E s.c.at_ • tY 1 wv (s.hl.length + 1) (strs (nN s.hl)) • Row 9 1 nv (s.hl.length + 1) (strs (pV s.hl s.c.tx)) • qK .i64 pv (A.map (·.1)) • tY 1 gv A.length (A.map (·.2.1)) • rW A • jf h s.hl s.base s.most • Ep s.inn s.hl s.was [u0, u1, u2, u3, u4, u5, u6, u7, u8, u9, ua, ub] • F)) : V w0 w (iT y s • F) := by
  refine V.lu (y := y) (h := h) (pb := pb) (pk := pk) (wv := wv) (nv := nv) (pv := pv) (gv := gv) (ch := ch) (u0 := u0) (u1 := u1) (u2 := u2) (u3 := u3) (u4 := u4) (u5 := u5) (u6 := u6) (u7 := u7) (u8 := u8) (u9 := u9) (ua := ua) (ub := ub) (nw := nw) (es := es) h1 ?_
  have hl : s.put.length = es.length := by rw [← h1.says]; simp
  rw [hl]
  exact H.of_eq (by unfold JI; ac_rfl)
theorem Qe (H : V w0 w (jg 21 .i32 d dl • jg 21 .i32 i il • iT y s • F)) (hin : s.inn = true) (hok : 0 < dl.length + il.length → xK (a, dl, il)) :
  iQ prog 83 #[.pointer (some ⟨y, 0, none⟩), .agg #[.int .i64 a, d, i]] w fun _ w' => V w0 w' (iT y (s.oH (a, dl, il)) • F) := by
 refine qQ func83 ntmps83 ?_
 refine lQ (jW (kC (l := [_, _, _]) H O O) ?_)
 rintro _ w1 ⟨b1, rfl, H1⟩
 refine qJ (lQ (Z 1 aP O bg O (dL aA O (H1).get.2 O (aZ (pW ((H1.f2).aG) aA O) (aZ (je O O) (qG O (fun h1 => ?_) (fun h1 => ?_)))))))
 ·(try simp only [aK] at h1)
  refine bK (Z 2 aP O bg O (bK (dL aA O (H1).get.2 O (bK (aZ (pW ((H1.f3).aG) aA O) (bK (aZ (je O O) (nX O O (kE O (fun h2 => ?_) (fun h2 => ?_))))))))))
  ·(try simp only [aK] at h2)
   have hlen : dl.length + il.length = 0 := by omega
   refine oP (aV (we0 results83 ?_))
   rw [A8 (x := (a, dl, il)) hlen]
   exact H1.right.right.right
  ·(try simp only [aK] at h2)
   refine gX (aO (aO ?_))
   have hlen : 0 < dl.length + il.length := by omega
   refine aB (dn O (fO O func122 (GI H1.f4) ?_))
   rintro _ w2 ⟨rfl, H2⟩
   refine aZ (Cc O O) (kE O (fun h3 => ?_) (fun h3 => ?_))
   ·(try simp only [aK] at h3)
    have htot : 16384 ≤ fQ s.here s.put := by have h9 := h3; omega
    obtain ⟨MB, zk, zn, zo, zq, BR, BU, Ny, BX, BZ, Bl, Bo, Bq, zu, zx, zy, zA, zB, zC, zD, zF, zG, zH, zI, zJ, jG, qW, lI⟩ := (H2).Bj
    have hpl := Fp jG.placed (by obtain ⟨hv9, hk9, _⟩ := (lI.f9).Gw; have := hk9.1; have := hk9.2.2; omega)
    have hsp := mG s.here s.put
    refine aO ?_
    have ad6 := lI.drew
    have DR := V.kp (ad6.f15.f15.f15.f15.f15.f15.f15.f15.f15.f15.f15.f15.f15.f15.f15)
    refine wL [9] DR O (gK 0 O DR O (jL 1 O DR O (fH 2 O DR 1 aI O dB O (fH 3 O DR 6 bH O sizeOf81 O (gK 4 O DR O (jL 5 O DR O (fH 6 O DR 1 aI O dB O (fH 7 O DR 2 bH O mP O (fH 8 O DR 2 dH O ah O (iY 9 O DR (fun W hW => jQ ay O ((Kp.h hW)).get.2 O) (lU 10 O (xB O func96 (I8 ad6.f8.f8.f8.f4 (by assumption))) ?_)))))))))))
    rintro _ w4 ⟨pv4, gv4, H4⟩
    have xR := V.kp (H4.f15.f15.f15.f15.f15.f15.f15.f15.f15.f15.f15.f15.f15.f15.f15)
    refine fG xR (by kernel_rfl) ?_
    refine qN (bC (bY O (dA O (Z 39 aI O bn O (aC (mY 39 H4 bn) ?_)))))
    rintro _ w5 H5
    refine iF (aB (lM O O (Z 1 aI O dB O (Z 11 bH O aN O (aC (mY 12 H5 aN) ?_)))))
    rintro _ w6 H6
    refine iF ?_
    have ad7 := H6.drew
    have MF := V.kp (ad7.f15.f15.f15.f15.f15.f15.f15.f15.f15.f15.f15.f15.f15.f15.f15)
    refine wL [4, 5] MF O (gK 0 O MF O (gK 1 O MF O (jL 2 O MF O (fH 3 O MF 39 aI O bn O (iY 4 O MF (fun W hW => jQ aQ O ((Kp.h hW)).get.2 O) (iY 5 O MF (fun W hW => dF aP O bF O O ((Kp.h hW).f13).get.2) (lU 6 O (lK ad7 aQ bF bV O O O (by decide) (by decide)) ?_)))))))
    rintro l7 w7 H7
    have xU := V.kp (H7.f16.f16.f16.f16.f16.f16.f16.f16.f16.f16.f16.f16.f16.f16.f16.f16)
    refine dV xU (fun W hW => (Kp.h hW).right.f15.f15.f15.f15.f15.f15.f15.f15.f15.f15.f15.f15.f15.f15.f15) ?_
    refine lU 7 O (dQ (H7.gV none) aQ wo O O O ((H7).aG) (aH (aW (by first | rfl | exact Rd.one ((H7.f15).aG)) (aW (by first | rfl | exact Rd.one ((H7.f16).aG)) bG))) (by omega) (by omega)) ?_
    rintro l8 w8 H8
    have Hd9 := H8.f2.right
    have Em := V.kp (Hd9.f16.f16.f16.f16.f16.f16.f16.f16.f16.f16.f16.f16.f16.f16.f16.f16)
    refine fG Em (by kernel_rfl) ?_
    refine jL 8 O Em O (fH 9 O Em 39 aI O bn O ?_)
    refine gJ 10 O (by kernel_rfl) (dX 39 (l' := [_, _, _, _, _, _, _, _, _, _, _, _, _, _, _, _, _, _, _, _, _, _, _, _, _, _, _, _, _, _, _, _, _, _, _, _, _, _, _, _, _, _]) Hd9.f2 bn O O (by first | rfl | exact Rd.one ((Hd9).aG)) O O) ?_
    rintro _ w10 rD
    have CB := V.kp (rD.f16.f16.f16.f16.f16.f16.f16.f16.f16.f16.f16.f16.f16.f16.f16.f16)
    refine fG CB (by kernel_rfl) ?_
    refine qN (kG (.inr O) results83 ?_)
    have X := (rD.f11.right.f11.right.f12.right.f11.f11.f7.f7.f7.f11.f11.f11.f11.f10.f11.f13.f13).iZ.swap.iZ.swap
    have X2 := V.uo (es := []) X.Dk.f3.f3.f4
    rw [uT (x := (a, dl, il)) hlen htot]
    exact V.JZ (s := { s.lG [] with put := [(a, dl, il)], c := { (s.lG []).c with run := false } }) (uT (x := (a, dl, il)) hlen htot ▸ jG.full hin (x := (a, dl, il)) O hlen (hok hlen) htot (by rw [Qb, jG.CS]; rfl) (Fq jG.placed ⟨jG.ok.1.1, jG.ok.1.2.1⟩)) X2
   ·(try simp only [aK] at h3)
    have htot : ¬ 16384 ≤ fQ s.here s.put := by have h9 := h3; omega
    obtain ⟨MB, zk, zn, zo, zq, BR, BU, Ny, BX, BZ, Bl, Bo, Bq, zu, zx, zy, zA, zB, zC, zD, zF, zG, zH, zI, zJ, jG, qW, lI⟩ := (H2).Bj
    have hsp := mG s.here s.put
    refine gX ?_
    have abp := lI.drew
    have Fz := V.kp (abp.f15.f15.f15.f15.f15.f15.f15.f15.f15.f15.f15.f15.f15.f15.f15)
    refine wL [4, 5] Fz O (gK 0 O Fz O (gK 1 O Fz O (jL 2 O Fz O (fH 3 O Fz 39 aI O bn O (iY 4 O Fz (fun W hW => jQ aQ O ((Kp.h hW)).get.2 O) (iY 5 O Fz (fun W hW => dF aP O bF O O ((Kp.h hW).f13).get.2) (lU 6 O (lK abp aQ bF bV O O O (by decide) (by decide)) ?_)))))))
    rintro l12 w12 vN
    have Dl := V.kp (vN.f16.f16.f16.f16.f16.f16.f16.f16.f16.f16.f16.f16.f16.f16.f16.f16)
    refine dV Dl (fun W hW => (Kp.h hW).right.f15.f15.f15.f15.f15.f15.f15.f15.f15.f15.f15.f15.f15.f15.f15) ?_
    refine lU 7 O (dQ vN.f11 aQ wo O O O ((vN).aG) (aH (aW (by first | rfl | exact Rd.one ((vN.f15).aG)) (aW (by first | rfl | exact Rd.one ((vN.f16).aG)) bG))) (by omega) (by omega)) ?_
    rintro l13 TB AB
    have RQ := AB.f2.right
    have FY := V.kp (RQ.f15.f15.f15.f15.f15.f15.f15.f15.f15.f15.f15.f15.f15.f15.f15)
    refine fG FY (by kernel_rfl) ?_
    refine jL 8 O FY O (fH 9 O FY 39 aI O bn O ?_)
    refine gJ 10 O (by kernel_rfl) (dX 39 (l' := [_, _, _, _, _, _, _, _, _, _, _, _, _, _, _, _, _, _, _, _, _, _, _, _, _, _, _, _, _, _, _, _, _, _, _, _, _, _, _, _, _, _]) RQ.f2 bn O O (by first | rfl | exact Rd.one ((RQ).aG)) O O) ?_
    rintro _ TD Bz
    have Cm := V.kp (Bz.f15.f15.f15.f15.f15.f15.f15.f15.f15.f15.f15.f15.f15.f15.f15)
    refine fG Cm (by kernel_rfl) ?_
    refine qN (kG (.inr O) results83 ?_)
    have X := (Bz.f13.right.f12.f11.f11.f11.f11.f11.f11.f11.f11.f10.f12.f12.f14.f14).iZ.swap.iZ.swap
    rw [← qW] at X
    have X2 := V.uo X.f3
    rw [uS (x := (a, dl, il)) hlen htot]
    exact V.JZ (s := { s with put := s.put ++ [(a, dl, il)] }) (uS (x := (a, dl, il)) hlen htot ▸ jG.more hin (x := (a, dl, il)) O hlen (hok hlen) htot) X2
 ·(try simp only [aK] at h1)
  refine cZ (cZ (cZ (cZ (lH O O (iF (vX (gX (aO (aO ?_)))))))))
  have hlen : 0 < dl.length + il.length := by omega
  refine aB (dn O (fO O func122 (GI H1.f4) ?_))
  rintro _ w16 ⟨rfl, wE⟩
  refine aZ (Cc O O) (kE O (fun h4 => ?_) (fun h4 => ?_))
  ·(try simp only [aK] at h4)
   have htot : 16384 ≤ fQ s.here s.put := by have h9 := h4; omega
   obtain ⟨MB, zk, zn, zo, zq, BR, BU, Ny, BX, BZ, Bl, Bo, Bq, zu, zx, zy, zA, zB, zC, zD, zF, zG, zH, zI, zJ, jG, qW, lI⟩ := (wE).Bj
   have hpl := Fp jG.placed (by obtain ⟨hv9, hk9, _⟩ := (lI.f9).Gw; have := hk9.1; have := hk9.2.2; omega)
   have hsp := mG s.here s.put
   refine aO ?_
   have abq := lI.drew
   have zK := V.kp (abq.f15.f15.f15.f15.f15.f15.f15.f15.f15.f15.f15.f15.f15.f15.f15)
   refine wL [9] zK O (gK 0 O zK O (jL 1 O zK O (fH 2 O zK 1 aI O dB O (fH 3 O zK 6 bH O sizeOf81 O (gK 4 O zK O (jL 5 O zK O (fH 6 O zK 1 aI O dB O (fH 7 O zK 2 bH O mP O (fH 8 O zK 2 dH O ah O (iY 9 O zK (fun W hW => jQ ay O ((Kp.h hW)).get.2 O) (lU 10 O (xB O func96 (I8 abq.f8.f8.f8.f4 (by assumption))) ?_)))))))))))
   rintro _ Xv ⟨ahD, ahE, Ef⟩
   have y8 := V.kp (Ef.f15.f15.f15.f15.f15.f15.f15.f15.f15.f15.f15.f15.f15.f15.f15)
   refine fG y8 (by kernel_rfl) ?_
   refine qN (bC (bY O (dA O (Z 39 aI O bn O (aC (mY 39 Ef bn) ?_)))))
   rintro _ Xw zN
   refine iF (aB (lM O O (Z 1 aI O dB O (Z 11 bH O aN O (aC (mY 12 zN aN) ?_)))))
   rintro _ XM Ci
   refine iF ?_
   have abr := Ci.drew
   have FB := V.kp (abr.f15.f15.f15.f15.f15.f15.f15.f15.f15.f15.f15.f15.f15.f15.f15)
   refine wL [4, 5] FB O (gK 0 O FB O (gK 1 O FB O (jL 2 O FB O (fH 3 O FB 39 aI O bn O (iY 4 O FB (fun W hW => jQ aQ O ((Kp.h hW)).get.2 O) (iY 5 O FB (fun W hW => dF aP O bF O O ((Kp.h hW).f13).get.2) (lU 6 O (lK abr aQ bF bV O O O (by decide) (by decide)) ?_)))))))
   rintro l21 Xx tK
   have Gs := V.kp (tK.f16.f16.f16.f16.f16.f16.f16.f16.f16.f16.f16.f16.f16.f16.f16.f16)
   refine dV Gs (fun W hW => (Kp.h hW).right.f15.f15.f15.f15.f15.f15.f15.f15.f15.f15.f15.f15.f15.f15.f15) ?_
   refine lU 7 O (dQ (tK.gV none) aQ wo O O O ((tK).aG) (aH (aW (by first | rfl | exact Rd.one ((tK.f15).aG)) (aW (by first | rfl | exact Rd.one ((tK.f16).aG)) bG))) (by omega) (by omega)) ?_
   rintro l22 w22 FN
   have ZA := FN.f2.right
   have CG := V.kp (ZA.f16.f16.f16.f16.f16.f16.f16.f16.f16.f16.f16.f16.f16.f16.f16.f16)
   refine fG CG (by kernel_rfl) ?_
   refine jL 8 O CG O (fH 9 O CG 39 aI O bn O ?_)
   refine gJ 10 O (by kernel_rfl) (dX 39 (l' := [_, _, _, _, _, _, _, _, _, _, _, _, _, _, _, _, _, _, _, _, _, _, _, _, _, _, _, _, _, _, _, _, _, _, _, _, _, _, _, _, _, _]) ZA.f2 bn O O (by first | rfl | exact Rd.one ((ZA).aG)) O O) ?_
   rintro _ w24 JD
   have Dz := V.kp (JD.f16.f16.f16.f16.f16.f16.f16.f16.f16.f16.f16.f16.f16.f16.f16.f16)
   refine fG Dz (by kernel_rfl) ?_
   refine qN (kG (.inr O) results83 ?_)
   have X := (JD.f11.right.f11.right.f12.right.f11.f11.f7.f7.f7.f11.f11.f11.f11.f10.f11.f13.f13).iZ.swap.iZ.swap
   have X2 := V.uo (es := []) X.Dk.f3.f3.f4
   rw [uT (x := (a, dl, il)) hlen htot]
   exact V.JZ (s := { s.lG [] with put := [(a, dl, il)], c := { (s.lG []).c with run := false } }) (uT (x := (a, dl, il)) hlen htot ▸ jG.full hin (x := (a, dl, il)) O hlen (hok hlen) htot (by rw [Qb, jG.CS]; rfl) (Fq jG.placed ⟨jG.ok.1.1, jG.ok.1.2.1⟩)) X2
  ·(try simp only [aK] at h4)
   have htot : ¬ 16384 ≤ fQ s.here s.put := by have h9 := h4; omega
   obtain ⟨MB, zk, zn, zo, zq, BR, BU, Ny, BX, BZ, Bl, Bo, Bq, zu, zx, zy, zA, zB, zC, zD, zF, zG, zH, zI, zJ, jG, qW, lI⟩ := (wE).Bj
   have hsp := mG s.here s.put
   refine gX ?_
   have abt := lI.drew
   have FC := V.kp (abt.f15.f15.f15.f15.f15.f15.f15.f15.f15.f15.f15.f15.f15.f15.f15)
   refine wL [4, 5] FC O (gK 0 O FC O (gK 1 O FC O (jL 2 O FC O (fH 3 O FC 39 aI O bn O (iY 4 O FC (fun W hW => jQ aQ O ((Kp.h hW)).get.2 O) (iY 5 O FC (fun W hW => dF aP O bF O O ((Kp.h hW).f13).get.2) (lU 6 O (lK abt aQ bF bV O O O (by decide) (by decide)) ?_)))))))
   rintro l26 w26 EW
   have Sl := V.kp (EW.f16.f16.f16.f16.f16.f16.f16.f16.f16.f16.f16.f16.f16.f16.f16.f16)
   refine dV Sl (fun W hW => (Kp.h hW).right.f15.f15.f15.f15.f15.f15.f15.f15.f15.f15.f15.f15.f15.f15.f15) ?_
   refine lU 7 O (dQ EW.f11 aQ wo O O O ((EW).aG) (aH (aW (by first | rfl | exact Rd.one ((EW.f15).aG)) (aW (by first | rfl | exact Rd.one ((EW.f16).aG)) bG))) (by omega) (by omega)) ?_
   rintro l27 w27 FP
   have acC := FP.f2.right
   have IY := V.kp (acC.f15.f15.f15.f15.f15.f15.f15.f15.f15.f15.f15.f15.f15.f15.f15)
   refine fG IY (by kernel_rfl) ?_
   refine jL 8 O IY O (fH 9 O IY 39 aI O bn O ?_)
   refine gJ 10 O (by kernel_rfl) (dX 39 (l' := [_, _, _, _, _, _, _, _, _, _, _, _, _, _, _, _, _, _, _, _, _, _, _, _, _, _, _, _, _, _, _, _, _, _, _, _, _, _, _, _, _, _]) acC.f2 bn O O (by first | rfl | exact Rd.one ((acC).aG)) O O) ?_
   rintro _ w29 Ji
   have Sm := V.kp (Ji.f15.f15.f15.f15.f15.f15.f15.f15.f15.f15.f15.f15.f15.f15.f15)
   refine fG Sm (by kernel_rfl) ?_
   refine qN (kG (.inr O) results83 ?_)
   have X := (Ji.f13.right.f12.f11.f11.f11.f11.f11.f11.f11.f11.f10.f12.f12.f14.f14).iZ.swap.iZ.swap
   rw [← qW] at X
   have X2 := V.uo X.f3
   rw [uS (x := (a, dl, il)) hlen htot]
   exact V.JZ (s := { s with put := s.put ++ [(a, dl, il)] }) (uS (x := (a, dl, il)) hlen htot ▸ jG.more hin (x := (a, dl, il)) O hlen (hok hlen) htot) X2
theorem xX (H : V w0 w (iT y s • F)) (hr : jY w0 F .i32 v l) (hlb : l.length ≤ 140737488355328) : iQ prog 35 #[.pointer (some ⟨y, 0, none⟩), .int .i64 j, .int .i64 k, v] w fun v' w' => v' = .int .i64 (s.og j k l) ∧ V w0 w' (iT y (s.iR j k l) • F) := by
 refine Hg func35 ntmps35 ?_
 refine kW O (aO (aO ?_))
 obtain ⟨MB, zk, zn, zo, zq, BR, BU, Ny, BX, BZ, Bl, Bo, Bq, zu, zx, zy, zA, zB, zC, zD, zF, zG, zH, zI, zJ, jG, qW, lI⟩ := (H).Bj
 refine aB (lM O O (Z 32 aI O aN O (dL bf O (lI).get.2 O (aZ (kY O) (kE O (fun h1 => ?_) (fun h1 => ?_))))))
 ·(try simp only [aK] at h1)
  have hin : s.inn = false := by simpa using h1
  refine nM O (aV (gy results35 O ?_))
  have Q9 := lI.f12.f12.f12.f12.f12.f12.f12.f12.f12.f12.f12.f12
  have Oi := V.lu (s := s) jG Q9
  exact ⟨by simp [bP.og, bP.iR, hin], by rw [show s.iR j k l = s from by simp [bP.og, bP.iR, hin]]; exact Oi⟩
 ·(try simp only [aK] at h1)
  have hin : s.inn = true := by simpa using h1
  refine gX (aO ?_)
  have hL : s.c.L.length ≤ 1024 := by obtain ⟨a, c, h4, _⟩ := (lI.f2).ref; exact h4
  have hE : s.og j k l = kQ s.c.L j k l := by unfold bP.og; rw [if_pos hin]
  have hS : s.iR j k l = (s.nI (lZ s.c.L j k l) (rG s.c.L s.c.pt j k l) (tN s.c.L s.c.mark j k l)).oH (rH s.c.L j k l, ng s.c.L j k l, ni s.c.L j k l) := by unfold bP.iR; rw [if_pos hin]
  have hok := VD (i := j) (j := k) (l := l) hL
  have hno := yT (L := s.c.L) (i := j) (j := k) (l := l)
  refine aB (lM O O (Z 1 aI O dB O (Z 0 bH O mO O (dL kF O (lI).get.2 O (jw O O (dn O (fO O func82 (Jz lI.f2 (fun W HW => hr _ (HW.right.right.right.right.right.right.right.right.right.right.right)) (by (try simp only [List.length_nil]); omega)) ?_)))))))
  rintro _ w5 ⟨d5, s5, rfl, H5⟩
  refine dn O (xZ O O (xZ O O (jW (gq (l := [_, _, _]) H5 bV O) ?_)))
  rintro _ w6 ⟨b6, rfl, H6⟩
  refine aC (dD 0 (l' := [_, _, _]) (us := [_, _, _]) H6 bF O O O (aH (aW (by first | rfl | exact Rd.one ((H6.f2).aG)) (aW (by first | rfl | exact Rd.one ((H6.f3).aG)) bG))) O O) ?_
  rintro _ w7 H7
  obtain ⟨S', hS'⟩ : ∃ S', S' = s.nI (lZ s.c.L j k l) (rG s.c.L s.c.pt j k l) (tN s.c.L s.c.mark j k l) := ⟨_, rfl⟩
  have hin' : S'.inn = true := by rw [hS']; exact hin
  have YD := H7.f15.f15.f15.f15.f15.f15.f15.f15.f15.f15.f14.f15
  have TF := V.lu (s := S') (by rw [hS']; exact jG.nI _ _ _) (by rw [hS']; exact YD)
  refine uK O (bY O (aZ (je O O) (kE O (fun h2 => ?_) (fun h2 => ?_))))
  ·(try simp only [aK] at h2)
   have h0 := h2
   refine aB (dn O (aZ (dF aP O bF O O (TF.f2).get.2) (fO O func83 (Qe TF.f4.f4 (by assumption) (by assumption)) ?_)))
   rintro _ w10 rD
   refine pG O (jP O (gy results35 O ?_))
   exact ⟨by rw [hE]; rfl, by rw [hS, ← hS']; exact rD.f2.right⟩
  ·(try simp only [aK] at h2)
   have h0 := h2
   refine gX (bY O (jP O (gy results35 O ?_)))
   exact ⟨by rw [hE]; rfl, by rw [hS, ← hS', A8 (x := (rH s.c.L j k l, ng s.c.L j k l, ni s.c.L j k l)) (by rw [(hno h0).1, (hno h0).2]; rfl)]; exact TF.f2.right.f2.right.f2.right⟩
end
section
variable {w0 w : World} {F : HP} {p y h : Nat} {s : bP} {l : List Int} {v : Value} {j k : Int}
theorem MG (H : V w0 w (iT y s • F)) (hr : jY w0 F .i32 v l) (hlb : l.length ≤ 140737488355328) : iQ prog 10 #[.pointer (some ⟨y, 0, none⟩), v] w fun v' w' => v' = .int .i64 (s.Wu l) ∧ V w0 w' (iT y (s.Am l) • F) := by
 refine qQ func10 ntmps10 ?_
 refine kW O (aO ?_)
 obtain ⟨MB, zk, zn, zo, zq, BR, BU, Ny, BX, BZ, Bl, Bo, Bq, zu, zx, zy, zA, zB, zC, zD, zF, zG, zH, zI, zJ, jG, qW, lI⟩ := (H).Bj
 obtain ⟨Qg, Qh, tJ, uG, uH, Qi, Qj, kP⟩ := (lI.f2).ref
 have KE := kP.drew
 have kR := V.kp (KE.f13.f13.f13.f13.f13.f13.f13.f13.f13.f13.f13.f13.f13)
 refine wL [5, 8, 13, 16] kR O (gK 0 O kR O (gK 1 O kR O (jL 2 O kR O (fH 3 O kR 1 aI O dB O (fH 4 O kR 0 bH O mO O (iY 5 O kR (fun W hW => jQ kF O ((Kp.h hW).f3).get.2 O) (jL 6 O kR O (fH 7 O kR 1 bD O ah O (iY 8 O kR (fun W hW => jQ ay O ((Kp.h hW)).get.2 O) (gK 9 O kR O (jL 10 O kR O (fH 11 O kR 1 aI O dB O (fH 12 O kR 0 bH O mO O (iY 13 O kR (fun W hW => jQ kF O ((Kp.h hW).f3).get.2 O) (jL 14 O kR O (fH 15 O kR 1 bD O ah O (iY 16 O kR (fun W hW => jQ ay O ((Kp.h hW)).get.2 O) ?_)))))))))))))))))
 have Nj := KE.f2.f2
 have JJ := V.oC tJ uG uH Nj
 have PG := JJ.f12.f12.f12.f12.f12.f12.f12.f12.f12.f12.f11.f12
 have PI := V.lu (s := s) jG PG
 refine gK 17 O kR O (lU 18 O (xB O func35 (xX PI (fun W HW => hr _ (HW)) (by (try simp only [List.length_nil]); omega))) ?_)
 rintro _ w9 ⟨rfl, H9⟩
 have Em := V.kp (H9)
 refine fG Em (by kernel_rfl) ?_
 refine jR 19 O Em (fun _ => iV O) (qN (bC (oP (gy results10 O ?_))))
 exact ⟨O, H9⟩
theorem MH (s : bP) (l : List Int) : s.mW l = if s.zh l = 0 ∧ s.cls = 0 then { s.iR s.c.pt (s.kD l) l with cls := 3 } else s.iR s.c.pt (s.kD l) l := by
  unfold bP.mW
  by_cases hin : s.inn = true
  · rw [if_pos hin]
  · rw [if_neg hin]
    have h1 : s.zh l = 1 := by unfold bP.zh bP.og; rw [if_neg hin]
    have h2 : s.iR s.c.pt (s.kD l) l = s := by unfold bP.iR; rw [if_neg hin]
    rw [if_neg (by rw [h1]; intro h; exact absurd h.1 (by decide)), h2]
theorem UR (s : bP) (x : iO) : (s.oH x).cls = s.cls := by unfold bP.oH; split; rfl; split <;> rfl
theorem UU (s : bP) (i j : Int) (l : List Int) : (s.iR i j l).cls = s.cls := by unfold bP.iR; split; rw [UR]; rfl; rfl
theorem gB.cls {es : List fB} {A : List LE} {yf yt : Int} (h : gB s es A yf yt) (c : Int) (hc : c ≠ 2) : gB { s with cls := c } es A yf yt :=
  ⟨h.ok, ⟨h.rx.1, h.rx.2.1, fun _ h2 => absurd h2 hc⟩, h.says, h.CS, h.placed, h.Ju⟩
theorem Qk (H : V w0 w (iT y s • F)) (hr : jY w0 F .i32 v l) (hlb : l.length ≤ 140737488355328) : iQ prog 16 #[.pointer (some ⟨y, 0, none⟩), v] w fun v' w' => v' = .int .i64 (s.zh l) ∧ V w0 w' (iT y (s.mW l) • F) := by
 refine qQ func16 ntmps16 ?_
 obtain ⟨MB, zk, zn, zo, zq, BR, BU, Ny, BX, BZ, Bl, Bo, Bq, zu, zx, zy, zA, zB, zC, zD, zF, zG, zH, zI, zJ, jG, qW, lI⟩ := (H).Bj
 obtain ⟨Qg, Qh, tJ, uG, uH, Qi, Qj, kP⟩ := (lI.f2).ref
 refine kW O (bY O (dA O (Z 1 aI O dB O (Z 0 bH O mO O (dL kF O (kP.f3).get.2 O (dA O (Z 1 bD O ah O (dL ay O (kP).get.2 O (jZ O ?_)))))))))
 refine vP [(0, _), (1, _)] (fun (_ : Unit) => [(5, .int .i64 (s.kD l))]) (fun (_ : Unit) W => W = w) uj ?_ ?_
 ·rintro _ w3 rfl
  dsimp only [List.cons_append, List.nil_append]
  refine bY O (lM O O (Z 1 aI O dB O (Z 0 bH O mO O (dL kF O (kP.f3).get.2 O (dA O (Z 1 bD O ah O (dL ay O (kP).get.2 O ?_)))))))
  have X0 := kP.f2.f2
  have X3 := V.oC tJ uG uH X0
  have YD := X3.f12.f12.f12.f12.f12.f12.f12.f12.f12.f12.f11.f12
  have TF := V.lu (s := s) jG YD
  refine jw O O (fO O func35 (xX TF (fun W HW => hr _ (HW)) (by (try simp only [List.length_nil]); omega)) ?_)
  rintro _ w10 ⟨rfl, rD⟩
  have hc0 := UU s s.c.pt (s.kD l) l
  have hE : s.zh l = s.og s.c.pt (s.kD l) l := rfl
  obtain ⟨t, ht⟩ : ∃ t, t = s.iR s.c.pt (s.kD l) l := ⟨_, rfl⟩
  have HT := rD
  rw [← ht] at HT hc0
  obtain ⟨MB, zk, zn, zo, zq, BR, BU, Ny, BX, BZ, Bl, Bo, Bq, zu, zx, zy, zA, zB, zC, zD, zF, zG, zH, zI, zJ, jG, qW, lI⟩ := (HT).Bj
  refine uK O (bY O (aZ (je O O) (qG O (fun h1 => ?_) (fun h1 => ?_))))
  ·(try simp only [aK] at h1)
   refine bK (dn O (bK (dA O (bK (Z 33 aI O ah O (bK (dL ay O (lI).get.2 O (bK (aZ (je O O) (nX O O (kE O (fun h2 => ?_) (fun h2 => ?_))))))))))))
   ·(try simp only [aK] at h2)
    have hyes : s.zh l = 0 ∧ s.cls = 0 := ⟨by rw [hE]; assumption, by rw [← hc0]; assumption⟩
    refine aB (lM O O (Z 33 aI O ah O (aC (mY 33 lI ah) ?_)))
    rintro _ w12 vN
    refine pG O (jP O (gy results16 O ?_))
    exact ⟨by rw [hE] <;> rfl, by rw [MH, if_pos hyes, ← ht]; exact V.lu (s := { t with cls := 3 }) (jG.cls 3 (by decide)) vN.f12.f12.f12.f12.f12.f12.f12.f12.f12.f12.f12.f12⟩
   ·(try simp only [aK] at h2)
    refine gX (bY O (jP O (gy results16 O ?_)))
    have PU := lI.f12.f12.f12.f12.f12.f12.f12.f12.f12.f12.f12.f12
    have PV := V.lu (s := t) jG PU
    exact ⟨by rw [hE] <;> rfl, by rw [MH, if_neg (by rw [hE]; intro h; simp_all), ← ht]; exact PV⟩
  ·(try simp only [aK] at h1)
   refine cZ (cZ (cZ (cZ (cZ (lH O O (iF (vX (gX (bY O (jP O (gy results16 O ?_)))))))))))
   have Ut := lI.f12.f12.f12.f12.f12.f12.f12.f12.f12.f12.f12.f12
   have Yk := V.lu (s := t) jG Ut
   exact ⟨by rw [hE] <;> rfl, by rw [MH, if_neg (by rw [hE]; intro h; simp_all), ← ht]; exact Yk⟩
 ·skip
  refine bY O (dA O (Z 1 aI O dB O (Z 9 bH O aN O (dL bf O (kP.f3).get.2 O (kE O (fun h3 => ?_) (fun h3 => ?_))))))
  ·(try simp only [aK] at h3)
   refine aB (lM O O (Z 1 aI O dB O (Z 0 bH O mO O (dL kF O (kP.f3).get.2 O (dA O (Z 0 bD O bg O (dL aA O (kP).get.2 O (aZ (pW ((kP.f2).aG) aA O) (jw O O (aZ (pW (hr _ (kP.right.right.right.right.right.right.right.right.right.right.right.right.right)) aA O) (aZ (fZ O O (by omega)) (aZ (QB O O) (oD O (cO ?_))))))))))))))
   refine gZ (()) ?_ ?_ ?_
   ·exact (Sub.qF O (by unfold bP.kD; first | (rw [if_pos (by assumption), Int.min_comm] <;> rfl) | (rw [if_neg (by simp_all)] <;> rfl)) (Sub.nil _))
   ·exact uj
   ·(try dsimp only)
    first | done | exact rfl
  ·(try simp only [aK] at h3)
   refine fV ?_
   refine gZ (()) ?_ ?_ ?_
   ·exact (Sub.qF O (by unfold bP.kD; first | (rw [if_pos (by assumption), Int.min_comm] <;> rfl) | (rw [if_neg (by simp_all)] <;> rfl)) (Sub.nil _))
   ·exact uj
   ·(try dsimp only)
    first | done | exact rfl
end
theorem Ej.one {I : Hp} {sz n : Nat} {v : Value} {xs : List Value} (h : Ej I sz v n xs) : v.oneCell' = true := by obtain ⟨_, a, c, rfl, _⟩ := h; rfl
section
variable {w0 w : World} {F : HP} {p y h : Nat} {s : bP} {u v lv : Value} {es les : List fB} {gs : List (Value × List fB)} {on : Bool}
theorem V.ZB (H : V w0 w (qL gs • F)) : ∀ x ∈ gs.map (·.1), x.oneCell' = true := by
  obtain ⟨I, h, hI⟩ := H.sV
  intro x hx
  obtain ⟨g, hg, rfl⟩ := List.mem_map.1 hx
  obtain ⟨k, hk, rfl⟩ := List.getElem_of_mem hg
  have := h k hk
  rw [List.getD_eq_getElem?_getD, List.getElem?_eq_getElem hk] at this
  exact this.1.one
theorem V.aaO (H : V w0 w (Ey v es • F)) : V w0 w (nP es • Ey v es • F) := H.uf.CV (oM (fun I h => h.2) _)
theorem ZC {α : Type _} (l : List α) (u : α) (h : l ≠ []) : l.set (l.length - 1) u = l.dropLast ++ [u] := by
  have e := List.dropLast_concat_getLast h
  have hl : l.dropLast.length = l.length - 1 := List.length_dropLast
  conv => lhs; rw [← e]
  rw [List.set_append_right _ _ (by simp)]
  simp
theorem V.Xk (hg : gs ≠ []) (H : V w0 w (Row 69 1 v gs.length ((gs.map (·.1)).set (gs.length - 1) u) • Ey u es • qL gs • F)) : V w0 w (glK v (gs.dropLast ++ [(u, es)]) • F) := by
  have h0 : 0 < gs.length := List.length_pos_iff.2 hg
  have H1 := (H.f3).QX (gs.length - 1)
  rw [← List.dropLast_eq_take] at H1
  have hm : (gs.map (·.1)).set (gs.length - 1) u = gs.dropLast.map (·.1) ++ [u] := by
    have := ZC (gs.map (·.1)) u (by simpa using hg)
    rw [List.length_map] at this
    rw [this, List.map_dropLast]
  have hl : gs.length = gs.dropLast.length + 1 := by rw [List.length_dropLast]; omega
  rw [hm, hl] at H1
  exact (V.uN (H1.f2.f3.f2)).DK
theorem OV (gs : List (Value × List fB)) (x : Value × List fB) : Aw (gs ++ [x]) = Aw gs ++ [x.2.map fB.says] := by unfold Aw; rw [List.map_append]; rfl
theorem Td (hG : Aw gs = s.here) (hne : gs ≠ []) (hl : gs.getD (gs.length - 1) default = (lv, les)) (hes : es.map fB.says = s.put) (hp : s.put ≠ []) : Aw (gs.dropLast ++ [(u, les ++ es)]) = s.iw true := by
  have h0 : s.here ≠ [] := by rw [← hG]; unfold Aw; simpa using hne
  have h1 : s.here.getLast h0 = les.map fB.says := by
    have e : s.here.getLast? = some (les.map fB.says) := by
      rw [← hG]; unfold Aw
      rw [List.getLast?_map, List.getLast?_eq_getElem?]
      rw [List.getD_eq_getElem?_getD, List.getElem?_eq_getElem (by have := List.length_pos_iff.2 hne; omega)] at hl
      rw [List.getElem?_eq_getElem (by have := List.length_pos_iff.2 hne; omega)]
      simp only [Option.getD_some] at hl
      rw [hl]; rfl
    rw [List.getLast?_eq_some_getLast h0] at e
    exact Option.some.inj e
  unfold bP.iw
  rw [if_neg hp, if_pos rfl, List.getLast?_eq_some_getLast h0, OV]
  have h2 : Aw gs.dropLast = s.here.dropLast := by rw [← hG]; unfold Aw; rw [List.map_dropLast]
  rw [h1, h2]
  show _ ++ [(les ++ es).map fB.says] = _
  rw [List.map_append, hes]
theorem MI (hG : Aw gs = s.here) (hes : es.map fB.says = s.put) (hp : s.put ≠ []) (h : ¬ (on = true ∧ 0 < gs.length)) : Aw (gs ++ [(u, es)]) = s.iw on := by
  unfold bP.iw
  rw [if_neg hp, OV, hG]
  show s.here ++ [es.map fB.says] = _
  rw [hes]
  cases on with
  | false => rw [if_neg (by decide)]
  | true =>
    have h0 : s.here = [] := by
      have : gs = [] := List.eq_nil_of_length_eq_zero (by by_cases hx : 0 < gs.length; exact absurd ⟨rfl, hx⟩ h; omega)
      rw [← hG, this]; rfl
    rw [if_pos rfl, h0]; rfl
theorem Cb {x0 x1 x2 x3 x4 x6 x9 x10 x11 x12 tZ x14 x15 x16 x17 x18 x19 x20 x21 uD x23 x24 x25 uI x27 x28 x29 x30 x31 x32 vM x34 Ec Ed Ee x38 x40 x41 : Value} {pv gv nw : Value} {A : List LE} (hA : CS A = s.c.un) (hP : wC s.hl A) (hS : es.map fB.says = s.put) (hok : o8 s) (hx : Gx s.c) (hhl : s.hl.length ≤ 4096)
  (H : V w0 w (eF y (.cells (x0 :: x1 :: x2 :: x3 :: x4 :: .int .i64 s.c.place :: x6 :: pv :: gv :: x9 :: x10 :: x11 :: x12 :: tZ :: x14 :: x15 :: x16 :: x17 :: x18 :: x19 :: x20 :: x21 :: uD :: x23 :: x24 :: x25 :: uI :: x27 :: x28 :: x29 :: x30 :: x31 :: x32 :: vM :: x34 :: Ec :: Ed :: Ee :: x38 :: nw :: x40 :: x41 :: []).toArray 85 (0, 0)) • qK .i64 pv (A.map (·.1)) • tY 1 gv A.length (A.map (·.2.1)) • rW A • Row 130 3 nw es.length (es.flatMap fB.enc) • nP es • F)) :
  iQ prog 44 #[.pointer (some ⟨y, 0, none⟩), .bool on] w fun _ w' => ∃ pv' gv' A' nw', CS A' = (s.dJ on).c.un ∧ wC s.hl A' ∧
   V w0 w' (eF y (.cells (x0 :: x1 :: x2 :: x3 :: x4 :: .int .i64 s.c.place :: x6 :: pv' :: gv' :: x9 :: x10 :: x11 :: x12 :: tZ :: x14 :: x15 :: x16 :: x17 :: x18 :: x19 :: x20 :: x21 :: uD :: x23 :: x24 :: x25 :: uI :: x27 :: x28 :: x29 :: x30 :: x31 :: x32 :: vM :: x34 :: Ec :: Ed :: Ee :: x38 :: nw' :: x40 :: x41 :: []).toArray 85 (0, 0)) • qK .i64 pv' (A'.map (·.1)) • tY 1 gv' A'.length (A'.map (·.2.1)) • rW A' • Row 130 3 nw' 0 [] • nP [] • F) := by
 have ad5 := OT hx
 have hput := hok.2.2.2.2.1
 have hsp := mG s.here s.put
 have hpl := Fp hP (by omega)
 have hlp : es.length = s.put.length := by rw [← hS]; simp
 refine qQ func44 ntmps44 ?_
 refine aO (bY O (dA O (Z 39 aI O bn O (dL aQ O (H).get.2 O (aZ (fA ((H.f5).aG) aQ O) (aZ (je O O) (kE O (fun h1 => ?_) (fun h1 => ?_))))))))
 ·(try simp only [aK] at h1)
  have he : es = [] := List.eq_nil_of_length_eq_zero (by omega)
  have hp : s.put = [] := List.eq_nil_of_length_eq_zero (by omega)
  refine oP (aV (we0 results44 ?_))
  subst he
  exact ⟨pv, gv, A, nw, by rw [BN hp]; exact hA, hP, H.f6.f6.f6.f6.f6.f6⟩
 ·(try simp only [aK] at h1)
  have hp : s.put ≠ [] := fun hx => h1 (by rw [hlp, hx]; rfl)
  refine gX (bY O (dA O (Z 1 aI O dB O (Z 2 bH O mP O (Z 2 dH O ah O (dL ay O (H).get.2 O (jZ O (bY O (dA O (Z 1 aI O dB O (Z 6 bH O sizeOf81 O (dn O (fO O func95 (Fv H.f4.f4.f4.f4) ?_)))))))))))))
  rintro u1 w1 ⟨gs1, afE, H1⟩
  obtain ⟨gu, rfl⟩ : ∃ q, q = u1 := ⟨_, rfl⟩
  obtain ⟨gs, rfl⟩ : ∃ q, q = gs1 := ⟨_, rfl⟩
  have hG : Aw gs = s.here := by rw [afE, hA]; rfl
  have hgl : gs.length = s.here.length := by rw [← hG]; exact (List.length_map _).symm
  have Ho2 := H1.f2.f2
  have Hc3 := Ho2
  have hone := (Hc3.f2).ZB
  refine jZ O (kW O (bY O (dn O (jW (dQ (Hc3.gV none) bJ IJ O O O ((Hc3).nO) (by assumption) (by omega) (by omega)) ?_))))
  rintro l4 w4 H4
  have ZV := H4
  rw [Nat.zero_add, List.nil_append] at ZV
  refine jZ O ?_
  refine vP [(0, _), (4, _)] (fun (ou : Value) => [(6, ou)]) (fun (ou : Value) W => ∃ gs, Aw gs = s.iw on ∧ V w0 W (tY 1 ou gs.length (gs.map (·.1)) • qL gs • eF y (.cells (x0 :: x1 :: x2 :: x3 :: x4 :: .int .i64 s.c.place :: x6 :: pv :: gv :: x9 :: x10 :: x11 :: x12 :: tZ :: x14 :: x15 :: x16 :: x17 :: x18 :: x19 :: x20 :: x21 :: uD :: x23 :: x24 :: x25 :: uI :: x27 :: x28 :: x29 :: x30 :: x31 :: x32 :: vM :: x34 :: Ec :: Ed :: Ee :: x38 :: nw :: x40 :: x41 :: []).toArray 85 (0, 0)) • qK .i64 pv (A.map (·.1)) • tY 1 gv A.length (A.map (·.2.1)) • rW A • F)) uj ?_ ?_
  ·rintro ou w5 ⟨gs, hG, HJ⟩
   dsimp only [List.cons_append, List.nil_append]
   refine bY O (dA O (Z 1 aI O dB O (Z 6 bH O sizeOf81 O (jw O O (fO O func96 (I7 HJ.f2.f2.f6.f6.f6.f6 (by assumption)) ?_)))))
   rintro _ w6 ⟨pv6, gv6, H6⟩
   refine iF (aB (lM O O (Z 39 aI O bn O (aC (mY 39 H6 bn) ?_))))
   rintro _ w7 H7
   refine cO (kG (.inr O) results44 ?_)
   have HQ := (H7.f4.f4.f4.f4).uF none |>.edL
   refine ⟨_, _, _, _, ?_, Fq hP ⟨hok.1.1, hok.1.2.1⟩, HQ.f6.f6.f6.f6⟩
   rw [oh hp, Qb, hA, hG]; rfl
  ·skip
   refine bY O (qG O (fun h2 => ?_) (fun h2 => ?_))
   ·(try simp only [aK] at h2)
    refine bK (dn O (bK (aZ (fA ((ZV).aG) bJ O) (bK (aZ (gG O O) (nX O O (kE O (fun h3 => ?_) (fun h3 => ?_))))))))
    ·(try simp only [aK] at h3)
     refine aO ?_
     have afF : on = true := by first | assumption | (simp_all; done)
     have hne : gs ≠ [] := fun hx => by subst hx; simp at *
     refine aB (jZ O (bY O (jw O O (aZ (fA ((ZV).aG) bJ O) (aZ (lJ O O (by omega)) ?_)))))
     obtain ⟨bl4, ol4, cl4, el4⟩ := Rd.qP ((ZV).aG) (by omega)
     cases el4
     refine aZ (eG bJ bn O O (by omega)) ?_
     refine aZ (jk (eH aQ O) O (by first | exact Rd.wG ((ZV).aG) (by omega) | exact Rd.Hf ((ZV).aG) (by omega) | exact Rd.GX ((ZV).aG) (by omega))) ?_
     rw [show (gs.map (·.1)).getD (((gs.length : Nat) : Int) - 1).toNat undef = (gs.getD (gs.length - 1) default).1 from by have := List.length_pos_iff.2 hne; rw [show (((gs.length : Nat) : Int) - 1).toNat = gs.length - 1 from by omega]; simp [List.getD_eq_getElem?_getD, show gs.length - 1 < gs.length from by omega]]
     obtain ⟨gl, xQ, hg⟩ : ∃ gl xQ, gs.getD (gs.length - 1) default = (gl, xQ) := ⟨_, _, rfl⟩
     rw [hg]
     have YD := ZV.f3
     have TF := YD.F6 (by have := List.length_pos_iff.2 hne; omega) hg
     have agw := (TF).Ye
     have hgm : xQ.map fB.says ∈ s.here := by rw [← hG]; exact List.mem_map.2 ⟨(gl, xQ), by rw [← hg]; exact wS (by have := List.length_pos_iff.2 hne; omega), rfl⟩
     have hgb := JM hgm
     rw [List.length_map] at hgb
     have ahF : xQ.length ≤ 16384 := by unfold fQ at hput; omega
     refine jW (dQ (TF.gV none) aQ wo O O O ((TF).wU) (by assumption) (by omega) (by omega)) ?_
     rintro l10 w10 rD
     have HX7 := rD
     rw [Nat.zero_add, List.nil_append] at HX7
     refine jZ O ?_
     have agx := (HX7.f11).FX
     refine aB (jw O O (aZ (iW bJ O) (aZ (lJ O O (by omega)) (jw O O (dA O (Z 39 aI O bn O (dL aQ O (HX7.f6).get.2 O (jW (dQ HX7 aQ wo O O O ((HX7.f10).aG) (by assumption) (by omega) (by omega)) ?_))))))))
     rintro l11 Hr rX
     refine aZ (eG bJ bn O O (by omega)) (aC (Pe 0 rX.f4 bn O O (by first | rfl | exact Rd.one ((rX).aG)) (by omega) (by decide)) ?_)
     rintro _ w12 vN
     have YA := vN.f3
     have YB := (YA.aaO).f2.right
     have acs := YB.f11.f2.f4
     have acu := V.sK (es := xQ ++ es) (V.deep (V.JV rfl acs))
     have Ut := acu.f2
     have HX8 := Ut
     rw [show (((gs.length : Nat) : Int) - 1).toNat * 1 + 0 = gs.length - 1 from by omega] at HX8
     have afG := HX8.f3.f3.f3
     have afH := (V.Xk hne afG).SS
     have hGJ := Td (s := s) (u := l11) hG hne hg hS hp
     rw [← afF] at hGJ
     refine cO ?_
     refine gZ (_) pY uj (by (try dsimp only); exact ⟨_, hGJ, afH.f3.right.f7.right.f6.f6.f6.f6.f6.f6⟩)
    ·(try simp only [aK] at h3)
     have abV := ZV.f9.f9
     have Yq := V.sK (v := nw) (es := es) (V.deep abV)
     have hnj : ¬ (on = true ∧ 0 < gs.length) := by first | omega | simp_all | (intro hx; simp_all; omega)
     refine aB (jw O O (dA O (Z 39 aI O bn O (dL aQ O (Yq.f5).get.2 O (jW (jc (vs := [_]) Yq bJ bn oV O O O (by decide) (aW (by first | rfl | exact Rd.one ((Yq).wU)) bG)) ?_)))))
     rintro l22 w22 FN
     refine jW (dQ FN.f3 bJ IJ O O O ((FN).aG) (aW (by first | rfl | exact Rd.one ((FN.f2).wU)) bG) (by omega) (by omega)) ?_
     rintro l23 ZR BA
     have afI := BA.f2.right
     have Zy := afI.f4.f3.f3
     have Zz := (V.uN Zy).DK.SS
     have hGJ := MI (s := s) (on := on) (u := nw) hG hS hp hnj
     refine oD O (cO ?_)
     refine gZ (_) pY uj (by (try dsimp only); exact ⟨_, hGJ, Zz.f3.right.f6.f6.f6.f6.f6.f6⟩)
   ·(try simp only [aK] at h2)
    refine cZ (cZ (cZ (lH O O (iF (vX ?_)))))
    have afJ := ZV.f9.f9
    have acD := V.sK (v := nw) (es := es) (V.deep afJ)
    have hnj : ¬ (on = true ∧ 0 < gs.length) := by first | omega | simp_all | (intro hx; simp_all; omega)
    refine aB (jw O O (dA O (Z 39 aI O bn O (dL aQ O (acD.f5).get.2 O (jW (jc (vs := [_]) acD bJ bn oV O O O (by decide) (aW (by first | rfl | exact Rd.one ((acD).wU)) bG)) ?_)))))
    rintro l29 w29 Ji
    refine jW (dQ Ji.f3 bJ IJ O O O ((Ji).aG) (aW (by first | rfl | exact Rd.one ((Ji.f2).wU)) bG) (by omega) (by omega)) ?_
    rintro l30 w30 JF
    have afK := JF.f2.right
    have afL := afK.f4.f3.f3
    have afM := (V.uN afL).DK.SS
    have hGJ := MI (s := s) (on := on) (u := nw) hG hS hp hnj
    refine oD O (cO ?_)
    refine gZ (_) pY uj (by (try dsimp only); exact ⟨_, hGJ, afM.f3.right.f6.f6.f6.f6.f6.f6⟩)
end
end Go.Proofs.YtnhhmieghbfalaaGreat
end
