import Derived.Test.YtgofgnlkpeghcaaGreatDoorZ4
import Derived.Test.YtgofgnlkpeghcaaGreatDoorZ19
set_option linter.unusedSimpArgs false
set_option linter.unusedVariables false
/- Texts of mine, joined, their names in short: REdR REdT REdF REdE. -/
section
namespace Go.Proofs.YtgofgnlkpeghcaaGreatDoor
open Go.RowKit
open _root_.Go.Proofs.Tryz
section
variable {w0 w : World} {F : HP} {p y h : Nat} {s : dw} {l dl il : List Int} {v d i : Value} {a x j k : Int}
theorem Jt (H : V w0 w (ku y s • F)) : iM prog 155 #[.pointer (some ⟨y, 0, none⟩)] w fun v w' => v = .int .i64 (iD s.here s.put : Nat) ∧ V w0 w' (ku y s • F) := by
 refine iQ func155 ntmps155 ?_
 obtain ⟨Js, yF, yG, yH, yI, AU, AV, Kv, AX, BR, AY, AZ, Ba, yJ, yK, yL, yM, yN, yO, yP, yQ, yR, yS, yT, yU, jO, qW, mF⟩ := (H).Ce
 have agm := Vo jO
 have htot := jO.ok.2.2.2.2.1
 unfold iD at htot
 rw [X0] at htot
 refine kQ O (bY O (dO O (bn 39 aJ O bG O (fB aV O (mF).get.2 O (aW (fV ((mF.f10).aN) aV O) (sS O ?_))))))
 have J5 := mF.drew
 have kH := V.kp (J5.f12.f12.f12.f12.f12.f12.f12.f12.f12.f12.f12.f12)
 refine uU [9] kH O (gQ 0 O kH O (jQ 1 O kH O (fQ 2 O kH 1 aJ O dH O (fQ 3 O kH 6 bI O sizeOf93 O (gQ 4 O kH O (jQ 5 O kH O (fQ 6 O kH 1 aJ O dH O (fQ 7 O kH 2 bI O lH O (fQ 8 O kH 2 dB O aj O (iO 9 O kH (fun W hW => jT aB O ((Kp.h hW)).get.2 O) (lU 10 O (wY O func87 (Ie J5.f8.f8.f8.f4)) ?_)))))))))))
 rintro u2 w2 ⟨gs2, ahU, H2⟩
 obtain ⟨gu, rfl⟩ : ∃ q, q = u2 := ⟨_, rfl⟩
 obtain ⟨gs, rfl⟩ : ∃ q, q = gs2 := ⟨_, rfl⟩
 have hG : Dp gs = s.here := by rw [ahU, jO.EN]; rfl
 have hgl : gs.length = s.here.length := by rw [← hG]; exact (List.length_map _).symm
 have PN := H2.f2.f2
 have LP := PN
 have uZ := V.kp (LP.f14.f14.f14.f14.f14.f14.f14.f14.f14.f14.f14.f14.f14.f14)
 refine fH uZ (by kernel_rfl) ?_
 refine iL 11 O uZ (fun _ => fU O) (qj (aZ (aO (kQ O (bg ?_)))))
 obtain ⟨agu, cgu, egu, -⟩ := ((LP).oD).form
 subst egu
 have RY := LP.f14.f14.f14.f14.f10.f10.f10.f14.f14.f14.f14.f14
 have PS := V.mV (s := s) jO RY
 refine gq [(4, _)] (fun (k : Nat) => [(3, .int .i64 ((s.put.length + (s.here.take k).flatten.length : Nat) : Int)), (5, .int .i64 (k : Int))]) (fun (k : Nat) W => k ≤ gs.length ∧ V w0 W (ku y s • uQ 1 (.slice agu gs.length cgu) gs.length (gs.map (·.1)) • rQ gs • F)) (fun (k : Nat) => gs.length - k) (0) oO (Sub.qP O (by simp) (Sub.qP O (O) (Sub.nil _))) ⟨by omega, PS.f3.f3.f3⟩ ?_
 rintro k w9 ⟨hk, HL⟩
 dsimp only [List.cons_append, List.nil_append]
 refine aO (bY O (bT O (aW (jS bP O) (aW (fG O O) (jv O (fun h1 => ?_) (fun h1 => ?_))))))
 ·(try simp only [aF] at h1)
  refine iy (aO (bg (aA (jy O O (bT O ?_)))))
  obtain ⟨bgu, ogu, rfl⟩ := Rd.pos ((HL.f2).oD) (by omega)
  refine aW (dD bP bG O O (by omega)) ?_
  refine aW (eG (dn aV O) O (by first | exact Rd.sO ((HL.f2).oD) (by omega) | exact Rd.EF ((HL.f2).oD) (by omega) | exact Rd.Ey ((HL.f2).oD) (by omega))) ?_
  have hkl : k < gs.length := by omega
  rw [show (gs.map (·.1)).getD k undef = (gs.getD k default).1 from by simp [List.getD_eq_getElem?_getD, hkl]]
  obtain ⟨gl, Ac, hg⟩ : ∃ gl Ac, gs.getD k default = (gl, Ac) := ⟨_, _, rfl⟩
  rw [hg]
  have Om := HL.f3
  have LU := Om.IY hkl hg
  have hge : s.here.getD k [] = Ac.map fJ.says := by
   rw [← hG]
   have h9 : (Dp gs).getD k [] = (gs.getD k default).2.map fJ.says := by unfold Dp; simp [List.getD_eq_getElem?_getD, hkl]
   rw [h9, hg]
  have hft := congrArg List.length (RZ (G := s.here) (k := k) (by omega))
  rw [List.length_append, hge, List.length_map] at hft
  have hfe := WG s.here (k + 1)
  refine aW (fV ((LU).y9) aV O) (aW (fP O O (by omega)) (iC O (bZ (aP (aZ (aA (bT O (aW (fP O O (by omega)) (iC O (bZ ?_))))))))))
  refine dN (k + 1) ?_ ?_ ?_ ?_
  ·exact (Sub.qP O (by rw [show s.put.length + (s.here.take (k + 1)).flatten.length = s.put.length + (s.here.take k).flatten.length + Ac.length from by omega, Int.natCast_add (s.put.length + (s.here.take k).flatten.length)]) oO)
  ·exact oO
  ·(try dsimp only)
   first | done | exact ⟨by omega, LU.right.f3.f3⟩
  ·(try dsimp only); omega
 ·(try simp only [aF] at h1)
  refine eH (aT (aT (bU (aZ (bY O (ig O (fD results155 O ?_)))))))
  rw [List.take_of_length_le (by omega)]
  exact ⟨by unfold iD; rw [X0]; congr 1; omega, HL.f2.right.f2.right⟩
theorem V.Nb {h pb pk : Nat} {wv nv pv gv : Value} {A : List LE} {nw : Value} {es : List fJ} {yf yt : Int} {ch : Bool} {u0 u1 u2 u3 u4 u5 u6 u7 u8 u9 ua ub : Value} (h1 : iw s es A yf yt) (H : V w0 w (MJ nw es • eF y (.cells (.pointer (some ⟨h, 0, none⟩) :: .pointer (some ⟨pb, 0, none⟩) :: .pointer (some ⟨pk, 0, none⟩) :: wv :: nv :: .int .i64 s.c.place :: .string (dR s.hl s.c.tx s.c.place) :: pv :: gv :: .int .i64 s.c.mode :: .bool s.c.over :: .int .i64 s.c.res :: .bool s.c.run :: u0 :: u1 :: u2 :: u3 :: u4 :: u5 :: u6 :: u7 :: u8 :: u9 :: ua :: ub :: .bool s.given :: .bool s.minus :: .int .i64 s.arg :: .int .i64 s.zV :: .int .i64 s.UA :: .int .i64 s.UC :: .int .i64 s.sK :: .bool s.inn :: .int .i64 s.cls :: .int .i64 yf :: .int .i64 yt :: .bool s.argues :: .bool s.nV :: .bool s.lY :: nw :: .bool s.whole :: .bool ch :: []).toArray 98 (0, 0)) • kJ pb s.c.L s.c.pt s.c.mark • mD pk s.c.E s.c.at_ • uQ 1 wv (s.hl.length + 1) (strs (nP s.hl)) • Row 9 1 nv (s.hl.length + 1) (strs (mW s.hl s.c.tx)) • nS .i64 pv (A.map (·.1)) • uQ 1 gv A.length (A.map (·.2.1)) • tq A • iW h s.hl s.base s.most • DV s.inn s.hl s.was [u0, u1, u2, u3, u4, u5, u6, u7, u8, u9, ua, ub] • F)) : V w0 w (ku y s • F) := by
  refine V.mV (y := y) (h := h) (pb := pb) (pk := pk) (wv := wv) (nv := nv) (pv := pv) (gv := gv) (ch := ch) (u0 := u0) (u1 := u1) (u2 := u2) (u3 := u3) (u4 := u4) (u5 := u5) (u6 := u6) (u7 := u7) (u8 := u8) (u9 := u9) (ua := ua) (ub := ub) (nw := nw) (es := es) h1 ?_
  have hl : s.put.length = es.length := by rw [← h1.says]; simp
  rw [hl]
  exact H.of_eq (by unfold MJ; ac_rfl)
theorem Td (H : V w0 w (jR 21 .i32 d dl • jR 21 .i32 i il • ku y s • F)) (hin : s.inn = true) (hok : 0 < dl.length + il.length → zX (a, dl, il)) :
  iM prog 126 #[.pointer (some ⟨y, 0, none⟩), .agg #[.int .i64 a, d, i]] w fun _ w' => V w0 w' (ku y (s.BM (a, dl, il)) • F) := by
 refine qI func126 ntmps126 ?_
 refine jw (iY (jo (l := [_, _, _]) H O O) ?_)
 rintro _ w1 ⟨b1, rfl, H1⟩
 refine rV (jw (bn 1 aU O bF O (fB ay O (H1).get.2 O (aW (jJ ((H1.f2).aN) ay O) (aW (kP O O) (mX O (fun h1 => ?_) (fun h1 => ?_)))))))
 ·(try simp only [aF] at h1)
  refine bW (bn 2 aU O bF O (bW (fB ay O (H1).get.2 O (bW (aW (jJ ((H1.f3).aN) ay O) (bW (aW (kP O O) (nZ O O (jv O (fun h2 => ?_) (fun h2 => ?_))))))))))
  ·(try simp only [aF] at h2)
   have hlen : dl.length + il.length = 0 := by omega
   refine mZ (aC (we0 results126 ?_))
   rw [DN (x := (a, dl, il)) hlen]
   exact H1.right.right.right
  ·(try simp only [aF] at h2)
   refine iy (aO (aO ?_))
   have hlen : 0 < dl.length + il.length := by omega
   refine aA (bT O (fE O func155 (Jt H1.f4) ?_))
   rintro _ w2 ⟨rfl, H2⟩
   refine aW (nM O O) (jv O (fun h3 => ?_) (fun h3 => ?_))
   ·(try simp only [aF] at h3)
    have htot : 16384 ≤ iD s.here s.put := by have h9 := h3; omega
    obtain ⟨Js, yF, yG, yH, yI, AU, AV, Kv, AX, BR, AY, AZ, Ba, yJ, yK, yL, yM, yN, yO, yP, yQ, yR, yS, yT, yU, jO, qW, mF⟩ := (H2).Ce
    have hpl := Ib jO.placed (by obtain ⟨hv9, hk9, _⟩ := (mF.f9).CV; have := hk9.1; have := hk9.2.2; omega)
    have hsp := nH s.here s.put
    refine aO ?_
    have agn := mF.drew
    have FH := V.kp (agn.f15.f15.f15.f15.f15.f15.f15.f15.f15.f15.f15.f15.f15.f15.f15)
    refine uU [9] FH O (gQ 0 O FH O (jQ 1 O FH O (fQ 2 O FH 1 aJ O dH O (fQ 3 O FH 6 bI O sizeOf93 O (gQ 4 O FH O (jQ 5 O FH O (fQ 6 O FH 1 aJ O dH O (fQ 7 O FH 2 bI O lH O (fQ 8 O FH 2 dB O aj O (iO 9 O FH (fun W hW => jT aB O ((Kp.h hW)).get.2 O) (lU 10 O (wY O func122 (Le agn.f8.f8.f8.f4 (by assumption))) ?_)))))))))))
    rintro _ w4 ⟨pv4, gv4, H4⟩
    have uZ := V.kp (H4.f15.f15.f15.f15.f15.f15.f15.f15.f15.f15.f15.f15.f15.f15.f15)
    refine fH uZ (by kernel_rfl) ?_
    refine qj (aZ (bY O (dO O (bn 39 aJ O bG O (aI (ni 39 H4 bG) ?_)))))
    rintro _ w5 H5
    refine jd (aA (mJ O O (bn 1 aJ O dH O (bn 11 bI O aQ O (aI (ni 12 H5 aQ) ?_)))))
    rintro _ w6 H6
    refine jd ?_
    have agp := H6.drew
    have O6 := V.kp (agp.f15.f15.f15.f15.f15.f15.f15.f15.f15.f15.f15.f15.f15.f15.f15)
    refine uU [4, 5] O6 O (gQ 0 O O6 O (gQ 1 O O6 O (jQ 2 O O6 O (fQ 3 O O6 39 aJ O bG O (iO 4 O O6 (fun W hW => jT aV O ((Kp.h hW)).get.2 O) (iO 5 O O6 (fun W hW => dI aU O bJ O O ((Kp.h hW).f13).get.2) (lU 6 O (og agp aV bJ cO O O O (by decide) (by decide)) ?_)))))))
    rintro l7 w7 H7
    have BK := V.kp (H7.f16.f16.f16.f16.f16.f16.f16.f16.f16.f16.f16.f16.f16.f16.f16.f16)
    refine dZ BK (fun W hW => (Kp.h hW).right.f15.f15.f15.f15.f15.f15.f15.f15.f15.f15.f15.f15.f15.f15.f15) ?_
    refine lU 7 O (eX (H7.gG none) aV yw O O O ((H7).aN) (aG (aY (by first | rfl | exact Rd.one ((H7.f15).aN)) (aY (by first | rfl | exact Rd.one ((H7.f16).aN)) bK))) (by omega) (by omega)) ?_
    rintro l8 w8 H8
    have Hd9 := H8.f2.right
    have Gi := V.kp (Hd9.f16.f16.f16.f16.f16.f16.f16.f16.f16.f16.f16.f16.f16.f16.f16.f16)
    refine fH Gi (by kernel_rfl) ?_
    refine jQ 8 O Gi O (fQ 9 O Gi 39 aJ O bG O ?_)
    refine gU 10 O (by kernel_rfl) (eY 39 (l' := [_, _, _, _, _, _, _, _, _, _, _, _, _, _, _, _, _, _, _, _, _, _, _, _, _, _, _, _, _, _, _, _, _, _, _, _, _, _, _, _, _, _]) Hd9.f2 bG O O (by first | rfl | exact Rd.one ((Hd9).aN)) O O) ?_
    rintro _ w10 sF
    have Oh := V.kp (sF.f16.f16.f16.f16.f16.f16.f16.f16.f16.f16.f16.f16.f16.f16.f16.f16)
    refine fH Oh (by kernel_rfl) ?_
    refine qj (kY (.inr O) results126 ?_)
    have X := (sF.f11.right.f11.right.f12.right.f11.f11.f7.f7.f7.f11.f11.f11.f11.f10.f11.f13.f13).kK.swap.kK.swap
    have X2 := V.vX (es := []) X.EY.f3.f3.f4
    rw [wX (x := (a, dl, il)) hlen htot]
    exact V.Nb (s := { s.qR [] with put := [(a, dl, il)], c := { (s.qR []).c with run := false } }) (wX (x := (a, dl, il)) hlen htot ▸ jO.full hin (x := (a, dl, il)) O hlen (hok hlen) htot (by rw [SQ, jO.EN]; rfl) (Ic jO.placed ⟨jO.ok.1.1, jO.ok.1.2.1⟩)) X2
   ·(try simp only [aF] at h3)
    have htot : ¬ 16384 ≤ iD s.here s.put := by have h9 := h3; omega
    obtain ⟨Js, yF, yG, yH, yI, AU, AV, Kv, AX, BR, AY, AZ, Ba, yJ, yK, yL, yM, yN, yO, yP, yQ, yR, yS, yT, yU, jO, qW, mF⟩ := (H2).Ce
    have hsp := nH s.here s.put
    refine iy ?_
    have adG := mF.drew
    have Ig := V.kp (adG.f15.f15.f15.f15.f15.f15.f15.f15.f15.f15.f15.f15.f15.f15.f15)
    refine uU [4, 5] Ig O (gQ 0 O Ig O (gQ 1 O Ig O (jQ 2 O Ig O (fQ 3 O Ig 39 aJ O bG O (iO 4 O Ig (fun W hW => jT aV O ((Kp.h hW)).get.2 O) (iO 5 O Ig (fun W hW => dI aU O bJ O O ((Kp.h hW).f13).get.2) (lU 6 O (og adG aV bJ cO O O O (by decide) (by decide)) ?_)))))))
    rintro l12 w12 tN
    have DF := V.kp (tN.f16.f16.f16.f16.f16.f16.f16.f16.f16.f16.f16.f16.f16.f16.f16.f16)
    refine dZ DF (fun W hW => (Kp.h hW).right.f15.f15.f15.f15.f15.f15.f15.f15.f15.f15.f15.f15.f15.f15.f15) ?_
    refine lU 7 O (eX tN.f11 aV yw O O O ((tN).aN) (aG (aY (by first | rfl | exact Rd.one ((tN.f15).aN)) (aY (by first | rfl | exact Rd.one ((tN.f16).aN)) bK))) (by omega) (by omega)) ?_
    rintro l13 Qz Ak
    have U3 := Ak.f2.right
    have IW := V.kp (U3.f15.f15.f15.f15.f15.f15.f15.f15.f15.f15.f15.f15.f15.f15.f15)
    refine fH IW (by kernel_rfl) ?_
    refine jQ 8 O IW O (fQ 9 O IW 39 aJ O bG O ?_)
    refine gU 10 O (by kernel_rfl) (eY 39 (l' := [_, _, _, _, _, _, _, _, _, _, _, _, _, _, _, _, _, _, _, _, _, _, _, _, _, _, _, _, _, _, _, _, _, _, _, _, _, _, _, _, _, _]) U3.f2 bG O O (by first | rfl | exact Rd.one ((U3).aN)) O O) ?_
    rintro _ Ws CG
    have CO := V.kp (CG.f15.f15.f15.f15.f15.f15.f15.f15.f15.f15.f15.f15.f15.f15.f15)
    refine fH CO (by kernel_rfl) ?_
    refine qj (kY (.inr O) results126 ?_)
    have X := (CG.f13.right.f12.f11.f11.f11.f11.f11.f11.f11.f11.f10.f12.f12.f14.f14).kK.swap.kK.swap
    rw [← qW] at X
    have X2 := V.vX X.f3
    rw [wW (x := (a, dl, il)) hlen htot]
    exact V.Nb (s := { s with put := s.put ++ [(a, dl, il)] }) (wW (x := (a, dl, il)) hlen htot ▸ jO.more hin (x := (a, dl, il)) O hlen (hok hlen) htot) X2
 ·(try simp only [aF] at h1)
  refine dF (dF (dF (dF (kX O O (jd (vS (iy (aO (aO ?_)))))))))
  have hlen : 0 < dl.length + il.length := by omega
  refine aA (bT O (fE O func155 (Jt H1.f4) ?_))
  rintro _ w16 ⟨rfl, yj⟩
  refine aW (nM O O) (jv O (fun h4 => ?_) (fun h4 => ?_))
  ·(try simp only [aF] at h4)
   have htot : 16384 ≤ iD s.here s.put := by have h9 := h4; omega
   obtain ⟨Js, yF, yG, yH, yI, AU, AV, Kv, AX, BR, AY, AZ, Ba, yJ, yK, yL, yM, yN, yO, yP, yQ, yR, yS, yT, yU, jO, qW, mF⟩ := (yj).Ce
   have hpl := Ib jO.placed (by obtain ⟨hv9, hk9, _⟩ := (mF.f9).CV; have := hk9.1; have := hk9.2.2; omega)
   have hsp := nH s.here s.put
   refine aO ?_
   have adH := mF.drew
   have BU := V.kp (adH.f15.f15.f15.f15.f15.f15.f15.f15.f15.f15.f15.f15.f15.f15.f15)
   refine uU [9] BU O (gQ 0 O BU O (jQ 1 O BU O (fQ 2 O BU 1 aJ O dH O (fQ 3 O BU 6 bI O sizeOf93 O (gQ 4 O BU O (jQ 5 O BU O (fQ 6 O BU 1 aJ O dH O (fQ 7 O BU 2 bI O lH O (fQ 8 O BU 2 dB O aj O (iO 9 O BU (fun W hW => jT aB O ((Kp.h hW)).get.2 O) (lU 10 O (wY O func122 (Le adH.f8.f8.f8.f4 (by assumption))) ?_)))))))))))
   rintro _ ZN ⟨ajt, aju, EM⟩
   have E8 := V.kp (EM.f15.f15.f15.f15.f15.f15.f15.f15.f15.f15.f15.f15.f15.f15.f15)
   refine fH E8 (by kernel_rfl) ?_
   refine qj (aZ (bY O (dO O (bn 39 aJ O bG O (aI (ni 39 EM bG) ?_)))))
   rintro _ ZO DY
   refine jd (aA (mJ O O (bn 1 aJ O dH O (bn 11 bI O aQ O (aI (ni 12 DY aQ) ?_)))))
   rintro _ YT EI
   refine jd ?_
   have adI := EI.drew
   have Ih := V.kp (adI.f15.f15.f15.f15.f15.f15.f15.f15.f15.f15.f15.f15.f15.f15.f15)
   refine uU [4, 5] Ih O (gQ 0 O Ih O (gQ 1 O Ih O (jQ 2 O Ih O (fQ 3 O Ih 39 aJ O bG O (iO 4 O Ih (fun W hW => jT aV O ((Kp.h hW)).get.2 O) (iO 5 O Ih (fun W hW => dI aU O bJ O O ((Kp.h hW).f13).get.2) (lU 6 O (og adI aV bJ cO O O O (by decide) (by decide)) ?_)))))))
   rintro l21 YU wG
   have abu := V.kp (wG.f16.f16.f16.f16.f16.f16.f16.f16.f16.f16.f16.f16.f16.f16.f16.f16)
   refine dZ abu (fun W hW => (Kp.h hW).right.f15.f15.f15.f15.f15.f15.f15.f15.f15.f15.f15.f15.f15.f15.f15) ?_
   refine lU 7 O (eX (wG.gG none) aV yw O O O ((wG).aN) (aG (aY (by first | rfl | exact Rd.one ((wG.f15).aN)) (aY (by first | rfl | exact Rd.one ((wG.f16).aN)) bK))) (by omega) (by omega)) ?_
   rintro l22 w22 IQ
   have aeM := IQ.f2.right
   have EC := V.kp (aeM.f16.f16.f16.f16.f16.f16.f16.f16.f16.f16.f16.f16.f16.f16.f16.f16)
   refine fH EC (by kernel_rfl) ?_
   refine jQ 8 O EC O (fQ 9 O EC 39 aJ O bG O ?_)
   refine gU 10 O (by kernel_rfl) (eY 39 (l' := [_, _, _, _, _, _, _, _, _, _, _, _, _, _, _, _, _, _, _, _, _, _, _, _, _, _, _, _, _, _, _, _, _, _, _, _, _, _, _, _, _, _]) aeM.f2 bG O O (by first | rfl | exact Rd.one ((aeM).aN)) O O) ?_
   rintro _ w24 MN
   have Jb := V.kp (MN.f16.f16.f16.f16.f16.f16.f16.f16.f16.f16.f16.f16.f16.f16.f16.f16)
   refine fH Jb (by kernel_rfl) ?_
   refine qj (kY (.inr O) results126 ?_)
   have X := (MN.f11.right.f11.right.f12.right.f11.f11.f7.f7.f7.f11.f11.f11.f11.f10.f11.f13.f13).kK.swap.kK.swap
   have X2 := V.vX (es := []) X.EY.f3.f3.f4
   rw [wX (x := (a, dl, il)) hlen htot]
   exact V.Nb (s := { s.qR [] with put := [(a, dl, il)], c := { (s.qR []).c with run := false } }) (wX (x := (a, dl, il)) hlen htot ▸ jO.full hin (x := (a, dl, il)) O hlen (hok hlen) htot (by rw [SQ, jO.EN]; rfl) (Ic jO.placed ⟨jO.ok.1.1, jO.ok.1.2.1⟩)) X2
  ·(try simp only [aF] at h4)
   have htot : ¬ 16384 ≤ iD s.here s.put := by have h9 := h4; omega
   obtain ⟨Js, yF, yG, yH, yI, AU, AV, Kv, AX, BR, AY, AZ, Ba, yJ, yK, yL, yM, yN, yO, yP, yQ, yR, yS, yT, yU, jO, qW, mF⟩ := (yj).Ce
   have hsp := nH s.here s.put
   refine iy ?_
   have adJ := mF.drew
   have Ii := V.kp (adJ.f15.f15.f15.f15.f15.f15.f15.f15.f15.f15.f15.f15.f15.f15.f15)
   refine uU [4, 5] Ii O (gQ 0 O Ii O (gQ 1 O Ii O (jQ 2 O Ii O (fQ 3 O Ii 39 aJ O bG O (iO 4 O Ii (fun W hW => jT aV O ((Kp.h hW)).get.2 O) (iO 5 O Ii (fun W hW => dI aU O bJ O O ((Kp.h hW).f13).get.2) (lU 6 O (og adJ aV bJ cO O O O (by decide) (by decide)) ?_)))))))
   rintro l26 w26 Gh
   have QK := V.kp (Gh.f16.f16.f16.f16.f16.f16.f16.f16.f16.f16.f16.f16.f16.f16.f16.f16)
   refine dZ QK (fun W hW => (Kp.h hW).right.f15.f15.f15.f15.f15.f15.f15.f15.f15.f15.f15.f15.f15.f15.f15) ?_
   refine lU 7 O (eX Gh.f11 aV yw O O O ((Gh).aN) (aG (aY (by first | rfl | exact Rd.one ((Gh.f15).aN)) (aY (by first | rfl | exact Rd.one ((Gh.f16).aN)) bK))) (by omega) (by omega)) ?_
   rintro l27 w27 JO
   have aeN := JO.f2.right
   have QL := V.kp (aeN.f15.f15.f15.f15.f15.f15.f15.f15.f15.f15.f15.f15.f15.f15.f15)
   refine fH QL (by kernel_rfl) ?_
   refine jQ 8 O QL O (fQ 9 O QL 39 aJ O bG O ?_)
   refine gU 10 O (by kernel_rfl) (eY 39 (l' := [_, _, _, _, _, _, _, _, _, _, _, _, _, _, _, _, _, _, _, _, _, _, _, _, _, _, _, _, _, _, _, _, _, _, _, _, _, _, _, _, _, _]) aeN.f2 bG O O (by first | rfl | exact Rd.one ((aeN).aN)) O O) ?_
   rintro _ w29 JQ
   have abw := V.kp (JQ.f15.f15.f15.f15.f15.f15.f15.f15.f15.f15.f15.f15.f15.f15.f15)
   refine fH abw (by kernel_rfl) ?_
   refine qj (kY (.inr O) results126 ?_)
   have X := (JQ.f13.right.f12.f11.f11.f11.f11.f11.f11.f11.f11.f10.f12.f12.f14.f14).kK.swap.kK.swap
   rw [← qW] at X
   have X2 := V.vX X.f3
   rw [wW (x := (a, dl, il)) hlen htot]
   exact V.Nb (s := { s with put := s.put ++ [(a, dl, il)] }) (wW (x := (a, dl, il)) hlen htot ▸ jO.more hin (x := (a, dl, il)) O hlen (hok hlen) htot) X2
theorem Mc (H : V w0 w (ku y s • F)) (hr : jm w0 F .i32 v l) (hlb : l.length ≤ 140737488355328) : iM prog 77 #[.pointer (some ⟨y, 0, none⟩), .int .i64 j, .int .i64 k, v] w fun v' w' => v' = .int .i64 (s.uf j k l) ∧ V w0 w' (ku y (s.wU j k l) • F) := by
 refine Pv func77 ntmps77 ?_
 refine kQ O (aO (aO ?_))
 obtain ⟨Js, yF, yG, yH, yI, AU, AV, Kv, AX, BR, AY, AZ, Ba, yJ, yK, yL, yM, yN, yO, yP, yQ, yR, yS, yT, yU, jO, qW, mF⟩ := (H).Ce
 refine aA (mJ O O (bn 32 aJ O aQ O (fB cZ O (mF).get.2 O (aW (mG O) (jv O (fun h1 => ?_) (fun h1 => ?_))))))
 ·(try simp only [aF] at h1)
  have hin : s.inn = false := by simpa using h1
  refine mP O (aC (fD results77 O ?_))
  have PN := mF.f12.f12.f12.f12.f12.f12.f12.f12.f12.f12.f12.f12
  have LP := V.mV (s := s) jO PN
  exact ⟨by simp [dw.uf, dw.wU, hin], by rw [show s.wU j k l = s from by simp [dw.uf, dw.wU, hin]]; exact LP⟩
 ·(try simp only [aF] at h1)
  have hin : s.inn = true := by simpa using h1
  refine iy (aO ?_)
  have hL : s.c.L.length ≤ 1024 := by obtain ⟨a, c, h4, _⟩ := (mF.f2).ref; exact h4
  have hE : s.uf j k l = qx s.c.L j k l := by unfold dw.uf; rw [if_pos hin]
  have hS : s.wU j k l = (s.nC (wP s.c.L j k l) (wQ s.c.L s.c.pt j k l) (wR s.c.L s.c.mark j k l)).BM (vY s.c.L j k l, rC s.c.L j k l, rD s.c.L j k l) := by unfold dw.wU; rw [if_pos hin]
  have hok := Yg (i := j) (j := k) (l := l) hL
  have hno := Bo (L := s.c.L) (i := j) (j := k) (l := l)
  refine aA (mJ O O (bn 1 aJ O dH O (bn 0 bI O pI O (fB qH O (mF).get.2 O (jy O O (bT O (fE O func125 (L8 mF.f2 (fun W HW => hr _ (HW.right.right.right.right.right.right.right.right.right.right.right)) (by (try simp only [List.length_nil]); omega)) ?_)))))))
  rintro _ w5 ⟨d5, s5, rfl, H5⟩
  refine bT O (sD O O (sD O O (iY (fK (l := [_, _, _]) H5 cO O) ?_)))
  rintro _ w6 ⟨b6, rfl, H6⟩
  refine aI (dG 0 (l' := [_, _, _]) (us := [_, _, _]) H6 bJ O O O (aG (aY (by first | rfl | exact Rd.one ((H6.f2).aN)) (aY (by first | rfl | exact Rd.one ((H6.f3).aN)) bK))) O O) ?_
  rintro _ w7 H7
  obtain ⟨S', hS'⟩ : ∃ S', S' = s.nC (wP s.c.L j k l) (wQ s.c.L s.c.pt j k l) (wR s.c.L s.c.mark j k l) := ⟨_, rfl⟩
  have hin' : S'.inn = true := by rw [hS']; exact hin
  have Ho8 := H7.f15.f15.f15.f15.f15.f15.f15.f15.f15.f15.f14.f15
  have VT := V.mV (s := S') (by rw [hS']; exact jO.nC _ _ _) (by rw [hS']; exact Ho8)
  refine sS O (bY O (aW (kP O O) (jv O (fun h2 => ?_) (fun h2 => ?_))))
  ·(try simp only [aF] at h2)
   have h0 := h2
   refine aA (bT O (aW (dI aU O bJ O O (VT.f2).get.2) (fE O func126 (Td VT.f4.f4 (by assumption) (by assumption)) ?_)))
   rintro _ w10 sF
   refine ql O (ig O (fD results77 O ?_))
   exact ⟨by rw [hE]; rfl, by rw [hS, ← hS']; exact sF.f2.right⟩
  ·(try simp only [aF] at h2)
   have h0 := h2
   refine iy (bY O (ig O (fD results77 O ?_)))
   exact ⟨by rw [hE]; rfl, by rw [hS, ← hS', DN (x := (vY s.c.L j k l, rC s.c.L j k l, rD s.c.L j k l)) (by rw [(hno h0).1, (hno h0).2]; rfl)]; exact VT.f2.right.f2.right.f2.right⟩
end
section
variable {w0 w : World} {F : HP} {p y h : Nat} {s : dw} {l : List Int} {v : Value} {j k : Int}
theorem O7 (H : V w0 w (ku y s • F)) (hr : jm w0 F .i32 v l) (hlb : l.length ≤ 140737488355328) : iM prog 33 #[.pointer (some ⟨y, 0, none⟩), v] w fun v' w' => v' = .int .i64 (s.Y6 l) ∧ V w0 w' (ku y (s.WH l) • F) := by
 refine qI func33 ntmps33 ?_
 refine kQ O (aO ?_)
 obtain ⟨Js, yF, yG, yH, yI, AU, AV, Kv, AX, BR, AY, AZ, Ba, yJ, yK, yL, yM, yN, yO, yP, yQ, yR, yS, yT, yU, jO, qW, mF⟩ := (H).Ce
 obtain ⟨ac4, ac5, Nc, Nh, Nj, ac6, ac7, Tf⟩ := (mF.f2).ref
 have IC := Tf.drew
 have jk := V.kp (IC.f13.f13.f13.f13.f13.f13.f13.f13.f13.f13.f13.f13.f13)
 refine uU [5, 8, 13, 16] jk O (gQ 0 O jk O (gQ 1 O jk O (jQ 2 O jk O (fQ 3 O jk 1 aJ O dH O (fQ 4 O jk 0 bI O pI O (iO 5 O jk (fun W hW => jT qH O ((Kp.h hW).f3).get.2 O) (jQ 6 O jk O (fQ 7 O jk 1 bC O aj O (iO 8 O jk (fun W hW => jT aB O ((Kp.h hW)).get.2 O) (gQ 9 O jk O (jQ 10 O jk O (fQ 11 O jk 1 aJ O dH O (fQ 12 O jk 0 bI O pI O (iO 13 O jk (fun W hW => jT qH O ((Kp.h hW).f3).get.2 O) (jQ 14 O jk O (fQ 15 O jk 1 bC O aj O (iO 16 O jk (fun W hW => jT aB O ((Kp.h hW)).get.2 O) ?_)))))))))))))))))
 have PD := IC.f2.f2
 have MK := V.qV Nc Nh Nj PD
 have RY := MK.f12.f12.f12.f12.f12.f12.f12.f12.f12.f12.f11.f12
 have PS := V.mV (s := s) jO RY
 refine gQ 17 O jk O (lU 18 O (wY O func77 (Mc PS (fun W HW => hr _ (HW)) (by (try simp only [List.length_nil]); omega))) ?_)
 rintro _ w9 ⟨rfl, H9⟩
 have Gi := V.kp (H9)
 refine fH Gi (by kernel_rfl) ?_
 refine iL 19 O Gi (fun _ => fU O) (qj (aZ (mZ (fD results33 O ?_))))
 exact ⟨O, H9⟩
theorem iw.cls {es : List fJ} {A : List LE} {yf yt : Int} (h : iw s es A yf yt) (c : Int) (hc : c ≠ 2) : iw { s with cls := c } es A yf yt :=
  ⟨h.ok, ⟨h.rx.1, h.rx.2.1, fun _ h2 => absurd h2 hc⟩, h.says, h.EN, h.placed, h.L9⟩
end
theorem Gg.one {I : Hp} {sz n : Nat} {v : Value} {xs : List Value} (h : Gg I sz v n xs) : v.oneCell' = true := by obtain ⟨_, a, c, rfl, _⟩ := h; rfl
section
variable {w0 w : World} {F : HP} {p y h : Nat} {s : dw} {u v lv : Value} {es les : List fJ} {gs : List (Value × List fJ)} {on : Bool}
theorem V.abR (H : V w0 w (rQ gs • F)) : ∀ x ∈ gs.map (·.1), x.oneCell' = true := by
  obtain ⟨I, h, hI⟩ := H.wC
  intro x hx
  obtain ⟨g, hg, rfl⟩ := List.mem_map.1 hx
  obtain ⟨k, hk, rfl⟩ := List.getElem_of_mem hg
  have := h k hk
  rw [List.getD_eq_getElem?_getD, List.getElem?_eq_getElem hk] at this
  exact this.1.one
theorem V.ac8 (H : V w0 w (Gs v es • F)) : V w0 w (nX es • Gs v es • F) := H.uD.F9 (qJ (fun I h => h.2) _)
theorem abS {α : Type _} (l : List α) (u : α) (h : l ≠ []) : l.set (l.length - 1) u = l.dropLast ++ [u] := by
  have e := List.dropLast_concat_getLast h
  have hl : l.dropLast.length = l.length - 1 := List.length_dropLast
  conv => lhs; rw [← e]
  rw [List.set_append_right _ _ (by simp)]
  simp
theorem V.Zv (hg : gs ≠ []) (H : V w0 w (Row 96 1 v gs.length ((gs.map (·.1)).set (gs.length - 1) u) • Gs u es • rQ gs • F)) : V w0 w (glK v (gs.dropLast ++ [(u, es)]) • F) := by
  have h0 : 0 < gs.length := List.length_pos_iff.2 hg
  have H1 := (H.f3).Ui (gs.length - 1)
  rw [← List.dropLast_eq_take] at H1
  have hm : (gs.map (·.1)).set (gs.length - 1) u = gs.dropLast.map (·.1) ++ [u] := by
    have := abS (gs.map (·.1)) u (by simpa using hg)
    rw [List.length_map] at this
    rw [this, List.map_dropLast]
  have hl : gs.length = gs.dropLast.length + 1 := by rw [List.length_dropLast]; omega
  rw [hm, hl] at H1
  exact (V.wO (H1.f2.f3.f2)).Fz
theorem Q5 (gs : List (Value × List fJ)) (x : Value × List fJ) : Dp (gs ++ [x]) = Dp gs ++ [x.2.map fJ.says] := by unfold Dp; rw [List.map_append]; rfl
theorem Vr (hG : Dp gs = s.here) (hne : gs ≠ []) (hl : gs.getD (gs.length - 1) default = (lv, les)) (hes : es.map fJ.says = s.put) (hp : s.put ≠ []) : Dp (gs.dropLast ++ [(u, les ++ es)]) = s.lF true := by
  have h0 : s.here ≠ [] := by rw [← hG]; unfold Dp; simpa using hne
  have h1 : s.here.getLast h0 = les.map fJ.says := by
    have e : s.here.getLast? = some (les.map fJ.says) := by
      rw [← hG]; unfold Dp
      rw [List.getLast?_map, List.getLast?_eq_getElem?]
      rw [List.getD_eq_getElem?_getD, List.getElem?_eq_getElem (by have := List.length_pos_iff.2 hne; omega)] at hl
      rw [List.getElem?_eq_getElem (by have := List.length_pos_iff.2 hne; omega)]
      simp only [Option.getD_some] at hl
      rw [hl]; rfl
    rw [List.getLast?_eq_some_getLast h0] at e
    exact Option.some.inj e
  unfold dw.lF
  rw [if_neg hp, if_pos rfl, List.getLast?_eq_some_getLast h0, Q5]
  have h2 : Dp gs.dropLast = s.here.dropLast := by rw [← hG]; unfold Dp; rw [List.map_dropLast]
  rw [h1, h2]
  show _ ++ [(les ++ es).map fJ.says] = _
  rw [List.map_append, hes]
theorem O8 (hG : Dp gs = s.here) (hes : es.map fJ.says = s.put) (hp : s.put ≠ []) (h : ¬ (on = true ∧ 0 < gs.length)) : Dp (gs ++ [(u, es)]) = s.lF on := by
  unfold dw.lF
  rw [if_neg hp, Q5, hG]
  show s.here ++ [es.map fJ.says] = _
  rw [hes]
  cases on with
  | false => rw [if_neg (by decide)]
  | true =>
    have h0 : s.here = [] := by
      have : gs = [] := List.eq_nil_of_length_eq_zero (by by_cases hx : 0 < gs.length; exact absurd ⟨rfl, hx⟩ h; omega)
      rw [← hG, this]; rfl
    rw [if_pos rfl, h0]; rfl
theorem Bc {x0 x1 x2 x3 x4 x6 x9 x10 x11 x12 tZ x14 x15 x16 x17 x18 x19 x20 x21 uq x23 x24 x25 uz x27 x28 x29 x30 x31 x32 uX x34 D5 D6 D7 x38 x40 x41 : Value} {pv gv nw : Value} {A : List LE} (hA : EN A = s.c.un) (hP : zx s.hl A) (hS : es.map fJ.says = s.put) (hok : pz s) (hx : Jo s.c) (hhl : s.hl.length ≤ 4096)
  (H : V w0 w (eF y (.cells (x0 :: x1 :: x2 :: x3 :: x4 :: .int .i64 s.c.place :: x6 :: pv :: gv :: x9 :: x10 :: x11 :: x12 :: tZ :: x14 :: x15 :: x16 :: x17 :: x18 :: x19 :: x20 :: x21 :: uq :: x23 :: x24 :: x25 :: uz :: x27 :: x28 :: x29 :: x30 :: x31 :: x32 :: uX :: x34 :: D5 :: D6 :: D7 :: x38 :: nw :: x40 :: x41 :: []).toArray 98 (0, 0)) • nS .i64 pv (A.map (·.1)) • uQ 1 gv A.length (A.map (·.2.1)) • tq A • Row 183 3 nw es.length (es.flatMap fJ.enc) • nX es • F)) :
  iM prog 73 #[.pointer (some ⟨y, 0, none⟩), .bool on] w fun _ w' => ∃ pv' gv' A' nw', EN A' = (s.fM on).c.un ∧ zx s.hl A' ∧
   V w0 w' (eF y (.cells (x0 :: x1 :: x2 :: x3 :: x4 :: .int .i64 s.c.place :: x6 :: pv' :: gv' :: x9 :: x10 :: x11 :: x12 :: tZ :: x14 :: x15 :: x16 :: x17 :: x18 :: x19 :: x20 :: x21 :: uq :: x23 :: x24 :: x25 :: uz :: x27 :: x28 :: x29 :: x30 :: x31 :: x32 :: uX :: x34 :: D5 :: D6 :: D7 :: x38 :: nw' :: x40 :: x41 :: []).toArray 98 (0, 0)) • nS .i64 pv' (A'.map (·.1)) • uQ 1 gv' A'.length (A'.map (·.2.1)) • tq A' • Row 183 3 nw' 0 [] • nX [] • F) := by
 have agm := QY hx
 have hput := hok.2.2.2.2.1
 have hsp := nH s.here s.put
 have hpl := Ib hP (by omega)
 have hlp : es.length = s.put.length := by rw [← hS]; simp
 refine qI func73 ntmps73 ?_
 refine aO (bY O (dO O (bn 39 aJ O bG O (fB aV O (H).get.2 O (aW (fV ((H.f5).aN) aV O) (aW (kP O O) (jv O (fun h1 => ?_) (fun h1 => ?_))))))))
 ·(try simp only [aF] at h1)
  have he : es = [] := List.eq_nil_of_length_eq_zero (by omega)
  have hp : s.put = [] := List.eq_nil_of_length_eq_zero (by omega)
  refine mZ (aC (we0 results73 ?_))
  subst he
  exact ⟨pv, gv, A, nw, by rw [BO hp]; exact hA, hP, H.f6.f6.f6.f6.f6.f6⟩
 ·(try simp only [aF] at h1)
  have hp : s.put ≠ [] := fun hx => h1 (by rw [hlp, hx]; rfl)
  refine iy (bY O (dO O (bn 1 aJ O dH O (bn 2 bI O lH O (bn 2 dB O aj O (fB aB O (H).get.2 O (iP O (bY O (dO O (bn 1 aJ O dH O (bn 6 bI O sizeOf93 O (bT O (fE O func87 (Ie H.f4.f4.f4.f4) ?_)))))))))))))
  rintro u1 w1 ⟨gs1, ahV, H1⟩
  obtain ⟨gu, rfl⟩ : ∃ q, q = u1 := ⟨_, rfl⟩
  obtain ⟨gs, rfl⟩ : ∃ q, q = gs1 := ⟨_, rfl⟩
  have hG : Dp gs = s.here := by rw [ahV, hA]; rfl
  have hgl : gs.length = s.here.length := by rw [← hG]; exact (List.length_map _).symm
  have Ho2 := H1.f2.f2
  have Hc3 := Ho2
  have hone := (Hc3.f2).abR
  refine iP O (kQ O (bY O (bT O (iY (eX (Hc3.gG none) bP KI O O O ((Hc3).oD) (by assumption) (by omega) (by omega)) ?_))))
  rintro l4 w4 H4
  have HX4 := H4
  rw [Nat.zero_add, List.nil_append] at HX4
  refine iP O ?_
  refine rU [(0, _), (4, _)] (fun (ou : Value) => [(6, ou)]) (fun (ou : Value) W => ∃ gs, Dp gs = s.lF on ∧ V w0 W (uQ 1 ou gs.length (gs.map (·.1)) • rQ gs • eF y (.cells (x0 :: x1 :: x2 :: x3 :: x4 :: .int .i64 s.c.place :: x6 :: pv :: gv :: x9 :: x10 :: x11 :: x12 :: tZ :: x14 :: x15 :: x16 :: x17 :: x18 :: x19 :: x20 :: x21 :: uq :: x23 :: x24 :: x25 :: uz :: x27 :: x28 :: x29 :: x30 :: x31 :: x32 :: uX :: x34 :: D5 :: D6 :: D7 :: x38 :: nw :: x40 :: x41 :: []).toArray 98 (0, 0)) • nS .i64 pv (A.map (·.1)) • uQ 1 gv A.length (A.map (·.2.1)) • tq A • F)) rP ?_ ?_
  ·rintro ou w5 ⟨gs, hG, HJ⟩
   dsimp only [List.cons_append, List.nil_append]
   refine bY O (dO O (bn 1 aJ O dH O (bn 6 bI O sizeOf93 O (jy O O (fE O func122 (Ld HJ.f2.f2.f6.f6.f6.f6 (by assumption)) ?_)))))
   rintro _ w6 ⟨pv6, gv6, H6⟩
   refine jd (aA (mJ O O (bn 39 aJ O bG O (aI (ni 39 H6 bG) ?_))))
   rintro _ w7 H7
   refine bZ (kY (.inr O) results73 ?_)
   have HQ := (H7.f4.f4.f4.f4).wF none |>.edL
   refine ⟨_, _, _, _, ?_, Ic hP ⟨hok.1.1, hok.1.2.1⟩, HQ.f6.f6.f6.f6⟩
   rw [oW hp, SQ, hA, hG]; rfl
  ·skip
   refine bY O (mX O (fun h2 => ?_) (fun h2 => ?_))
   ·(try simp only [aF] at h2)
    refine bW (bT O (bW (aW (fV ((HX4).aN) bP O) (bW (aW (iT O O) (nZ O O (jv O (fun h3 => ?_) (fun h3 => ?_))))))))
    ·(try simp only [aF] at h3)
     refine aO ?_
     have ahW : on = true := by first | assumption | (simp_all; done)
     have hne : gs ≠ [] := fun hx => by subst hx; simp at *
     refine aA (iP O (bY O (jy O O (aW (fV ((HX4).aN) bP O) (aW (lW O O (by omega)) ?_)))))
     obtain ⟨bl4, ol4, cl4, el4⟩ := Rd.nR ((HX4).aN) (by omega)
     cases el4
     refine aW (dD bP bG O O (by omega)) ?_
     refine aW (eG (dn aV O) O (by first | exact Rd.sO ((HX4).aN) (by omega) | exact Rd.EF ((HX4).aN) (by omega) | exact Rd.Ey ((HX4).aN) (by omega))) ?_
     rw [show (gs.map (·.1)).getD (((gs.length : Nat) : Int) - 1).toNat undef = (gs.getD (gs.length - 1) default).1 from by have := List.length_pos_iff.2 hne; rw [show (((gs.length : Nat) : Int) - 1).toNat = gs.length - 1 from by omega]; simp [List.getD_eq_getElem?_getD, show gs.length - 1 < gs.length from by omega]]
     obtain ⟨gl, Ac, hg⟩ : ∃ gl Ac, gs.getD (gs.length - 1) default = (gl, Ac) := ⟨_, _, rfl⟩
     rw [hg]
     have Ho8 := HX4.f3
     have VT := Ho8.IY (by have := List.length_pos_iff.2 hne; omega) hg
     have aiI := (VT).aaP
     have hgm : Ac.map fJ.says ∈ s.here := by rw [← hG]; exact List.mem_map.2 ⟨(gl, Ac), by rw [← hg]; exact Bh (by have := List.length_pos_iff.2 hne; omega), rfl⟩
     have hgb := MV hgm
     rw [List.length_map] at hgb
     have ajv : Ac.length ≤ 16384 := by unfold iD at hput; omega
     refine iY (eX (VT.gG none) aV yw O O O ((VT).y9) (by assumption) (by omega) (by omega)) ?_
     rintro l10 w10 sF
     have HX7 := sF
     rw [Nat.zero_add, List.nil_append] at HX7
     refine iP O ?_
     have aiJ := (HX7.f11).II
     refine aA (jy O O (aW (jS bP O) (aW (lW O O (by omega)) (jy O O (dO O (bn 39 aJ O bG O (fB aV O (HX7.f6).get.2 O (iY (eX HX7 aV yw O O O ((HX7.f10).aN) (by assumption) (by omega) (by omega)) ?_))))))))
     rintro l11 Iq sG
     refine aW (dD bP bG O O (by omega)) (aI (sQ 0 sG.f4 bG O O (by first | rfl | exact Rd.one ((sG).aN)) (by omega) (by decide)) ?_)
     rintro _ w12 tN
     have aeO := tN.f3
     have aeP := (aeO.ac8).f2.right
     have aeG := aeP.f11.f2.f4
     have aeH := V.uJ (es := Ac ++ es) (V.deep (V.MZ rfl aeG))
     have WJ := aeH.f2
     have HX8 := WJ
     rw [show (((gs.length : Nat) : Int) - 1).toNat * 1 + 0 = gs.length - 1 from by omega] at HX8
     have aeQ := HX8.f3.f3.f3
     have aeR := (V.Zv hne aeQ).Vf
     have hGJ := Vr (s := s) (u := l11) hG hne hg hS hp
     rw [← ahW] at hGJ
     refine bZ ?_
     refine gB (_) oO rP (by (try dsimp only); exact ⟨_, hGJ, aeR.f3.right.f7.right.f6.f6.f6.f6.f6.f6⟩)
    ·(try simp only [aF] at h3)
     have aek := HX4.f9.f9
     have aa3 := V.uJ (v := nw) (es := es) (V.deep aek)
     have hnj : ¬ (on = true ∧ 0 < gs.length) := by first | omega | simp_all | (intro hx; simp_all; omega)
     refine aA (jy O O (dO O (bn 39 aJ O bG O (fB aV O (aa3.f5).get.2 O (iY (kU (vs := [_]) aa3 bP bG pV O O O (by decide) (aY (by first | rfl | exact Rd.one ((aa3).y9)) bK)) ?_)))))
     rintro l22 w22 IQ
     refine iY (eX IQ.f3 bP KI O O O ((IQ).aN) (aY (by first | rfl | exact Rd.one ((IQ.f2).y9)) bK) (by omega) (by omega)) ?_
     rintro l23 YV DC
     have ahX := DC.f2.right
     have aeK := ahX.f4.f3.f3
     have aeL := (V.wO aeK).Fz.Vf
     have hGJ := O8 (s := s) (on := on) (u := nw) hG hS hp hnj
     refine iC O (bZ ?_)
     refine gB (_) oO rP (by (try dsimp only); exact ⟨_, hGJ, aeL.f3.right.f6.f6.f6.f6.f6.f6⟩)
   ·(try simp only [aF] at h2)
    refine dF (dF (dF (kX O O (jd (vS ?_)))))
    have aeA := HX4.f9.f9
    have Zl := V.uJ (v := nw) (es := es) (V.deep aeA)
    have hnj : ¬ (on = true ∧ 0 < gs.length) := by first | omega | simp_all | (intro hx; simp_all; omega)
    refine aA (jy O O (dO O (bn 39 aJ O bG O (fB aV O (Zl.f5).get.2 O (iY (kU (vs := [_]) Zl bP bG pV O O O (by decide) (aY (by first | rfl | exact Rd.one ((Zl).y9)) bK)) ?_)))))
    rintro l29 w29 JQ
    refine iY (eX JQ.f3 bP KI O O O ((JQ).aN) (aY (by first | rfl | exact Rd.one ((JQ.f2).y9)) bK) (by omega) (by omega)) ?_
    rintro l30 w30 PG
    have ahY := PG.f2.right
    have ahZ := ahY.f4.f3.f3
    have ah0 := (V.wO ahZ).Fz.Vf
    have hGJ := O8 (s := s) (on := on) (u := nw) hG hS hp hnj
    refine iC O (bZ ?_)
    refine gB (_) oO rP (by (try dsimp only); exact ⟨_, hGJ, ah0.f3.right.f6.f6.f6.f6.f6.f6⟩)
theorem P6 (H : V w0 w (ku y s • F)) : iM prog 73 #[.pointer (some ⟨y, 0, none⟩), .bool on] w fun _ w' => V w0 w' (ku y (s.fM on) • F) := by
  obtain ⟨h, pb, pk, wv, nv, pv, gv, A, nw, es, yf, yt, ch, u0, u1, u2, u3, u4, u5, u6, u7, u8, u9, ua, ub, ok, pl, H⟩ := H.Ce
  have hhl : s.hl.length ≤ 4096 := by obtain ⟨hv9, hk9, _⟩ := (H.f9).CV; exact hk9.1
  rw [← pl] at H
  have HI : V w0 w (eF y (.cells (.pointer (some ⟨h, 0, none⟩) :: .pointer (some ⟨pb, 0, none⟩) :: .pointer (some ⟨pk, 0, none⟩) :: wv :: nv :: .int .i64 s.c.place :: .string (dR s.hl s.c.tx s.c.place) :: pv :: gv :: .int .i64 s.c.mode :: .bool s.c.over :: .int .i64 s.c.res :: .bool s.c.run :: u0 :: u1 :: u2 :: u3 :: u4 :: u5 :: u6 :: u7 :: u8 :: u9 :: ua :: ub :: .bool s.given :: .bool s.minus :: .int .i64 s.arg :: .int .i64 s.zV :: .int .i64 s.UA :: .int .i64 s.UC :: .int .i64 s.sK :: .bool s.inn :: .int .i64 s.cls :: .int .i64 yf :: .int .i64 yt :: .bool s.argues :: .bool s.nV :: .bool s.lY :: nw :: .bool s.whole :: .bool ch :: []).toArray 98 (0, 0)) • nS .i64 pv (A.map (·.1)) • uQ 1 gv A.length (A.map (·.2.1)) • tq A • Row 183 3 nw es.length (es.flatMap fJ.enc) • nX es • kJ pb s.c.L s.c.pt s.c.mark • mD pk s.c.E s.c.at_ • uQ 1 wv (s.hl.length + 1) (strs (nP s.hl)) • Row 9 1 nv (s.hl.length + 1) (strs (mW s.hl s.c.tx)) • iW h s.hl s.base s.most • DV s.inn s.hl s.was [u0, u1, u2, u3, u4, u5, u6, u7, u8, u9, ua, ub] • F) := H.of_eq (by ac_rfl)
  refine (Bc ok.EN ok.placed ok.says ok.ok ok.rx.1 hhl HI).mono fun v w' h9 => ?_
  obtain ⟨pv', gv', A', nw', k1, k2, H9⟩ := h9
  by_cases hp : s.put = []
  · rw [BO hp] at k1 ⊢
    refine V.mV (y := y) (h := h) (pb := pb) (pk := pk) (wv := wv) (nv := nv) (pv := pv') (gv := gv') (A := A') (nw := nw') (es := []) (ch := ch) (u0 := u0) (u1 := u1) (u2 := u2) (u3 := u3) (u4 := u4) (u5 := u5) (u6 := u6) (u7 := u7) (u8 := u8) (u9 := u9) (ua := ua) (ub := ub) ⟨ok.ok, ok.rx, hp.symm, k1, k2, ok.L9⟩ ?_
    rw [hp]
    exact H9.of_eq (by simp only [List.length_nil, List.flatMap_nil]; ac_rfl)
  · have o1 := QW ok.ok ok.rx.1 on
    have o2 := QX ok.ok ok.rx on
    rw [oW hp] at k1 o1 o2 ⊢
    refine V.mV (y := y) (h := h) (pb := pb) (pk := pk) (wv := wv) (nv := nv) (pv := pv') (gv := gv') (A := A') (nw := nw') (es := []) (ch := ch) (u0 := u0) (u1 := u1) (u2 := u2) (u3 := u3) (u4 := u4) (u5 := u5) (u6 := u6) (u7 := u7) (u8 := u8) (u9 := u9) (ua := ua) (ub := ub) ⟨o1, o2, rfl, k1, k2, ok.L9⟩ ?_
    exact H9.of_eq (by simp only [List.length_nil, List.flatMap_nil]; ac_rfl)
end
theorem iw.bad {s : dw} {es : List fJ} {A A' : List LE} {yf yt : Int} (h : iw s es A yf yt) (hin : s.inn = true) (hA : _root_.Go.Proofs.YtgofgnlkpeghcaaGreatDoor.EN A' = s.was.un) (hP : zx s.hl A') : iw s.Dk [] A' yf yt :=
  ⟨WY h.ok hin, ⟨(h.rx.2.1 hin).1, fun hi => absurd hi (by show ¬ false = true; decide), fun hi => absurd hi (by show ¬ false = true; decide)⟩, rfl, hA, hP, fun hi => absurd hi (by show ¬ false = true; decide)⟩
theorem P7 (s : dw) (on : Bool) : (s.fM on).put = [] ∧ (s.fM on).inn = s.inn ∧ (s.fM on).hl = s.hl := by
  unfold dw.fM; split
  · exact ⟨by assumption, rfl, rfl⟩
  · exact ⟨rfl, rfl, rfl⟩
theorem Aa (s : dw) : s.oJ = { s with c := { s.c with un := (s.fM (s.typed && s.c.run)).c.un, run := s.typed && (!s.put.isEmpty || s.c.run), last := s.cls, fr := if s.cls = 2 then s.c.fr else 0, to := if s.cls = 2 then s.c.to else 0 }, given := if s.argues = true then s.given else false, minus := if s.argues = true then s.minus else false, arg := if s.argues = true then s.arg else -1, inn := false, put := [] } := by
  unfold dw.oJ dw.lG dw.fM
  by_cases ha : s.argues = true
  · by_cases hp : s.put = []
    · by_cases hc : s.cls = 2
      · simp [ha, hp, hc, dw.zU]
      · simp [ha, hp, hc, dw.zU]
    · by_cases hc : s.cls = 2
      · simp [ha, hp, hc, dw.zU, dw.qR, dw.lF, dw.here]
      · simp [ha, hp, hc, dw.zU, dw.qR, dw.lF, dw.here]
  · by_cases hp : s.put = []
    · by_cases hc : s.cls = 2
      · simp [ha, hp, hc, dw.zU]
      · simp [ha, hp, hc, dw.zU]
    · by_cases hc : s.cls = 2
      · simp [ha, hp, hc, dw.zU, dw.qR, dw.lF, dw.here]
      · simp [ha, hp, hc, dw.zU, dw.qR, dw.lF, dw.here]
theorem iw.good {s : dw} {es : List fJ} {A A' : List LE} {yf yt : Int} (h : iw s es A yf yt) (hA : _root_.Go.Proofs.YtgofgnlkpeghcaaGreatDoor.EN A' = (s.fM (s.typed && s.c.run)).c.un) (hP : zx s.hl A') : iw s.oJ [] A' yf yt := by
  have hok : pz s.oJ := by
    have h1 := QW (zk h.ok) (s := s.lG) (by unfold dw.lG; split <;> exact h.rx.1) (s.typed && s.c.run)
    unfold dw.oJ
    dsimp only
    split <;> exact h1
  have hx : Jo (s.fM (s.typed && s.c.run)).c := (QX h.ok h.rx _).1
  rw [Aa] at hok ⊢
  exact ⟨hok, ⟨⟨hx.1, h.rx.1.2⟩, fun hi => absurd hi (by show ¬ false = true; decide), fun hi => absurd hi (by show ¬ false = true; decide)⟩, rfl, hA, hP, fun hi => absurd hi (by show ¬ false = true; decide)⟩
section
variable {w0 w : World} {F : HP} {p y h : Nat} {s : dw} {x : Int}
theorem Vs (hin : s.inn = true) (hx : x ≠ 0) (H : V w0 w (ku y s • F)) : iM prog 31 #[.pointer (some ⟨y, 0, none⟩), .int .i64 x] w fun v w' => v = .int .i64 x ∧ V w0 w' (ku y s.Dk • F) := by
 refine qI func31 ntmps31 ?_
 refine kQ O (aO (aO ?_))
 obtain ⟨Js, yF, yG, yH, yI, AU, AV, Kv, AX, BR, AY, AZ, Ba, yJ, yK, yL, yM, yN, yO, yP, yQ, yR, yS, yT, yU, jO, qW, mF⟩ := (H).Ce
 have HI := mF
 rw [hin] at HI
 obtain ⟨qb, qk, qw, qn, qp, qg, qA, hu, hqA, hqP, hu1, HW⟩ := (HI.f12).ahQ
 simp only [Kt, List.cons.injEq, and_true] at hu
 obtain ⟨rfl, rfl, rfl, rfl, rfl, rfl, rfl, rfl, rfl, rfl, rfl, rfl⟩ := hu
 refine aA (mJ O O (bn 32 aJ O aQ O (fB cZ O (HW.f8).get.2 O (aW (mG O) (jd (Ip O (fun h1 => ?_)))))))
 (try simp only [aF] at h1)
 refine iy (bY O (dO O (bn 32 aJ O aQ O (aI (ni 32 HW.f8 aQ) ?_))))
 rintro _ w2 H2
 refine rV (bY O (aW (gy O O) (jv O (fun h2 => ?_) (fun h => by exfalso; (try simp only [aF] at h); exact hx h))))
 (try simp only [aF] at h2)
 refine bY O (mJ O O (bn 13 aJ O dH O (aW (sJ 13 (xs := [_, _, _, _, _, _, _, _, _, _, _, _]) bI O dH O O (H2).get.2 O) (dO O (bn 1 aJ O dH O (aI (dG 1 (l' := [_, _, _, _, _, _, _, _, _, _, _, _, _, _, _, _, _, _, _, _, _, _, _, _, _, _, _, _, _, _, _, _, _, _, _, _, _, _, _, _, _, _]) (us := [_, _, _, _, _, _, _, _, _, _, _, _]) H2 dH O O O (aG (aG (aY (by first | rfl | exact Rd.one ((H2.f4).oD)) (aY (by first | rfl | exact Rd.one ((H2.f5).aN)) (aG (aG (aY (by first | rfl | exact Rd.one ((H2.f6).jh)) (aY (by first | rfl | exact Rd.one ((H2.f7).oD)) (aG (aG (aG (aG bK)))))))))))) O O) ?_))))))
 rintro _ w3 H3
 refine ql O (dO O (bn 39 aJ O bG O (aI (ni 39 H3 bG) ?_)))
 rintro _ w4 H4
 refine ql O (dO O (bn 31 aJ O oQ O (fB pU O (H4).get.2 O (aW (adR O O) (dO O (bn 31 aJ O oQ O (aI (ni 31 H4 oQ) ?_)))))))
 rintro _ w5 H5
 refine ql O (jy O O (dO O (bn 25 aJ O aQ O (aI (ni 25 H5 aQ) ?_))))
 rintro _ w6 H6
 refine dO O (bn 26 aJ O aQ O (aI (ni 26 H6 aQ) ?_))
 rintro _ w7 H7
 refine dO O (bn 27 aJ O aj O (aI (ni 27 H7 aj) ?_))
 rintro _ w8 H8
 refine ql O (jy O O (dO O (bn 28 aJ O aj O (aI (ni 28 H8 aj) ?_))))
 rintro _ w9 H9
 refine dO O (bn 29 aJ O aj O (aI (ni 29 H9 aj) ?_))
 rintro _ w10 sF
 refine dO O (bn 30 aJ O aj O (aI (ni 30 sF aj) ?_))
 rintro _ Iq sG
 refine ql O (dO O (bn 39 aJ O bG O (aI (ni 39 sG bG) ?_)))
 rintro _ w12 tN
 refine ql O (ig O (aC (fD results31 O ?_)))
 exact ⟨O, V.Yt (s := s.Dk) (jO.bad hin hqA hqP) O tN.f9.right.f9.right.f9.right.f9.right.f9.right.f9.right.f9.right.f10.right.f10.right.f9.f9.f9.f9.f9.f9.f9.f9.f9 hu1⟩
theorem Vt (s : dw) : s.typed = (decide (s.cls = 3) && s.whole) := by unfold dw.typed; congr 1
theorem empty_eq (l : List kC) : (!l.isEmpty) = decide ((l.length : Int) > 0) := by cases l with
  | nil => rfl
  | cons x r => simp
theorem Ti (hin : s.inn = true) (H : V w0 w (ku y s • F)) : iM prog 31 #[.pointer (some ⟨y, 0, none⟩), .int .i64 0] w fun v w' => v = .int .i64 0 ∧ V w0 w' (ku y s.oJ • F) := by
  obtain ⟨on, hon⟩ : ∃ on, on = (s.typed && s.c.run) := ⟨_, rfl⟩
  obtain ⟨rn, hrn⟩ : ∃ rn, rn = (s.typed && (!s.put.isEmpty || s.c.run)) := ⟨_, rfl⟩
  have SN := hon
  have Ju := hrn
  rw [Vt] at SN Ju
  rw [empty_eq] at Ju
  refine qI func31 ntmps31 ?_
  obtain ⟨Js, yF, yG, yH, yI, AU, AV, Kv, AX, BR, AY, AZ, Ba, yJ, yK, yL, yM, yN, yO, yP, yQ, yR, yS, yT, yU, jO, qW, mF⟩ := (H).Ce
  have HP9 := mF
  rw [← qW] at HP9
  have abT := jO.EN
  have hplA := jO.placed
  have Xk := jO.says
  have aeS := jO.ok
  have hxA := jO.rx.1
  have aeT : s.hl.length ≤ 4096 := by obtain ⟨hv9, hk9, _⟩ := (HP9.f9).CV; exact hk9.1
  have hu1 := Zt (HP9.f12)
  refine kQ O (aO (bY O (dO O (bn 32 aJ O aQ O (fB cZ O (HP9).get.2 O (aW (mG O) (jv O (fun h => by exfalso; (try simp only [aF] at h); simp [hin] at h) (fun h1 => ?_))))))))
  (try simp only [aF] at h1)
  refine iy (bY O (dO O (bn 32 aJ O aQ O (aI (ni 32 HP9 aQ) ?_))))
  rintro _ w2 H2
  refine rV (bY O (aW (gy O O) (jd (Ip O (fun h2 => ?_)))))
  (try simp only [aF] at h2)
  refine iy (bY O (dO O (bn 33 aJ O aj O (fB aB O (H2).get.2 O (aW (kP O O) (iP O (bY O (dO O (bn 39 aJ O bG O (fB aV O (H2).get.2 O (aW (fV ((H2.f10).aN) aV O) (aW (iT O O) (iP O ?_)))))))))))))
  refine rU [(0, _), (5, _), (6, _)] (fun (_ : Unit) => []) (fun (_ : Unit) W => ∃ pv2 gv2 A2 nw2, EN A2 = (s.fM on).c.un ∧ zx s.hl A2 ∧ V w0 W (eF y (.cells (.pointer (some ⟨Js, 0, none⟩) :: .pointer (some ⟨yF, 0, none⟩) :: .pointer (some ⟨yG, 0, none⟩) :: yH :: yI :: .int .i64 s.c.place :: .string (dR s.hl s.c.tx s.c.place) :: pv2 :: gv2 :: .int .i64 s.c.mode :: .bool s.c.over :: .int .i64 s.c.res :: .bool s.c.run :: yJ :: yK :: yL :: yM :: yN :: yO :: yP :: yQ :: yR :: yS :: yT :: yU :: .bool s.given :: .bool s.minus :: .int .i64 s.arg :: .int .i64 s.zV :: .int .i64 s.UA :: .int .i64 s.UC :: .int .i64 s.sK :: .bool false :: .int .i64 s.cls :: .int .i64 AY :: .int .i64 AZ :: .bool s.argues :: .bool s.nV :: .bool s.lY :: nw2 :: .bool s.whole :: .bool Ba :: []).toArray 98 (0, 0)) • nS .i64 pv2 (A2.map (·.1)) • uQ 1 gv2 A2.length (A2.map (·.2.1)) • tq A2 • Row 183 3 nw2 0 [] • nX [] • kJ yF s.c.L s.c.pt s.c.mark • mD yG s.c.E s.c.at_ • uQ 1 yH (s.hl.length + 1) (strs (nP s.hl)) • Row 9 1 yI (s.hl.length + 1) (strs (mW s.hl s.c.tx)) • iW Js s.hl s.base s.most • DV s.inn s.hl s.was [yJ, yK, yL, yM, yN, yO, yP, yQ, yR, yS, yT, yU] • F)) Du ?_ ?_
  · rintro _ w3 ⟨pv2, gv2, A2, nw2, hl2, hp2, HJ⟩
    dsimp only [List.cons_append, List.nil_append]
    refine rU [(0, _)] (fun (_ : Unit) => []) (fun (_ : Unit) W => V w0 W (eF y (.cells (.pointer (some ⟨Js, 0, none⟩) :: .pointer (some ⟨yF, 0, none⟩) :: .pointer (some ⟨yG, 0, none⟩) :: yH :: yI :: .int .i64 s.c.place :: .string (dR s.hl s.c.tx s.c.place) :: pv2 :: gv2 :: .int .i64 s.c.mode :: .bool s.c.over :: .int .i64 s.c.res :: .bool rn :: yJ :: yK :: yL :: yM :: yN :: yO :: yP :: yQ :: yR :: yS :: yT :: yU :: .bool s.given :: .bool s.minus :: .int .i64 s.arg :: .int .i64 s.zV :: .int .i64 s.UA :: .int .i64 s.UC :: .int .i64 s.sK :: .bool false :: .int .i64 s.cls :: .int .i64 AY :: .int .i64 AZ :: .bool s.argues :: .bool s.nV :: .bool s.lY :: nw2 :: .bool s.whole :: .bool Ba :: []).toArray 98 (0, 0)) • nS .i64 pv2 (A2.map (·.1)) • uQ 1 gv2 A2.length (A2.map (·.2.1)) • tq A2 • Row 183 3 nw2 0 [] • nX [] • kJ yF s.c.L s.c.pt s.c.mark • mD yG s.c.E s.c.at_ • uQ 1 yH (s.hl.length + 1) (strs (nP s.hl)) • Row 9 1 yI (s.hl.length + 1) (strs (mW s.hl s.c.tx)) • iW Js s.hl s.base s.most • DV s.inn s.hl s.was [yJ, yK, yL, yM, yN, yO, yP, yQ, yR, yS, yT, yU] • F)) oO ?_ ?_
    · rintro _ w4 HJ2
      dsimp only [List.cons_append, List.nil_append]
      refine bY O (jy O O (mJ O O (bn 33 aJ O aj O (fB aB O (HJ2).get.2 O (dO O (bn 28 aJ O aj O (aI (ni 28 HJ2 aj) ?_)))))))
      rintro _ w5 H5
      refine dO O (bn 29 aJ O aj O (aI (ni 29 H5 aj) ?_))
      rintro _ w6 H6
      refine dO O (bn 30 aJ O aj O (aI (ni 30 H6 aj) ?_))
      rintro _ w7 H7
      refine rV (bY O (dO O (bn 33 aJ O aj O (fB aB O (H7).get.2 O (aW (kP O O) (jv O (fun h3 => ?_) (fun h3 => ?_)))))))
      · (try simp only [aF] at h3)
        have hcT : s.cls = 2 := h3
        obtain ⟨rfl, rfl⟩ := jO.L9 hin (jO.rx.2.2 hin hcT)
        have adK := H7.drew
        have zy := V.kp (adK.f12.f12.f12.f12.f12.f12.f12.f12.f12.f12.f12.f12)
        refine uU [5, 9] zy O (gQ 0 O zy O (gQ 1 O zy O (gQ 2 O zy O (jQ 3 O zy O (fQ 4 O zy 34 aJ O aj O (iO 5 O zy (fun W hW => jT aB O ((Kp.h hW)).get.2 O) (gQ 6 O zy O (jQ 7 O zy O (fQ 8 O zy 35 aJ O aj O (iO 9 O zy (fun W hW => jT aB O ((Kp.h hW)).get.2 O) (jQ 10 O zy O (fQ 11 O zy 29 aJ O aj O ?_))))))))))))
        refine gU 12 O (by kernel_rfl) (ni 29 adK aj) ?_
        rintro _ w8 H8
        have LK := V.kp (H8.f12.f12.f12.f12.f12.f12.f12.f12.f12.f12.f12.f12)
        refine fH LK (by kernel_rfl) ?_
        refine jQ 13 O LK O (fQ 14 O LK 30 aJ O aj O ?_)
        refine gU 15 O (by kernel_rfl) (ni 30 H8 aj) ?_
        rintro _ w9 H9
        have Gi := V.kp (H9.f12.f12.f12.f12.f12.f12.f12.f12.f12.f12.f12.f12)
        refine fH Gi (by kernel_rfl) ?_
        refine qj (aZ (aO (bY O (dO O (bn 36 aJ O aQ O (fB cZ O (H9).get.2 O (aW (mG O) (jv O (fun h4 => ?_) (fun h4 => ?_)))))))))
        · (try simp only [aF] at h4)
          have haF : ¬ s.argues = true := by simp_all
          refine aA (jy O O (mJ O O (bn 25 aJ O aQ O (aI (ni 25 H9 aQ) ?_))))
          rintro _ w10 sF
          refine dO O (bn 26 aJ O aQ O (aI (ni 26 sF aQ) ?_))
          rintro _ Iq sG
          refine dO O (bn 27 aJ O aj O (aI (ni 27 sG aj) ?_))
          rintro _ w12 tN
          refine jd (mP O (fD results31 O ?_))
          refine ⟨O, ?_⟩
          rw [hon] at hl2
          have hG := jO.good hl2 hp2
          rw [Aa] at hG ⊢
          have HX := tN.f12.right.f6.f6.f11.f7.f7.f7.f11.f11.f11.f11.f11
          have WX := HX.Jp (hl := s.hl) (c := s.was) hu1
          have HX3 := WX.f12.f12.f12.f12.f12.f12.f12.f12.f12.f12.f12
          first | simp only [if_pos hcT] at hG ⊢ | simp only [if_neg hcF] at hG ⊢
          first | simp only [if_pos haT] at hG ⊢ | simp only [if_neg haF] at hG ⊢
          rw [← hrn] at hG ⊢
          exact V.mV hG HX3
        · (try simp only [aF] at h4)
          have haT : s.argues = true := by simp_all
          refine iy (mP O (fD results31 O ?_))
          refine ⟨O, ?_⟩
          rw [hon] at hl2
          have hG := jO.good hl2 hp2
          rw [Aa] at hG ⊢
          have HX := H9.f12.right.f6.f6.f11.f7.f7.f7.f11.f11.f11.f11.f11
          have WX := HX.Jp (hl := s.hl) (c := s.was) hu1
          have HX3 := WX.f12.f12.f12.f12.f12.f12.f12.f12.f12.f12.f12
          first | simp only [if_pos hcT] at hG ⊢ | simp only [if_neg hcF] at hG ⊢
          first | simp only [if_pos haT] at hG ⊢ | simp only [if_neg haF] at hG ⊢
          rw [← hrn] at hG ⊢
          exact V.mV hG HX3
      · (try simp only [aF] at h3)
        have hcF : ¬ s.cls = 2 := h3
        refine iy (aO (bY O (dO O (bn 36 aJ O aQ O (fB cZ O (H7).get.2 O (aW (mG O) (jv O (fun h5 => ?_) (fun h5 => ?_))))))))
        · (try simp only [aF] at h5)
          have haF : ¬ s.argues = true := by simp_all
          refine aA (jy O O (mJ O O (bn 25 aJ O aQ O (aI (ni 25 H7 aQ) ?_))))
          rintro _ Qz Ak
          refine dO O (bn 26 aJ O aQ O (aI (ni 26 Ak aQ) ?_))
          rintro _ TL Dh
          refine dO O (bn 27 aJ O aj O (aI (ni 27 Dh aj) ?_))
          rintro _ Ws CG
          refine jd (mP O (fD results31 O ?_))
          refine ⟨O, ?_⟩
          rw [hon] at hl2
          have hG := jO.good hl2 hp2
          rw [Aa] at hG ⊢
          have HX := CG.f12.right.f6.f6.f11.f7.f7.f7.f11.f11.f11.f11.f11
          have WX := HX.Jp (hl := s.hl) (c := s.was) hu1
          have HX3 := WX.f12.f12.f12.f12.f12.f12.f12.f12.f12.f12.f12
          first | simp only [if_pos hcT] at hG ⊢ | simp only [if_neg hcF] at hG ⊢
          first | simp only [if_pos haT] at hG ⊢ | simp only [if_neg haF] at hG ⊢
          rw [← hrn] at hG ⊢
          exact V.mV hG HX3
        · (try simp only [aF] at h5)
          have haT : s.argues = true := by simp_all
          refine iy (mP O (fD results31 O ?_))
          refine ⟨O, ?_⟩
          rw [hon] at hl2
          have hG := jO.good hl2 hp2
          rw [Aa] at hG ⊢
          have HX := H7.f12.right.f6.f6.f11.f7.f7.f7.f11.f11.f11.f11.f11
          have WX := HX.Jp (hl := s.hl) (c := s.was) hu1
          have HX3 := WX.f12.f12.f12.f12.f12.f12.f12.f12.f12.f12.f12
          first | simp only [if_pos hcT] at hG ⊢ | simp only [if_neg hcF] at hG ⊢
          first | simp only [if_pos haT] at hG ⊢ | simp only [if_neg haF] at hG ⊢
          rw [← hrn] at hG ⊢
          exact V.mV hG HX3
    · skip
      refine aA (jy O O (mX O (fun h6 => ?_) (fun h6 => ?_)))
      · (try simp only [aF] at h6)
        refine bW (bT O (bW (dO O (bW (bn 40 aJ O aQ O (bW (fB cZ O (HJ).get.2 O (nZ O O (mX O (fun h7 => ?_) (fun h7 => ?_))))))))))
        · (try simp only [aF] at h7)
          refine bW (bT O (bW (mX O (fun h8 => ?_) (fun h8 => ?_))))
          · (try simp only [aF] at h8)
            refine dF (dF (dF (dF (dF (bW (nZ O O (nZ O O (dO O (bn 1 aJ O dH O (bn 11 bI O aQ O (aI (ni 12 HJ aQ) ?_)))))))))))
            rintro _ w16 yj
            refine bZ ?_
            refine gB (()) ?_ ?_ ?_
            · exact (Sub.nil _)
            · exact oO
            · (try dsimp only)
              first | done | exact (by first | (rw [show rn = true from by rw [Ju]; simp_all; done]; exact yj.f12.f12.f12.f12.f12.f12.f12.f12.f12.f12.f12.f12) | (rw [show rn = false from by rw [Ju]; simp_all; done]; exact yj.f12.f12.f12.f12.f12.f12.f12.f12.f12.f12.f12.f12) | (rw [show rn = s.c.run from by rw [Ju]; simp_all; done]; exact yj.f12.f12.f12.f12.f12.f12.f12.f12.f12.f12.f12.f12))
          · (try simp only [aF] at h8)
            refine bW (bT O (bW (dO O (bW (bn 1 aJ O dH O (bW (bn 11 bI O aQ O (bW (fB cZ O (HJ).get.2 O (bW (kX O O (nZ O O (dO O (bn 1 aJ O dH O (bn 11 bI O aQ O (aI (ni 12 HJ aQ) ?_))))))))))))))))
            rintro _ w17 EH
            refine bZ ?_
            refine gB (()) ?_ ?_ ?_
            · exact (Sub.nil _)
            · exact oO
            · (try dsimp only)
              first | done | exact (by first | (rw [show rn = true from by rw [Ju]; simp_all; done]; exact EH.f12.f12.f12.f12.f12.f12.f12.f12.f12.f12.f12.f12) | (rw [show rn = false from by rw [Ju]; simp_all; done]; exact EH.f12.f12.f12.f12.f12.f12.f12.f12.f12.f12.f12.f12) | (rw [show rn = s.c.run from by rw [Ju]; simp_all; done]; exact EH.f12.f12.f12.f12.f12.f12.f12.f12.f12.f12.f12.f12))
        · (try simp only [aF] at h7)
          refine dF (dF (uT (uT (uT (uT (uT (dF (kX O O (dO O (bn 1 aJ O dH O (bn 11 bI O aQ O (aI (ni 12 HJ aQ) ?_))))))))))))
          rintro _ ZN EM
          refine bZ ?_
          refine gB (()) ?_ ?_ ?_
          · exact (Sub.nil _)
          · exact oO
          · (try dsimp only)
            first | done | exact (by first | (rw [show rn = true from by rw [Ju]; simp_all; done]; exact EM.f12.f12.f12.f12.f12.f12.f12.f12.f12.f12.f12.f12) | (rw [show rn = false from by rw [Ju]; simp_all; done]; exact EM.f12.f12.f12.f12.f12.f12.f12.f12.f12.f12.f12.f12) | (rw [show rn = s.c.run from by rw [Ju]; simp_all; done]; exact EM.f12.f12.f12.f12.f12.f12.f12.f12.f12.f12.f12.f12))
      · (try simp only [aF] at h6)
        refine dF (dF (dF (dF (kX O O (bT O (dF (dF (uT (uT (uT (uT (uT (dF (kX O O (dO O (bn 1 aJ O dH O (bn 11 bI O aQ O (aI (ni 12 HJ aQ) ?_))))))))))))))))))
        rintro _ ZO DY
        refine bZ ?_
        refine gB (()) ?_ ?_ ?_
        · exact (Sub.nil _)
        · exact oO
        · (try dsimp only)
          first | done | exact (by first | (rw [show rn = true from by rw [Ju]; simp_all; done]; exact DY.f12.f12.f12.f12.f12.f12.f12.f12.f12.f12.f12.f12) | (rw [show rn = false from by rw [Ju]; simp_all; done]; exact DY.f12.f12.f12.f12.f12.f12.f12.f12.f12.f12.f12.f12) | (rw [show rn = s.c.run from by rw [Ju]; simp_all; done]; exact DY.f12.f12.f12.f12.f12.f12.f12.f12.f12.f12.f12.f12))
  · skip
    refine aA (jy O O (mX O (fun h9 => ?_) (fun h9 => ?_)))
    · (try simp only [aF] at h9)
      refine bW (bT O (bW (dO O (bW (bn 40 aJ O aQ O (bW (fB cZ O (H2).get.2 O (nZ O O (mX O (fun h10 => ?_) (fun h10 => ?_))))))))))
      · (try simp only [aF] at h10)
        refine bW (bT O (bW (dO O (bW (bn 1 aJ O dH O (bW (bn 11 bI O aQ O (bW (fB cZ O (H2).get.2 O (nZ O O (fE O func73 (Bc abT hplA Xk aeS hxA aeT H2.f11.f11.f10.f10.f10.f6) ?_)))))))))))
        rintro _ YT ⟨ajw, ajx, A20, ajy, aeU, agq, EI⟩
        have FI := aeU
        have abU := agq
        first
          | rw [show s.c.run = on from by rw [SN]; simp_all] at FI
          | rw [show false = on from by rw [SN]; simp_all] at FI
        refine bZ ?_
        refine gB (()) ?_ ?_ ?_
        · exact (Sub.nil _)
        · exact Du
        · (try dsimp only)
          first | done | exact ⟨_, _, _, _, FI, abU, EI.f12.f12.f12.f12.f12.f12.f12.f12.f12.f12.f12.f12⟩
      · (try simp only [aF] at h10)
        refine dF (dF (dF (dF (dF (kX O O (fE O func73 (Bc abT hplA Xk aeS hxA aeT H2.f11.f11.f10.f10.f10.f6) ?_))))))
        rintro _ YU ⟨ajz, ajA, A21, ajB, aeV, agr, wG⟩
        have FI := aeV
        have abU := agr
        first
          | rw [show s.c.run = on from by rw [SN]; simp_all] at FI
          | rw [show false = on from by rw [SN]; simp_all] at FI
        refine bZ ?_
        refine gB (()) ?_ ?_ ?_
        · exact (Sub.nil _)
        · exact Du
        · (try dsimp only)
          first | done | exact ⟨_, _, _, _, FI, abU, wG.f12.f12.f12.f12.f12.f12.f12.f12.f12.f12.f12.f12⟩
    · (try simp only [aF] at h9)
      refine dF (dF (dF (dF (kX O O (bT O (dF (dF (dF (dF (dF (kX O O (fE O func73 (Bc abT hplA Xk aeS hxA aeT H2.f11.f11.f10.f10.f10.f6) ?_))))))))))))
      rintro _ w22 ⟨ajC, ajD, A22, ajE, aeW, ags, IQ⟩
      have FI := aeW
      have abU := ags
      first
        | rw [show s.c.run = on from by rw [SN]; simp_all] at FI
        | rw [show false = on from by rw [SN]; simp_all] at FI
      refine bZ ?_
      refine gB (()) ?_ ?_ ?_
      · exact (Sub.nil _)
      · exact Du
      · (try dsimp only)
        first | done | exact ⟨_, _, _, _, FI, abU, IQ.f12.f12.f12.f12.f12.f12.f12.f12.f12.f12.f12.f12⟩
theorem FK (H : V w0 w (ku y s • F)) : iM prog 31 #[.pointer (some ⟨y, 0, none⟩), .int .i64 x] w fun v w' => v = .int .i64 (s.EK x) ∧ V w0 w' (ku y (s.uy x) • F) := by
 by_cases hin : s.inn = true
 ·by_cases hx : x = 0
  ·subst hx
   rw [show s.uy 0 = s.oJ from by unfold dw.uy; rw [if_pos hin, if_pos rfl], show s.EK 0 = 0 from by unfold dw.EK; rw [if_pos hin]]
   exact Ti hin H
  ·rw [(FY hin hx).1, (FY hin hx).2]
   exact Vs hin hx H
 ·have hin' : s.inn = false := by simpa using hin
  rw [show s.uy x = s from by unfold dw.uy; rw [if_neg hin], show s.EK x = 1 from by unfold dw.EK; rw [if_neg hin]]
  refine qI func31 ntmps31 ?_
  refine kQ O (aO (aO ?_))
  obtain ⟨Js, yF, yG, yH, yI, AU, AV, Kv, AX, BR, AY, AZ, Ba, yJ, yK, yL, yM, yN, yO, yP, yQ, yR, yS, yT, yU, jO, qW, mF⟩ := (H).Ce
  refine aA (mJ O O (bn 32 aJ O aQ O (fB cZ O (mF).get.2 O (aW (mG O) (jv O (fun h1 => ?_) (fun h => by exfalso; (try simp only [aF] at h); simp [hin'] at h))))))
  (try simp only [aF] at h1)
  refine mP O (aC (fD results31 O ?_))
  have PN := mF.f12.f12.f12.f12.f12.f12.f12.f12.f12.f12.f12.f12
  have LP := V.mV (s := s) jO PN
  exact ⟨O, LP⟩
end
end Go.Proofs.YtgofgnlkpeghcaaGreatDoor
end
