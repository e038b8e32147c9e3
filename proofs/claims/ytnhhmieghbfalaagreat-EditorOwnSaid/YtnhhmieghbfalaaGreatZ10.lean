import Derived.Test.YtnhhmieghbfalaaGreatZ4
import Derived.Test.YtnhhmieghbfalaaGreatZ9
import Derived.Test.YtnhhmieghbfalaaGreatZ3
set_option linter.unusedSimpArgs false
set_option linter.unusedVariables false
/- Texts of mine, joined, their names in short: EdB EdC EdMv EdR. -/
section
namespace Go.Proofs.YtnhhmieghbfalaaGreat
open Go.RowKit
open _root_.Go.Proofs.Tryz
section
variable {w0 w : World} {F : HP} {e p h pr : Nat} {s : bP} {hl : List o7} {base most m : Int} {v : Value} {l : List Int}
theorem V.xM {b : Nat} (H : V w0 w (jM uy b (fun _ => none) • F)) : V w0 w (yC b (fun _ => []) • F) :=
  V.D7 (D := []) (P := fun _ => 0) List.nodup_nil (fun _ _ => rfl) (by rw [Vp]; exact H.of_eq (by show _ = (_ • emp • _); rw [YtnhhmieghbfalaaGreat.qM]))
set_option maxHeartbeats 1000000 in
theorem Nk {x0 x2 x3 x5 x6 x7 x8 x9 x10 x11 x12 tZ x14 x15 x16 x17 x18 x19 x20 x21 uD x23 x24 x25 uI x27 x28 x29 x30 x31 x32 vM : Value} {E : List (List Int)} {a : Nat} (H : V w0 w (eF e (.cells (x0 :: .pointer (some ⟨pr, 0, none⟩) :: x2 :: x3 :: .int .i64 m :: x5 :: x6 :: x7 :: x8 :: x9 :: x10 :: x11 :: x12 :: tZ :: x14 :: x15 :: x16 :: x17 :: x18 :: x19 :: x20 :: x21 :: uD :: x23 :: x24 :: x25 :: uI :: x27 :: x28 :: x29 :: x30 :: x31 :: x32 :: vM :: []).toArray 71 (0, 0)) • iP h hl base most • F)) (hr : jY w0 F .i32 v l) (hshort : l.length ≤ 1024) :
  iQ prog 70 #[.pointer (some ⟨e, 0, none⟩), .pointer (some ⟨h, 0, none⟩), v] w fun _ w' => ∃ pb pw pt pm ph, V w0 w' (eF e (.cells (.pointer (some ⟨pb, 0, none⟩) :: .pointer (some ⟨pr, 0, none⟩) :: .pointer (some ⟨pw, 0, none⟩) :: .map (some pm) :: .int .i64 m :: .bool false :: .int .i64 0 :: .int .i64 0 :: .int .i64 0 :: .int .i64 0 :: .bool false :: .pointer (some ⟨ph, 0, none⟩) :: x12 :: .bool false :: .bool false :: .int .i64 (-1) :: x16 :: x17 :: x18 :: x19 :: x20 :: x21 :: uD :: x23 :: x24 :: x25 :: uI :: x27 :: x28 :: x29 :: x30 :: x31 :: x32 :: vM :: []).toArray 71 (0, 0)) •
   jo pb l l.length (-1) • eF pw (.cells #[.int .i64 hl.length, .map (some pt)] 97 (0, 0)) • jM uy pt (fun _ => none) • yC pm (fun _ => []) • iP ph hl base most • iP h hl base most • F) := by
 refine ET func70 ntmps70 ?_
 refine bY O (fO O func111 (QH H (fun W HW => hr _ (HW.right.right)) hshort) ?_)
 rintro _ w1 ⟨p1, rfl, H1⟩
 refine dn O (xZ O O (xZ O O (oD O (jZ O (bY O (dn O (fO O func51 (y9 H1.f3) ?_)))))))
 rintro _ w2 ⟨q2, rfl, H2⟩
 refine dA O (Z 11 aj O sizeOf45 O (aC (fU 11 H2.f4 sizeOf45) ?_))
 rintro _ w3 H3
 refine qJ ?_
 have aax := H3.drew
 have zZ := V.kp (aax.f3.right.f3.f3.f3)
 refine wL [6, 17] zZ O (gK 0 O zZ O (gK 1 O zZ O (gK 2 O zZ O (jL 3 O zZ O (fH 4 O zZ 0 aj O aU O (fH 5 O zZ 1 aJ O sizeOf63 O (iY 6 O zZ (fun W hW => jQ underlying63 O ((Kp.h hW)).get.2 O) (gK 7 O zZ O (gK 13 O zZ O (jL 14 O zZ O (fH 15 O zZ 0 aj O aU O (fH 16 O zZ 4 aJ O ah O (iY 17 O zZ (fun W hW => jQ ay O ((Kp.h hW)).get.2 O) ?_)))))))))))))
 refine XG (i := 8) (j := 9) (k := 12) (by kernel_rfl) ?_ ?_ ?_
 ·skip
  refine lC 8 O (by kernel_rfl) (oJ (oQ O func97 O O) (ru aax.f3)) (nD O) ?_
  rintro _ w4 ⟨rfl, H4⟩
  have xR := V.kp (H4.f4.f4.f4.f4)
  refine dV xR (fun W hW => (Kp.h hW).right.f3.f3.f3) ?_
  refine yZ (i := 9) (j := 12) (by kernel_rfl) ?_ ?_
  ·skip
   refine lC 9 O (by kernel_rfl) (oI (Eo .i64) H4) (nD O) ?_
   rintro _ w5 ⟨b5, rfl, H5⟩
   have En := V.kp (H5.f5.f5.f5.f5.f5)
   refine dV En (fun W hW => (Kp.h hW).right.f4.f4.f4.f4) ?_
   refine jR 10 O En (fun _ => fC (zl := [.int .i64 0, .map none]) (pl := [(0, 1), (1, 1)]) [_, _] iG zeroValue97 O (fun w => by kernel_rfl) O (.on (.on .nil)) O) ?_
   refine yZ (i := 11) (j := 12) (by kernel_rfl) ?_ ?_
   ·skip
    refine lC 11 O (by kernel_rfl) (kC (l := [_, _]) H5 O O) (nD O) ?_
    rintro _ w6 ⟨b6, rfl, H6⟩
    have CQ := V.kp (H6.f6.f6.f6.f6.f6.f6)
    refine dV CQ (fun W hW => (Kp.h hW).right.f5.f5.f5.f5.f5) ?_
    refine lU 12 O (oI (Eo .i64) H6) ?_
    rintro _ w7 ⟨b7, rfl, H7⟩
    have xU := V.kp (H7.f7.f7.f7.f7.f7.f7.f7)
    refine dV xU (fun W hW => (Kp.h hW).right.f6.f6.f6.f6.f6.f6) ?_
    refine jR 18 O xU (fun _ => fC (zl := [.pointer none, .pointer none, .pointer none, .map none, .int .i64 0, .bool false, .int .i64 0, .int .i64 0, .int .i64 0, .int .i64 0, .bool false]) (pl := [(0, 1), (1, 1), (2, 1), (3, 1), (4, 1), (5, 1), (6, 1), (7, 1), (8, 1), (9, 1), (10, 1)]) [_, _, _, _, _, _, _, _, _, _, _] aJ oW O (fun w => by kernel_rfl) O (.on (.on (.on (.on (.on (.zero (zs := [.bool false]) O (.zero (zs := [.int .i64 0]) O (.zero (zs := [.int .i64 0]) O (.zero (zs := [.int .i64 0]) O (.zero (zs := [.int .i64 0]) O (.zero (zs := [.bool false]) O .nil))))))))))) O) ?_
    refine jL 19 O xU O (fH 20 O xU 0 aj O aU O ?_)
    refine gJ 21 O (by kernel_rfl) (dD 0 (l' := [_, _, _, _, _, _, _, _, _, _, _, _, _, _, _, _, _, _, _, _, _, _, _, _, _, _, _, _, _, _, _, _, _, _]) (us := [_, _, _, _, _, _, _, _, _, _, _]) H7.f5 aU O O O (aH (aH (aH (aH (aH (aH (aH (aH (aH (aH (aH bG))))))))))) O O) ?_
    rintro _ w8 H8
    have Jp := V.kp (H8.f7.f7.f7.f7.f7.f7.f7)
    refine fG Jp (by kernel_rfl) ?_
    refine qN (bC (aB (jw O O (lM O O (Z 13 aj O aN O (aC (fU 13 H8 aN) ?_))))))
    rintro _ w9 H9
    refine dA O (Z 14 aj O aN O (aC (fU 14 H9 aN) ?_))
    rintro _ w10 rD
    refine dA O (Z 15 aj O ah O (aC (fU 15 rD ah) ?_))
    rintro _ Hr rX
    refine cO (kG (.inr O) results70 ?_)
    have Uy := rX.f2
    have Uz := Uy.xM
    exact ⟨_, _, _, _, _, Uz.f5.f6.f3.f6.f6.f7.f7⟩
   ·skip
    refine lC 12 O (by kernel_rfl) (oI (Eo .i64) H5) (nD O) ?_
    rintro _ Qu ⟨b14, rfl, AL⟩
    have FY := V.kp (AL.f6.f6.f6.f6.f6.f6)
    refine dV FY (fun W hW => (Kp.h hW).right.f5.f5.f5.f5.f5) ?_
    refine lU 11 O (kC (l := [_, _]) AL O O) ?_
    rintro _ TD ⟨b15, rfl, Bz⟩
    have Cm := V.kp (Bz.f7.f7.f7.f7.f7.f7.f7)
    refine dV Cm (fun W hW => (Kp.h hW).right.f6.f6.f6.f6.f6.f6) ?_
    refine jR 18 O Cm (fun _ => fC (zl := [.pointer none, .pointer none, .pointer none, .map none, .int .i64 0, .bool false, .int .i64 0, .int .i64 0, .int .i64 0, .int .i64 0, .bool false]) (pl := [(0, 1), (1, 1), (2, 1), (3, 1), (4, 1), (5, 1), (6, 1), (7, 1), (8, 1), (9, 1), (10, 1)]) [_, _, _, _, _, _, _, _, _, _, _] aJ oW O (fun w => by kernel_rfl) O (.on (.on (.on (.on (.on (.zero (zs := [.bool false]) O (.zero (zs := [.int .i64 0]) O (.zero (zs := [.int .i64 0]) O (.zero (zs := [.int .i64 0]) O (.zero (zs := [.int .i64 0]) O (.zero (zs := [.bool false]) O .nil))))))))))) O) ?_
    refine jL 19 O Cm O (fH 20 O Cm 0 aj O aU O ?_)
    refine gJ 21 O (by kernel_rfl) (dD 0 (l' := [_, _, _, _, _, _, _, _, _, _, _, _, _, _, _, _, _, _, _, _, _, _, _, _, _, _, _, _, _, _, _, _, _, _]) (us := [_, _, _, _, _, _, _, _, _, _, _]) Bz.f5 aU O O O (aH (aH (aH (aH (aH (aH (aH (aH (aH (aH (aH bG))))))))))) O O) ?_
    rintro _ w16 wE
    have KU := V.kp (wE.f7.f7.f7.f7.f7.f7.f7)
    refine fG KU (by kernel_rfl) ?_
    refine qN (bC (aB (jw O O (lM O O (Z 13 aj O aN O (aC (fU 13 wE aN) ?_))))))
    rintro _ ZQ Dh
    refine dA O (Z 14 aj O aN O (aC (fU 14 Dh aN) ?_))
    rintro _ Xv Ef
    refine dA O (Z 15 aj O ah O (aC (fU 15 Ef ah) ?_))
    rintro _ Xw zN
    refine cO (kG (.inr O) results70 ?_)
    have abV := zN.f3
    have Yq := abV.xM
    exact ⟨_, _, _, _, _, Yq.f5.f6.f3.f6.f6.f7.f7⟩
  ·skip
   refine lC 12 O (by kernel_rfl) (oI (Eo .i64) H4) (nD O) ?_
   rintro _ w22 ⟨b22, rfl, FN⟩
   have Gf := V.kp (FN.f5.f5.f5.f5.f5)
   refine dV Gf (fun W hW => (Kp.h hW).right.f4.f4.f4.f4) ?_
   refine lU 9 O (oI (Eo .i64) FN) ?_
   rintro _ ZR ⟨b23, rfl, BA⟩
   have CG := V.kp (BA.f6.f6.f6.f6.f6.f6)
   refine dV CG (fun W hW => (Kp.h hW).right.f5.f5.f5.f5.f5) ?_
   refine jR 10 O CG (fun _ => fC (zl := [.int .i64 0, .map none]) (pl := [(0, 1), (1, 1)]) [_, _] iG zeroValue97 O (fun w => by kernel_rfl) O (.on (.on .nil)) O) ?_
   refine lU 11 O (kC (l := [_, _]) BA O O) ?_
   rintro _ w24 ⟨b24, rfl, JD⟩
   have Dz := V.kp (JD.f7.f7.f7.f7.f7.f7.f7)
   refine dV Dz (fun W hW => (Kp.h hW).right.f6.f6.f6.f6.f6.f6) ?_
   refine jR 18 O Dz (fun _ => fC (zl := [.pointer none, .pointer none, .pointer none, .map none, .int .i64 0, .bool false, .int .i64 0, .int .i64 0, .int .i64 0, .int .i64 0, .bool false]) (pl := [(0, 1), (1, 1), (2, 1), (3, 1), (4, 1), (5, 1), (6, 1), (7, 1), (8, 1), (9, 1), (10, 1)]) [_, _, _, _, _, _, _, _, _, _, _] aJ oW O (fun w => by kernel_rfl) O (.on (.on (.on (.on (.on (.zero (zs := [.bool false]) O (.zero (zs := [.int .i64 0]) O (.zero (zs := [.int .i64 0]) O (.zero (zs := [.int .i64 0]) O (.zero (zs := [.int .i64 0]) O (.zero (zs := [.bool false]) O .nil))))))))))) O) ?_
   refine jL 19 O Dz O (fH 20 O Dz 0 aj O aU O ?_)
   refine gJ 21 O (by kernel_rfl) (dD 0 (l' := [_, _, _, _, _, _, _, _, _, _, _, _, _, _, _, _, _, _, _, _, _, _, _, _, _, _, _, _, _, _, _, _, _, _]) (us := [_, _, _, _, _, _, _, _, _, _, _]) JD.f5 aU O O O (aH (aH (aH (aH (aH (aH (aH (aH (aH (aH (aH bG))))))))))) O O) ?_
   rintro _ w25 JE
   have EF := V.kp (JE.f7.f7.f7.f7.f7.f7.f7)
   refine fG EF (by kernel_rfl) ?_
   refine qN (bC (aB (jw O O (lM O O (Z 13 aj O aN O (aC (fU 13 JE aN) ?_))))))
   rintro _ w26 EW
   refine dA O (Z 14 aj O aN O (aC (fU 14 EW aN) ?_))
   rintro _ w27 FP
   refine dA O (Z 15 aj O ah O (aC (fU 15 FP ah) ?_))
   rintro _ w28 MR
   refine cO (kG (.inr O) results70 ?_)
   have abW := MR.f4
   have abX := abW.xM
   exact ⟨_, _, _, _, _, abX.f5.f6.f3.f6.f6.f7.f7⟩
 ·skip
  refine lC 9 O (by kernel_rfl) (oI (Eo .i64) aax) (nD O) ?_
  rintro _ w31 ⟨b31, rfl, MS⟩
  have Yr := V.kp (MS.f4.right.f4.f4.f4.f4)
  refine dV Yr (fun W hW => (Kp.h hW).right.f3.f3.f3) ?_
  refine yZ (i := 8) (j := 12) (by kernel_rfl) ?_ ?_
  ·skip
   refine lC 8 O (by kernel_rfl) (oJ (oQ O func97 O O) (ru MS.f4)) (nD O) ?_
   rintro _ w32 ⟨rfl, Ht⟩
   have Vr := V.kp (Ht.f5.f5.f5.f5.f5)
   refine dV Vr (fun W hW => (Kp.h hW).right.f4.f4.f4.f4) ?_
   refine jR 10 O Vr (fun _ => fC (zl := [.int .i64 0, .map none]) (pl := [(0, 1), (1, 1)]) [_, _] iG zeroValue97 O (fun w => by kernel_rfl) O (.on (.on .nil)) O) ?_
   refine yZ (i := 11) (j := 12) (by kernel_rfl) ?_ ?_
   ·skip
    refine lC 11 O (by kernel_rfl) (kC (l := [_, _]) Ht O O) (nD O) ?_
    rintro _ w33 ⟨b33, rfl, Pm⟩
    have Vs := V.kp (Pm.f6.f6.f6.f6.f6.f6)
    refine dV Vs (fun W hW => (Kp.h hW).right.f5.f5.f5.f5.f5) ?_
    refine lU 12 O (oI (Eo .i64) Pm) ?_
    rintro _ w34 ⟨b34, rfl, Lm⟩
    have Ot := V.kp (Lm.f7.f7.f7.f7.f7.f7.f7)
    refine dV Ot (fun W hW => (Kp.h hW).right.f6.f6.f6.f6.f6.f6) ?_
    refine jR 18 O Ot (fun _ => fC (zl := [.pointer none, .pointer none, .pointer none, .map none, .int .i64 0, .bool false, .int .i64 0, .int .i64 0, .int .i64 0, .int .i64 0, .bool false]) (pl := [(0, 1), (1, 1), (2, 1), (3, 1), (4, 1), (5, 1), (6, 1), (7, 1), (8, 1), (9, 1), (10, 1)]) [_, _, _, _, _, _, _, _, _, _, _] aJ oW O (fun w => by kernel_rfl) O (.on (.on (.on (.on (.on (.zero (zs := [.bool false]) O (.zero (zs := [.int .i64 0]) O (.zero (zs := [.int .i64 0]) O (.zero (zs := [.int .i64 0]) O (.zero (zs := [.int .i64 0]) O (.zero (zs := [.bool false]) O .nil))))))))))) O) ?_
    refine jL 19 O Ot O (fH 20 O Ot 0 aj O aU O ?_)
    refine gJ 21 O (by kernel_rfl) (dD 0 (l' := [_, _, _, _, _, _, _, _, _, _, _, _, _, _, _, _, _, _, _, _, _, _, _, _, _, _, _, _, _, _, _, _, _, _]) (us := [_, _, _, _, _, _, _, _, _, _, _]) Lm.f5 aU O O O (aH (aH (aH (aH (aH (aH (aH (aH (aH (aH (aH bG))))))))))) O O) ?_
    rintro _ w35 Ou
    have RD := V.kp (Ou.f7.f7.f7.f7.f7.f7.f7)
    refine fG RD (by kernel_rfl) ?_
    refine qN (bC (aB (jw O O (lM O O (Z 13 aj O aN O (aC (fU 13 Ou aN) ?_))))))
    rintro _ w36 UA
    refine dA O (Z 14 aj O aN O (aC (fU 14 UA aN) ?_))
    rintro _ w37 Lp
    refine dA O (Z 15 aj O ah O (aC (fU 15 Lp ah) ?_))
    rintro _ w38 Ov
    refine cO (kG (.inr O) results70 ?_)
    have aeT := Ov.f2
    have aeU := aeT.xM
    exact ⟨_, _, _, _, _, aeU.f4.f6.f3.f6.f6.f7.f7⟩
   ·skip
    refine lC 12 O (by kernel_rfl) (oI (Eo .i64) Ht) (nD O) ?_
    rintro _ w41 ⟨b41, rfl, Vt⟩
    have Ox := V.kp (Vt.f6.f6.f6.f6.f6.f6)
    refine dV Ox (fun W hW => (Kp.h hW).right.f5.f5.f5.f5.f5) ?_
    refine lU 11 O (kC (l := [_, _]) Vt O O) ?_
    rintro _ w42 ⟨b42, rfl, ZT⟩
    have Oy := V.kp (ZT.f7.f7.f7.f7.f7.f7.f7)
    refine dV Oy (fun W hW => (Kp.h hW).right.f6.f6.f6.f6.f6.f6) ?_
    refine jR 18 O Oy (fun _ => fC (zl := [.pointer none, .pointer none, .pointer none, .map none, .int .i64 0, .bool false, .int .i64 0, .int .i64 0, .int .i64 0, .int .i64 0, .bool false]) (pl := [(0, 1), (1, 1), (2, 1), (3, 1), (4, 1), (5, 1), (6, 1), (7, 1), (8, 1), (9, 1), (10, 1)]) [_, _, _, _, _, _, _, _, _, _, _] aJ oW O (fun w => by kernel_rfl) O (.on (.on (.on (.on (.on (.zero (zs := [.bool false]) O (.zero (zs := [.int .i64 0]) O (.zero (zs := [.int .i64 0]) O (.zero (zs := [.int .i64 0]) O (.zero (zs := [.int .i64 0]) O (.zero (zs := [.bool false]) O .nil))))))))))) O) ?_
    refine jL 19 O Oy O (fH 20 O Oy 0 aj O aU O ?_)
    refine gJ 21 O (by kernel_rfl) (dD 0 (l' := [_, _, _, _, _, _, _, _, _, _, _, _, _, _, _, _, _, _, _, _, _, _, _, _, _, _, _, _, _, _, _, _, _, _]) (us := [_, _, _, _, _, _, _, _, _, _, _]) ZT.f5 aU O O O (aH (aH (aH (aH (aH (aH (aH (aH (aH (aH (aH bG))))))))))) O O) ?_
    rintro _ w43 WB
    have Yt := V.kp (WB.f7.f7.f7.f7.f7.f7.f7)
    refine fG Yt (by kernel_rfl) ?_
    refine qN (bC (aB (jw O O (lM O O (Z 13 aj O aN O (aC (fU 13 WB aN) ?_))))))
    rintro _ w44 Qv
    refine dA O (Z 14 aj O aN O (aC (fU 14 Qv aN) ?_))
    rintro _ w45 JR
    refine dA O (Z 15 aj O ah O (aC (fU 15 JR ah) ?_))
    rintro _ w46 Qw
    refine cO (kG (.inr O) results70 ?_)
    have aeV := Qw.f3
    have aeW := aeV.xM
    exact ⟨_, _, _, _, _, aeW.f4.f6.f3.f6.f6.f7.f7⟩
  ·skip
   refine lC 12 O (by kernel_rfl) (oI (Eo .i64) MS) (nD O) ?_
   rintro _ w49 ⟨b49, rfl, H49⟩
   have Yu := V.kp (H49.f5.right.f5.f5.f5.f5.f5)
   refine dV Yu (fun W hW => (Kp.h hW).right.f4.f4.f4.f4) ?_
   refine lU 8 O (xB O func97 (ru H49.f5)) ?_
   rintro _ w50 ⟨rfl, Vu⟩
   have Vw := V.kp (Vu.f6.f6.f6.f6.f6.f6)
   refine dV Vw (fun W hW => (Kp.h hW).right.f5.f5.f5.f5.f5) ?_
   refine jR 10 O Vw (fun _ => fC (zl := [.int .i64 0, .map none]) (pl := [(0, 1), (1, 1)]) [_, _] iG zeroValue97 O (fun w => by kernel_rfl) O (.on (.on .nil)) O) ?_
   refine lU 11 O (kC (l := [_, _]) Vu O O) ?_
   rintro _ w51 ⟨b51, rfl, H51⟩
   have Vx := V.kp (H51.f7.f7.f7.f7.f7.f7.f7)
   refine dV Vx (fun W hW => (Kp.h hW).right.f6.f6.f6.f6.f6.f6) ?_
   refine jR 18 O Vx (fun _ => fC (zl := [.pointer none, .pointer none, .pointer none, .map none, .int .i64 0, .bool false, .int .i64 0, .int .i64 0, .int .i64 0, .int .i64 0, .bool false]) (pl := [(0, 1), (1, 1), (2, 1), (3, 1), (4, 1), (5, 1), (6, 1), (7, 1), (8, 1), (9, 1), (10, 1)]) [_, _, _, _, _, _, _, _, _, _, _] aJ oW O (fun w => by kernel_rfl) O (.on (.on (.on (.on (.on (.zero (zs := [.bool false]) O (.zero (zs := [.int .i64 0]) O (.zero (zs := [.int .i64 0]) O (.zero (zs := [.int .i64 0]) O (.zero (zs := [.int .i64 0]) O (.zero (zs := [.bool false]) O .nil))))))))))) O) ?_
   refine jL 19 O Vx O (fH 20 O Vx 0 aj O aU O ?_)
   refine gJ 21 O (by kernel_rfl) (dD 0 (l' := [_, _, _, _, _, _, _, _, _, _, _, _, _, _, _, _, _, _, _, _, _, _, _, _, _, _, _, _, _, _, _, _, _, _]) (us := [_, _, _, _, _, _, _, _, _, _, _]) H51.f5 aU O O O (aH (aH (aH (aH (aH (aH (aH (aH (aH (aH (aH bG))))))))))) O O) ?_
   rintro _ w52 H52
   have Vy := V.kp (H52.f7.f7.f7.f7.f7.f7.f7)
   refine fG Vy (by kernel_rfl) ?_
   refine qN (bC (aB (jw O O (lM O O (Z 13 aj O aN O (aC (fU 13 H52 aN) ?_))))))
   rintro _ w53 H53
   refine dA O (Z 14 aj O aN O (aC (fU 14 H53 aN) ?_))
   rintro _ w54 H54
   refine dA O (Z 15 aj O ah O (aC (fU 15 H54 ah) ?_))
   rintro _ w55 H55
   refine cO (kG (.inr O) results70 ?_)
   have aeX := H55.f4
   have aeY := aeX.xM
   exact ⟨_, _, _, _, _, aeY.f4.f6.f3.f6.f6.f7.f7⟩
 ·skip
  refine lC 12 O (by kernel_rfl) (oI (Eo .i64) aax) (nD O) ?_
  rintro _ w58 ⟨b58, rfl, Yv⟩
  have ady := V.kp (Yv.f4.right.f4.f4.f4.f4)
  refine dV ady (fun W hW => (Kp.h hW).right.f3.f3.f3) ?_
  refine yZ (i := 8) (j := 9) (by kernel_rfl) ?_ ?_
  ·skip
   refine lC 8 O (by kernel_rfl) (oJ (oQ O func97 O O) (ru Yv.f4)) (nD O) ?_
   rintro _ w59 ⟨rfl, H59⟩
   have adz := V.kp (H59.f5.f5.f5.f5.f5)
   refine dV adz (fun W hW => (Kp.h hW).right.f4.f4.f4.f4) ?_
   refine lU 9 O (oI (Eo .i64) H59) ?_
   rintro _ w60 ⟨b60, rfl, H60⟩
   have abf := V.kp (H60.f6.f6.f6.f6.f6.f6)
   refine dV abf (fun W hW => (Kp.h hW).right.f5.f5.f5.f5.f5) ?_
   refine jR 10 O abf (fun _ => fC (zl := [.int .i64 0, .map none]) (pl := [(0, 1), (1, 1)]) [_, _] iG zeroValue97 O (fun w => by kernel_rfl) O (.on (.on .nil)) O) ?_
   refine lU 11 O (kC (l := [_, _]) H60 O O) ?_
   rintro _ w61 ⟨b61, rfl, H61⟩
   have Vz := V.kp (H61.f7.f7.f7.f7.f7.f7.f7)
   refine dV Vz (fun W hW => (Kp.h hW).right.f6.f6.f6.f6.f6.f6) ?_
   refine jR 18 O Vz (fun _ => fC (zl := [.pointer none, .pointer none, .pointer none, .map none, .int .i64 0, .bool false, .int .i64 0, .int .i64 0, .int .i64 0, .int .i64 0, .bool false]) (pl := [(0, 1), (1, 1), (2, 1), (3, 1), (4, 1), (5, 1), (6, 1), (7, 1), (8, 1), (9, 1), (10, 1)]) [_, _, _, _, _, _, _, _, _, _, _] aJ oW O (fun w => by kernel_rfl) O (.on (.on (.on (.on (.on (.zero (zs := [.bool false]) O (.zero (zs := [.int .i64 0]) O (.zero (zs := [.int .i64 0]) O (.zero (zs := [.int .i64 0]) O (.zero (zs := [.int .i64 0]) O (.zero (zs := [.bool false]) O .nil))))))))))) O) ?_
   refine jL 19 O Vz O (fH 20 O Vz 0 aj O aU O ?_)
   refine gJ 21 O (by kernel_rfl) (dD 0 (l' := [_, _, _, _, _, _, _, _, _, _, _, _, _, _, _, _, _, _, _, _, _, _, _, _, _, _, _, _, _, _, _, _, _, _]) (us := [_, _, _, _, _, _, _, _, _, _, _]) H61.f5 aU O O O (aH (aH (aH (aH (aH (aH (aH (aH (aH (aH (aH bG))))))))))) O O) ?_
   rintro _ w62 H62
   have adA := V.kp (H62.f7.f7.f7.f7.f7.f7.f7)
   refine fG adA (by kernel_rfl) ?_
   refine qN (bC (aB (jw O O (lM O O (Z 13 aj O aN O (aC (fU 13 H62 aN) ?_))))))
   rintro _ w63 H63
   refine dA O (Z 14 aj O aN O (aC (fU 14 H63 aN) ?_))
   rintro _ w64 H64
   refine dA O (Z 15 aj O ah O (aC (fU 15 H64 ah) ?_))
   rintro _ w65 H65
   refine cO (kG (.inr O) results70 ?_)
   have aeZ := H65.f5
   have ae0 := aeZ.xM
   exact ⟨_, _, _, _, _, ae0.f5.f6.f3.f6.f6.f7.f7⟩
  ·skip
   refine lC 9 O (by kernel_rfl) (oI (Eo .i64) Yv) (nD O) ?_
   rintro _ w68 ⟨b68, rfl, H68⟩
   have adB := V.kp (H68.f5.right.f5.f5.f5.f5.f5)
   refine dV adB (fun W hW => (Kp.h hW).right.f4.f4.f4.f4) ?_
   refine lU 8 O (xB O func97 (ru H68.f5)) ?_
   rintro _ w69 ⟨rfl, H69⟩
   have abg := V.kp (H69.f6.f6.f6.f6.f6.f6)
   refine dV abg (fun W hW => (Kp.h hW).right.f5.f5.f5.f5.f5) ?_
   refine jR 10 O abg (fun _ => fC (zl := [.int .i64 0, .map none]) (pl := [(0, 1), (1, 1)]) [_, _] iG zeroValue97 O (fun w => by kernel_rfl) O (.on (.on .nil)) O) ?_
   refine lU 11 O (kC (l := [_, _]) H69 O O) ?_
   rintro _ w70 ⟨b70, rfl, H70⟩
   have VA := V.kp (H70.f7.f7.f7.f7.f7.f7.f7)
   refine dV VA (fun W hW => (Kp.h hW).right.f6.f6.f6.f6.f6.f6) ?_
   refine jR 18 O VA (fun _ => fC (zl := [.pointer none, .pointer none, .pointer none, .map none, .int .i64 0, .bool false, .int .i64 0, .int .i64 0, .int .i64 0, .int .i64 0, .bool false]) (pl := [(0, 1), (1, 1), (2, 1), (3, 1), (4, 1), (5, 1), (6, 1), (7, 1), (8, 1), (9, 1), (10, 1)]) [_, _, _, _, _, _, _, _, _, _, _] aJ oW O (fun w => by kernel_rfl) O (.on (.on (.on (.on (.on (.zero (zs := [.bool false]) O (.zero (zs := [.int .i64 0]) O (.zero (zs := [.int .i64 0]) O (.zero (zs := [.int .i64 0]) O (.zero (zs := [.int .i64 0]) O (.zero (zs := [.bool false]) O .nil))))))))))) O) ?_
   refine jL 19 O VA O (fH 20 O VA 0 aj O aU O ?_)
   refine gJ 21 O (by kernel_rfl) (dD 0 (l' := [_, _, _, _, _, _, _, _, _, _, _, _, _, _, _, _, _, _, _, _, _, _, _, _, _, _, _, _, _, _, _, _, _, _]) (us := [_, _, _, _, _, _, _, _, _, _, _]) H70.f5 aU O O O (aH (aH (aH (aH (aH (aH (aH (aH (aH (aH (aH bG))))))))))) O O) ?_
   rintro _ w71 H71
   have adC := V.kp (H71.f7.f7.f7.f7.f7.f7.f7)
   refine fG adC (by kernel_rfl) ?_
   refine qN (bC (aB (jw O O (lM O O (Z 13 aj O aN O (aC (fU 13 H71 aN) ?_))))))
   rintro _ w72 H72
   refine dA O (Z 14 aj O aN O (aC (fU 14 H72 aN) ?_))
   rintro _ w73 H73
   refine dA O (Z 15 aj O ah O (aC (fU 15 H73 ah) ?_))
   rintro _ w74 H74
   refine cO (kG (.inr O) results70 ?_)
   have ae1 := H74.f5
   have ae2 := ae1.xM
   exact ⟨_, _, _, _, _, ae2.f4.f6.f3.f6.f6.f7.f7⟩
theorem V.Fa {c : pU} {u : List Value} (H : V w0 w F) (hu : (u.all fun x => x.oneCell') = true) : V w0 w (xJ false c u • F) := by
  unfold xJ
  rw [if_neg (by decide)]
  exact H.oG hu
theorem AY {inn : Bool} {c : pU} {u : List Value} (H : V w0 w (xJ inn c u • F)) : (u.all fun x => x.oneCell') = true := by
  unfold xJ at H
  cases inn with
  | true =>
    rw [if_pos rfl] at H
    obtain ⟨⟨pb, pr, pw, pt, pm⟩, H⟩ := H.oN
    obtain ⟨h, _⟩ := H.flat.fact
    rw [h]; rfl
  | false =>
    rw [if_neg (by decide)] at H
    exact H.fact.1
theorem V.abY {pb pr pw pt pm : Nat} {c : pU} (H : V w0 w (jo pb c.L c.pt c.mark • fJ pr c.E c.at_ • eF pw (.cells #[.int .i64 c.place, .map (some pt)] 97 (0, 0)) • jM uy pt (wu c.tx) • yC pm c.un • F)) : V w0 w (xJ true c (Rw pb pr pw pm c) • F) := by
  unfold xJ
  rw [if_pos rfl]
  exact V.ji (pb, pr, pw, pt, pm) (V.deep (V.oG rfl (H.of_eq (by unfold Uu; simp only [dI]))))
theorem V.was {c : pU} {u : List Value} (H : V w0 w (xJ true c u • F)) : ∃ pb pr pw pt pm, u = Rw pb pr pw pm c ∧ V w0 w (jo pb c.L c.pt c.mark • fJ pr c.E c.at_ • eF pw (.cells #[.int .i64 c.place, .map (some pt)] 97 (0, 0)) • jM uy pt (wu c.tx) • yC pm c.un • F) := by
  unfold xJ at H
  rw [if_pos rfl] at H
  obtain ⟨⟨pb, pr, pw, pt, pm⟩, H⟩ := H.oN
  obtain ⟨h, H⟩ := H.flat.fact
  exact ⟨pb, pr, pw, pt, pm, h, H.of_eq (by unfold Uu; simp only [dI])⟩
theorem V.Lr {pb pr pw pt pm ph bl : Nat} {u0 u1 u2 u3 u4 u5 u6 u7 u8 u9 ua : Value} (h1 : o8 s) (hp : s.put = []) (H : V w0 w (eF e (.cells (.pointer (some ⟨pb, 0, none⟩) :: .pointer (some ⟨pr, 0, none⟩) :: .pointer (some ⟨pw, 0, none⟩) :: .map (some pm) :: .int .i64 s.c.mode :: .bool s.c.over :: .int .i64 s.c.last :: .int .i64 s.c.fr :: .int .i64 s.c.to :: .int .i64 s.c.res :: .bool s.c.run :: .pointer (some ⟨ph, 0, none⟩) :: .pointer (some ⟨bl, 0, none⟩) :: .bool s.given :: .bool s.minus :: .int .i64 s.arg :: .bool s.inn :: u0 :: u1 :: u2 :: u3 :: u4 :: u5 :: u6 :: u7 :: u8 :: u9 :: ua :: .int .i64 s.cls :: .bool s.kJ :: .bool s.kZ :: .bool s.argues :: .bool s.whole :: .slice none 0 0 :: []).toArray 71 (0, 0)) • jo pb s.c.L s.c.pt s.c.mark • fJ pr s.c.E s.c.at_ • eF pw (.cells #[.int .i64 s.c.place, .map (some pt)] 97 (0, 0)) • jM uy pt (wu s.c.tx) • yC pm s.c.un • iP ph s.hl s.base s.most • eF bl (.cells #[.int .i64 s.nZ] 117 (0, 0)) • xJ s.inn s.was [u0, u1, u2, u3, u4, u5, u6, u7, u8, u9, ua] • F)) : V w0 w (iL e s • F) := by
  refine V.iH (pb := pb) (pr := pr) (pw := pw) (pt := pt) (pm := pm) (ph := ph) (bl := bl) (u0 := u0) (u1 := u1) (u2 := u2) (u3 := u3) (u4 := u4) (u5 := u5) (u6 := u6) (u7 := u7) (u8 := u8) (u9 := u9) (ua := ua) (pv := .slice none 0 0) (es := []) h1 (by rw [hp]; rfl) ?_
  rw [hp]
  exact (H.uF none).of_eq (by unfold JI; ac_rfl)
theorem V.UC {pb pr pw pt pm ph bl : Nat} {u0 u1 u2 u3 u4 u5 u6 u7 u8 u9 ua : Value} (h1 : o8 s) (hp : s.put = []) (hi : s.inn = false) (H : V w0 w (eF e (.cells (.pointer (some ⟨pb, 0, none⟩) :: .pointer (some ⟨pr, 0, none⟩) :: .pointer (some ⟨pw, 0, none⟩) :: .map (some pm) :: .int .i64 s.c.mode :: .bool s.c.over :: .int .i64 s.c.last :: .int .i64 s.c.fr :: .int .i64 s.c.to :: .int .i64 s.c.res :: .bool s.c.run :: .pointer (some ⟨ph, 0, none⟩) :: .pointer (some ⟨bl, 0, none⟩) :: .bool s.given :: .bool s.minus :: .int .i64 s.arg :: .bool false :: u0 :: u1 :: u2 :: u3 :: u4 :: u5 :: u6 :: u7 :: u8 :: u9 :: ua :: .int .i64 s.cls :: .bool s.kJ :: .bool s.kZ :: .bool s.argues :: .bool s.whole :: .slice none 0 0 :: []).toArray 71 (0, 0)) • jo pb s.c.L s.c.pt s.c.mark • fJ pr s.c.E s.c.at_ • eF pw (.cells #[.int .i64 s.c.place, .map (some pt)] 97 (0, 0)) • jM uy pt (wu s.c.tx) • yC pm s.c.un • iP ph s.hl s.base s.most • eF bl (.cells #[.int .i64 s.nZ] 117 (0, 0)) • F)) (hu : ([u0, u1, u2, u3, u4, u5, u6, u7, u8, u9, ua].all fun x => x.oneCell') = true := by rfl) : V w0 w (iL e s • F) := by
  refine V.Lr (pb := pb) (pr := pr) (pw := pw) (pt := pt) (pm := pm) (ph := ph) (bl := bl) (u0 := u0) (u1 := u1) (u2 := u2) (u3 := u3) (u4 := u4) (u5 := u5) (u6 := u6) (u7 := u7) (u8 := u8) (u9 := u9) (ua := ua) h1 hp ?_
  rw [hi]
  exact (H.Fa (c := s.was) (u := [u0, u1, u2, u3, u4, u5, u6, u7, u8, u9, ua]) hu).of_eq (by ac_rfl)
theorem V.Yw {pb pr pw pt pm ph bl : Nat} {u0 u1 u2 u3 u4 u5 u6 u7 u8 u9 ua : Value} {pv : Value} {es : List fB} (h1 : o8 s) (h2 : es.map fB.says = s.put) (H : V w0 w (JI pv es • eF e (.cells (.pointer (some ⟨pb, 0, none⟩) :: .pointer (some ⟨pr, 0, none⟩) :: .pointer (some ⟨pw, 0, none⟩) :: .map (some pm) :: .int .i64 s.c.mode :: .bool s.c.over :: .int .i64 s.c.last :: .int .i64 s.c.fr :: .int .i64 s.c.to :: .int .i64 s.c.res :: .bool s.c.run :: .pointer (some ⟨ph, 0, none⟩) :: .pointer (some ⟨bl, 0, none⟩) :: .bool s.given :: .bool s.minus :: .int .i64 s.arg :: .bool s.inn :: u0 :: u1 :: u2 :: u3 :: u4 :: u5 :: u6 :: u7 :: u8 :: u9 :: ua :: .int .i64 s.cls :: .bool s.kJ :: .bool s.kZ :: .bool s.argues :: .bool s.whole :: pv :: []).toArray 71 (0, 0)) • jo pb s.c.L s.c.pt s.c.mark • fJ pr s.c.E s.c.at_ • eF pw (.cells #[.int .i64 s.c.place, .map (some pt)] 97 (0, 0)) • jM uy pt (wu s.c.tx) • yC pm s.c.un • iP ph s.hl s.base s.most • eF bl (.cells #[.int .i64 s.nZ] 117 (0, 0)) • xJ s.inn s.was [u0, u1, u2, u3, u4, u5, u6, u7, u8, u9, ua] • F)) : V w0 w (iL e s • F) := by
  refine V.iH (pb := pb) (pr := pr) (pw := pw) (pt := pt) (pm := pm) (ph := ph) (bl := bl) (u0 := u0) (u1 := u1) (u2 := u2) (u3 := u3) (u4 := u4) (u5 := u5) (u6 := u6) (u7 := u7) (u8 := u8) (u9 := u9) (ua := ua) (pv := pv) (es := es) h1 h2 ?_
  have hl : s.put.length = es.length := by rw [← h2]; simp
  rw [hl]
  exact H.of_eq (by unfold JI; ac_rfl)
theorem Yx : fQ [] [] = 0 := rfl
theorem Yy (hl : List o7) (l : List Int) (E : List (List Int)) (a : Nat) (m : Int) : Uw hl (pU.fresh l E a hl.length m) := ⟨by simp [pU.fresh], by simp [pU.fresh], by simp [pU.fresh]⟩
theorem Yz (hl : List o7) (base most : Int) : o8 (bP.new hl base most) :=
  ⟨Yy _ _ _ _ _, by simp [bP.new], by simp [bP.new], by simp [bP.new], by simp [bP.new, bP.here, pU.fresh, fQ], by simp [bP.new, pU.fresh]⟩
theorem Ls (H : V w0 w (iP h hl base most • F)) : iQ prog 26 #[.pointer (some ⟨h, 0, none⟩)] w fun v w' => ∃ e, v = .tuple #[.pointer (some ⟨e, 0, none⟩), .int .i64 0] ∧ V w0 w' (iL e (bP.new hl base most) • iP h hl base most • F) := by
  refine jH func26 ntmps26 ?_
  refine lQ (oD O (uK O (bY O (fO O func51 (y9 H) ?_))))
  rintro _ w1 ⟨q1, rfl, H1⟩
  refine aZ (nG nS O O) (iF (FH O (fun h1 => ?_)))
  (try simp only [aK] at h1)
  refine gX (lQ (aZ (fC (zl := [.int .i64 0]) (pl := [(0, 0), (0, 0), (0, 1)]) [_] underlying117 zeroValue117 O (fun w => by kernel_rfl) O (.zero (zs := []) O (.zero (zs := []) O (.zero (zs := [.int .i64 0]) O .nil))) O) (jW (kC (l := [_]) H1 O O) ?_)))
  rintro _ w2 ⟨b2, rfl, H2⟩
  refine aZ (fC (zl := [.pointer none, .pointer none, .pointer none, .map none, .int .i64 0, .bool false, .int .i64 0, .int .i64 0, .int .i64 0, .int .i64 0, .bool false, .pointer none, .pointer none, .bool false, .bool false, .int .i64 0, .bool false, .pointer none, .pointer none, .pointer none, .map none, .int .i64 0, .bool false, .int .i64 0, .int .i64 0, .int .i64 0, .int .i64 0, .bool false, .int .i64 0, .bool false, .bool false, .bool false, .bool false, .slice none 0 0]) (pl := [(0, 11), (11, 1), (12, 1), (13, 1), (14, 1), (15, 1), (16, 1), (17, 11), (28, 1), (29, 1), (30, 1), (31, 1), (32, 1), (33, 1)]) [_, _, _, _, _, _, _, _, _, _, _, _, _, _, _, _, _, _, _, _, _, _, _, _, _, _, _, _, _, _, _, _, _, _] aj zeroValue71 O (fun w => by kernel_rfl) O (.zero (zs := [.pointer none, .pointer none, .pointer none, .map none, .int .i64 0, .bool false, .int .i64 0, .int .i64 0, .int .i64 0, .int .i64 0, .bool false]) O (.zero (zs := [.pointer none]) O (.on (.zero (zs := [.bool false]) O (.zero (zs := [.bool false]) O (.zero (zs := [.int .i64 0]) O (.zero (zs := [.bool false]) O (.zero (zs := [.pointer none, .pointer none, .pointer none, .map none, .int .i64 0, .bool false, .int .i64 0, .int .i64 0, .int .i64 0, .int .i64 0, .bool false]) O (.zero (zs := [.int .i64 0]) O (.zero (zs := [.bool false]) O (.zero (zs := [.bool false]) O (.zero (zs := [.bool false]) O (.zero (zs := [.bool false]) O (.zero (zs := [.slice none 0 0]) O .nil)))))))))))))) O) ?_
  refine jW (kC (l := [_, _, _, _, _, _, _, _, _, _, _, _, _, _, _, _, _, _, _, _, _, _, _, _, _, _, _, _, _, _, _, _, _, _]) H2 O O) ?_
  rintro _ w3 ⟨b3, rfl, H3⟩
  refine jZ O (bY O (fO O func69 (Pn H3) ?_))
  rintro _ w4 ⟨p4, rfl, H4⟩
  refine dA O (Z 0 aj O aU O (Z 1 aJ O sizeOf63 O (aC (fU 1 H4.f2 sizeOf63) ?_)))
  rintro _ w5 H5
  refine pG O (dn O (fO O func70 (Nk (E := []) (a := 0) H5.f4.right.f3.f3.f4.f4 (l := []) (fun W _ => oL.nil W _ none 0 (by decide)) (by decide)) ?_))
  rintro _ w6 ⟨qb, qw, qt, qm, qh, H6⟩
  refine pG O (oD O (jP O (TV results26 O O ?_)))
  exact ⟨_, O, V.UC (s := bP.new hl base most) (Yz _ _ _) O O H6.f7.f9.f8.f8.f8.f8.f9.f9.f9⟩
end
section
variable {w0 w : World} {F : HP} {e p h pr : Nat} {s : bP} {hl : List o7} {base most m : Int} {v : Value} {l : List Int}
theorem yS (h : s.inn = false) : s.bU = { s with inn := true, was := s.c, cls := 0, kJ := false, kZ := false, argues := false, whole := true, put := [] } := by unfold bP.bU; rw [if_neg (by simp [h])]
theorem Lu (h : s.inn = true) : s.bU = s := by unfold bP.bU; rw [if_pos h]
theorem VB {G : List (List iO)} {N : List iO} (h : fQ G N ≤ 16384) : fQ G [] ≤ 16384 := by unfold fQ at *; simp at *; omega
theorem RF (h : o8 s) (hi : s.inn = false) : o8 s.bU := by
  rw [yS hi]
  obtain ⟨h1, h2, h3, h4, h5, h6⟩ := h
  exact ⟨h1, fun _ => ⟨h1, VB h5, h6⟩, h3, by simp, VB h5, h6⟩
theorem Gi (H : V w0 w (iL e s • F)) : iQ prog 7 #[.pointer (some ⟨e, 0, none⟩)] w fun v w' => v = .int .i64 s.Dt ∧ V w0 w' (iL e s.bU • F) := by
 refine jH func7 ntmps7 ?_
 refine kW O (aO (bI (bY O (fO O func29 (uQ H) ?_))))
 rintro _ _ ⟨rfl, rfl⟩
 refine jZ O (vX (aO ?_))
 obtain ⟨yD, yE, yF, yG, yH, yI, yJ, yK, wI, uY, uZ, vk, vw, vC, vF, vG, vH, vI, vJ, vK, iI, dK, mF, iJ⟩ := (H).JO
 refine aB (lM O O (Z 16 aj O aN O (dL bf O (iJ).get.2 O (jZ O (eP O (fun h1 => ?_) (fun h1 => ?_))))))
 ·(try simp only [aK] at h1)
  have hin := h1
  refine nM O (dO (aV (gy results7 O ?_)))
  exact ⟨by unfold bP.Dt; rw [if_pos hin], by rw [Lu hin]; exact V.iH iI dK iJ.f11.f11.f11.f11.f11.f11.f11.f11.f11.f11.f11⟩
 ·(try simp only [aK] at h1)
  have hin := h1
  refine fV (aX (bC (bY O (jw O O (dA O (Z 0 aj O aU O (aZ (qX 0 (xs := [_, _, _, _, _, _, _, _, _, _, _]) aJ O aU O O (iJ).get.2 O) (fO O func30 (Yo iJ.f6.f6.f6.f6.f6) ?_))))))))
  rintro _ w3 ⟨qb3, qr3, qw3, qt3, qm3, rfl, H3⟩
  refine dA O (Z 16 aj O aN O (aC (fU 16 H3.f11 aN) ?_))
  rintro _ w4 H4
  refine dA O (Z 17 aj O aU O (aC (dD 17 (l' := [_, _, _, _, _, _, _, _, _, _, _, _, _, _, _, _, _, _, _, _, _, _, _, _, _, _, _, _, _, _, _, _, _, _]) (us := [_, _, _, _, _, _, _, _, _, _, _]) H4 aU O O O (aH (aH (aH (aH (aH (aH (aH (aH (aH (aH (aH bG))))))))))) O O) ?_))
  rintro _ w5 H5
  refine pG O (jw O O (jw O O (lM O O (Z 28 aj O ah O (aC (fU 28 H5 ah) ?_)))))
  rintro _ w6 H6
  refine dA O (Z 29 aj O aN O (aC (fU 29 H6 aN) ?_))
  rintro _ w7 H7
  refine dA O (Z 30 aj O aN O (aC (fU 30 H7 aN) ?_))
  rintro _ w8 H8
  refine dA O (Z 31 aj O aN O (aC (fU 31 H8 aN) ?_))
  rintro _ w9 H9
  refine dA O (Z 32 aj O aN O (aC (fU 32 H9 aN) ?_))
  rintro _ w10 rD
  refine dA O (Z 33 aj O bn O (aC (fU 33 rD bn) ?_))
  rintro _ Hr rX
  refine iF (nM O (gy results7 O ?_))
  have Uy := rX.f6.f6.f6.f6.f6
  have Uz := V.abY (c := s.c) Uy
  exact ⟨by unfold bP.Dt; rw [if_neg (by simp [hin])], by rw [yS hin]; exact V.Lr (yS hin ▸ RF iI hin) O Uz.f10.right.f10.right.f10.right.f9.f9.f9.f9.f9.f9.f9.f9⟩
end
section
variable {w0 w : World} {F : HP} {e p h pr : Nat} {s : bP} {x : Int} {b : Bool}
theorem AZ (h : o8 s) (L : List Int) (pt mk : Int) : o8 (s.nI L pt mk) := h
theorem PX (H : V w0 w (iL e s • F)) : iQ prog 59 #[.pointer (some ⟨e, 0, none⟩)] w fun v w' => v = .int .i64 s.count ∧ V w0 w' (iL e s • F) := by
 refine jH func59 ntmps59 ?_
 refine kW O (aO (bI (bY O (fO O func29 (uQ H) ?_))))
 rintro _ _ ⟨rfl, rfl⟩
 refine jZ O (vX (aO ?_))
 obtain ⟨yD, yE, yF, yG, yH, yI, yJ, yK, wI, uY, uZ, vk, vw, vC, vF, vG, vH, vI, vJ, vK, iI, dK, mF, iJ⟩ := (H).JO
 have harg := iI.2.2.1
 refine aB (lM O O (Z 13 aj O aN O (dL bf O (iJ).get.2 O (aZ (kY O) (jZ O (eP O (fun h1 => ?_) (fun h1 => ?_)))))))
 ·(try simp only [aK] at h1)
  have hg := h1
  refine nM O (dO (aV (gy results59 O ?_)))
  have Nj := iJ.f11.f11.f11.f11.f11.f11.f11.f11.f11.f11.f11
  have JJ := V.iH (s := s) iI dK Nj
  exact ⟨by unfold bP.count; simp only [*]; first | rfl | (split <;> simp_all <;> omega) | simp_all, JJ⟩
 ·(try simp only [aK] at h1)
  have hg := h1
  refine fV (aX (bC (bY O (dA O (Z 15 aj O ah O (dL ay O (iJ).get.2 O (uK O (bY O (aZ (iE O O) (kE O (fun h2 => ?_) (fun h2 => ?_)))))))))))
  ·(try simp only [aK] at h2)
   refine aB (uK O (bY O (dA O (Z 14 aj O aN O (dL bf O (iJ).get.2 O (kE O (fun h3 => ?_) (fun h3 => ?_)))))))
   ·(try simp only [aK] at h3)
    refine bY O (aZ (XD O (by omega)) (jP O (aV (gy results59 O ?_))))
    have PG := iJ.f11.f11.f11.f11.f11.f11.f11.f11.f11.f11.f11
    have PI := V.iH (s := s) iI dK PG
    exact ⟨by unfold bP.count; simp only [*]; first | rfl | (split <;> simp_all <;> omega) | simp_all, PI⟩
   ·(try simp only [aK] at h3)
    refine gX (bY O (jP O (gy results59 O ?_)))
    have KR := iJ.f11.f11.f11.f11.f11.f11.f11.f11.f11.f11.f11
    have Jr := V.iH (s := s) iI dK KR
    exact ⟨by unfold bP.count; simp only [*]; first | rfl | (split <;> simp_all <;> omega) | simp_all, Jr⟩
  ·(try simp only [aK] at h2)
   refine gX (aO (bY O (dA O (Z 14 aj O aN O (dL bf O (iJ).get.2 O (kE O (fun h4 => ?_) (fun h4 => ?_)))))))
   ·(try simp only [aK] at h4)
    refine bY O (aZ (XD O (by omega)) (jP O (aV (gy results59 O ?_))))
    have YA := iJ.f11.f11.f11.f11.f11.f11.f11.f11.f11.f11.f11
    have YB := V.iH (s := s) iI dK YA
    exact ⟨by unfold bP.count; simp only [*]; first | rfl | (split <;> simp_all <;> omega) | simp_all, YB⟩
   ·(try simp only [aK] at h4)
    refine gX (bY O (jP O (gy results59 O ?_)))
    have abZ := iJ.f11.f11.f11.f11.f11.f11.f11.f11.f11.f11.f11
    have ab0 := V.iH (s := s) iI dK abZ
    exact ⟨by unfold bP.count; simp only [*]; first | rfl | (split <;> simp_all <;> omega) | simp_all, ab0⟩
theorem PY (H : V w0 w (iL e s • F)) : iQ prog 61 #[.pointer (some ⟨e, 0, none⟩)] w fun v w' => v = .bool s.given ∧ V w0 w' (iL e s • F) := by
  refine jH func61 ntmps61 ?_
  refine kW O (bY O (fO O func29 (uQ H) ?_))
  rintro _ _ ⟨rfl, rfl⟩
  refine aZ (kY O) ?_
  obtain ⟨yD, yE, yF, yG, yH, yI, yJ, yK, wI, uY, uZ, vk, vw, vC, vF, vG, vH, vI, vJ, vK, iI, dK, mF, iJ⟩ := (H).JO
  refine U9 O (fun h1 => ?_)
  (try simp only [aK] at h1)
  refine bK (dn O (bK (dA O (bK (Z 13 aj O aN O (bK (dL bf O (iJ).get.2 O (nX O O (jP O (gy results61 O ?_))))))))))
  have Nj := iJ.f11.f11.f11.f11.f11.f11.f11.f11.f11.f11.f11
  have JJ := V.iH (s := s) iI dK Nj
  exact ⟨O, JJ⟩
theorem DC (H : V w0 w (iL e s • F)) : iQ prog 12 #[.pointer (some ⟨e, 0, none⟩)] w fun v w' => ∃ u, v = .agg (lN u s.c.pt s.c.mark) ∧ V w0 w' (jg 21 .i32 u s.c.L • iL e s • F) := by
 refine jH func12 ntmps12 ?_
 refine lQ (jW (gq (l := [_, _, _]) H oU O) ?_)
 rintro _ w1 ⟨b1, rfl, H1⟩
 refine qJ (bY O (fO O func29 (uQ H1.f2) ?_))
 rintro _ _ ⟨rfl, rfl⟩
 refine iF (vX (gX (aO ?_)))
 obtain ⟨yD, yE, yF, yG, yH, yI, yJ, yK, wI, uY, uZ, vk, vw, vC, vF, vG, vH, vI, vJ, vK, iI, dK, mF, iJ⟩ := (H1.f2).JO
 refine aB (lM O O (Z 0 aj O aU O (Z 0 aJ O nJ O (dL jy O (iJ).get.2 O (fO O func38 (FQ iJ.f2) ?_)))))
 rintro _ w4 ⟨u4, rfl, H4⟩
 refine aC (dD 0 (l' := [_, _, _]) (us := [_, _, _]) H4.f13 kH O O O (aW (by first | rfl | exact Rd.one ((H4).aG)) (aH (aH bG))) O O) ?_
 rintro _ w5 H5
 refine XJ ?_
 refine qO (.inl O) (Jg results12 O dU O (by rw [N9]; rfl) (H5).get.2) ?_
 have PG := H5.f13.f13.f13.f13.f13.f13.f13.f13.f13.f12.f13
 have PI := V.iH (s := s) iI dK PG
 exact ⟨_, O, PI.f2.right.f2⟩
theorem IQ (H : V w0 w (iL e s • F)) : iQ prog 21 #[.pointer (some ⟨e, 0, none⟩)] w fun v w' => ∃ q, v = .pointer (some ⟨q, 0, none⟩) ∧ V w0 w' (iP q s.hl s.base s.most • iL e s • F) := by
 refine jH func21 ntmps21 ?_
 refine kW O (aO (bY O (fO O func29 (uQ H) ?_)))
 rintro _ _ ⟨rfl, rfl⟩
 refine iF (vX (gX (aO ?_)))
 obtain ⟨yD, yE, yF, yG, yH, yI, yJ, yK, wI, uY, uZ, vk, vw, vC, vF, vG, vH, vI, vJ, vK, iI, dK, mF, iJ⟩ := (H).JO
 refine aB (lM O O (Z 11 aj O sizeOf45 O (dL nS O (iJ).get.2 O (fO O func51 (y9 iJ.f7) ?_))))
 rintro _ w3 ⟨q3, rfl, H3⟩
 refine jP O (gy results21 O ?_)
 have X0 := H3.f12.f12.f12.f12.f6.f12.f12.f12.f12.f12.f12
 have X3 := V.iH (s := s) iI dK X0
 exact ⟨_, O, X3.f2⟩
end
theorem yT {L : List Int} {i j : Int} {l : List Int} (h : kQ L i j l ≠ 0) : ng L i j l = [] ∧ ni L i j l = [] := by unfold ng ni; rw [if_neg h, if_neg h]; exact ⟨rfl, rfl⟩
theorem VD {L : List Int} {i j : Int} {l : List Int} (hL : L.length ≤ 1024) (h : 0 < (ng L i j l).length + (ni L i j l).length) : xK (rH L i j l, ng L i j l, ni L i j l) := by
  by_cases h0 : kQ L i j l = 0
  · refine ⟨?_, h, ?_, ?_⟩
    · show 0 ≤ rH L i j l
      unfold rH; rw [if_pos h0]
      unfold kQ at h0
      split at h0
      · cases h0
      · omega
    · show (ng L i j l).length ≤ 1024
      unfold ng; rw [if_pos h0]
      simp only [List.length_take, List.length_drop]; omega
    · show (ni L i j l).length ≤ 1024
      unfold ni; rw [if_pos h0]
      unfold kQ at h0
      split at h0
      · cases h0
      · split at h0
        · cases h0
        · omega
  · rw [(yT h0).1, (yT h0).2] at h
    simp at h
theorem YC {L : List Int} {i j : Int} {l : List Int} (hL : L.length ≤ 1024) : (ng L i j l).length ≤ 1024 ∧ (ni L i j l).length ≤ 1024 := by
  by_cases h0 : kQ L i j l = 0
  · refine ⟨?_, ?_⟩
    · unfold ng; rw [if_pos h0]
      simp only [List.length_take, List.length_drop]; omega
    · unfold ni; rw [if_pos h0]
      unfold kQ at h0
      split at h0
      · cases h0
      · split at h0
        · cases h0
        · omega
  · rw [(yT h0).1, (yT h0).2]; simp
theorem A8 {s : bP} {x : iO} (h : x.2.1.length + x.2.2.length = 0) : s.oH x = s := by unfold bP.oH; rw [if_pos h]
theorem uS {s : bP} {x : iO} (h : 0 < x.2.1.length + x.2.2.length) (k : ¬ 16384 ≤ fQ s.here s.put) : s.oH x = { s with put := s.put ++ [x] } := by unfold bP.oH; rw [if_neg (by omega), if_neg k]
theorem uT {s : bP} {x : iO} (h : 0 < x.2.1.length + x.2.2.length) (k : 16384 ≤ fQ s.here s.put) : s.oH x = { s.lG [] with put := [x], c := { (s.lG []).c with run := false } } := by unfold bP.oH; rw [if_neg (by omega), if_pos k]
theorem mG (G : List (List iO)) (N : List iO) : fQ G N = fQ G [] + N.length := by unfold fQ; simp
theorem JU {s : bP} {x : iO} (h : o8 s) (hx : 0 < x.2.1.length + x.2.2.length → xK x) : o8 (s.oH x) := by
  by_cases h0 : x.2.1.length + x.2.2.length = 0
  · rw [A8 h0]; exact h
  · have hx' := hx (by omega)
    obtain ⟨h1, h2, h3, h4, h5, h6⟩ := h
    by_cases hf : 16384 ≤ fQ s.here s.put
    · rw [uT (by omega) hf]
      refine ⟨h1, h2, h3, fun e he => by rw [List.mem_singleton.1 he]; exact hx', ?_, ?_⟩
      · show fQ (uq s.c.un s.c.place [] s.c.place) [x] ≤ 16384
        rw [gW]; simp [fQ]
      · intro k g hg
        have hg' : g ∈ uq s.c.un s.c.place [] k := hg
        by_cases hk : k = s.c.place
        · subst hk; rw [gW] at hg'; cases hg'
        · rw [uw _ _ hk] at hg'; exact h6 k g hg'
    · rw [uS (by omega) hf]
      refine ⟨h1, h2, h3, fun e he => ?_, ?_, h6⟩
      · rcases List.mem_append.1 he with he | he
        · exact h4 e he
        · rw [List.mem_singleton.1 he]; exact hx'
      · show fQ s.here (s.put ++ [x]) ≤ 16384
        rw [Py]; omega
section
variable {w0 w : World} {F : HP} {e p h pr : Nat} {s : bP} {i j x : Int} {b : Bool} {v : Value} {l : List Int}
theorem wz (H : V w0 w (iL e s • F)) (hr : jY w0 F .i32 v l) : iQ prog 33 #[.pointer (some ⟨e, 0, none⟩), .int .i64 i, .int .i64 j, v] w fun v' w' => v' = .int .i64 (s.og i j l) ∧ V w0 w' (iL e (s.iR i j l) • F) := by
 refine Hg func33 ntmps33 ?_
 refine kW O (aO (bY O (fO O func32 (sQ H) ?_)))
 rintro _ _ ⟨rfl, rfl⟩
 refine jZ O (bY O (aZ (fF O O) (kE O (fun h1 => ?_) (fun h1 => ?_))))
 ·(try simp only [aK] at h1)
  obtain ⟨hin, hpe⟩ := JQ h1
  refine bY O (jP O (aV (gy results33 O ?_)))
  rw [hpe]
  exact ⟨by simp [bP.og, bP.iR, hin], by rw [show s.iR i j l = s from by simp [bP.og, bP.iR, hin]]; exact H⟩
 ·(try simp only [aK] at h1)
  have hin := Gg h1
  refine gX (aO ?_)
  obtain ⟨yD, yE, yF, yG, yH, yI, yJ, yK, wI, uY, uZ, vk, vw, vC, vF, vG, vH, vI, vJ, vK, iI, dK, mF, iJ⟩ := (H).JO
  have hL : s.c.L.length ≤ 1024 := by obtain ⟨a, c, xs, f, t, h1, h2, h3, h4, h5, h6, h7, hc1, hc2, hl, H1⟩ := (iJ.f2).buf; exact h4
  have hE : s.og i j l = kQ s.c.L i j l := by unfold bP.og; rw [if_pos hin]
  have hS : s.iR i j l = (s.nI (lZ s.c.L i j l) (rG s.c.L s.c.pt i j l) (tN s.c.L s.c.mark i j l)).oH (rH s.c.L i j l, ng s.c.L i j l, ni s.c.L i j l) := by unfold bP.iR; rw [if_pos hin]
  have hln := YC (i := i) (j := j) (l := l) hL
  have hput : fQ s.here s.put ≤ 16384 := iI.2.2.2.2.1
  have hsp : fQ s.here s.put = fQ (s.c.un s.c.place) [] + s.put.length := mG _ _
  have hok := VD (i := i) (j := j) (l := l) hL
  have hno := yT (L := s.c.L) (i := i) (j := j) (l := l)
  refine aB (lM O O (Z 0 aj O aU O (Z 0 aJ O nJ O (dL jy O (iJ).get.2 O (jw O O (dn O (fO O func77 (Jj iJ.f2 (fun W HW => hr _ (HW.right.right.right.right.right.right.right.right.right.right))) ?_)))))))
  rintro _ w3 ⟨d3, s3, rfl, H3⟩
  refine dn O (xZ O O (xZ O O (jW (gq (l := [_, _, _]) H3 bV O) ?_)))
  rintro _ w4 ⟨b4, rfl, H4⟩
  refine aC (dD 0 (l' := [_, _, _]) (us := [_, _, _]) H4 bF O O O (aH (aW (by first | rfl | exact Rd.one ((H4.f2).aG)) (aW (by first | rfl | exact Rd.one ((H4.f3).aG)) bG))) O O) ?_
  rintro _ w5 H5
  refine uK O (bY O (aZ (je O O) (qG O (fun h2 => ?_) (fun h2 => ?_))))
  ·(try simp only [aK] at h2)
   refine bK (Z 1 aP O bg O (bK (dL aA O (H5).get.2 O (bK (aZ (pW ((H5.f2).aG) aA O) (bK (Z 2 aP O bg O (bK (dL aA O (H5).get.2 O (bK (aZ (pW ((H5.f3).aG) aA O) (bK (aZ (fZ O O (by omega)) (bK (aZ (gG O O) (nX O O (kE O (fun h3 => ?_) (fun h3 => ?_))))))))))))))))))
   ·(try simp only [aK] at h3)
    have hlen : 0 < (ng s.c.L i j l).length + (ni s.c.L i j l).length := by omega
    refine aO (aO ?_)
    have ab1 := H5.drew
    have LC := V.kp (ab1.f9.right.f13.f13.f13.f13.f13.f13.f13.f13.f13.f13.f13.f13.f13)
    refine wL [6] LC O (gK 0 O LC O (gK 3 O LC O (jL 4 O LC O (fH 5 O LC 33 aj O bn O (iY 6 O LC (fun W hW => jQ aQ O ((Kp.h hW).f5).get.2 O) (jR 7 O LC (fun _ => fA ((ab1.f12).aG) aQ O) (lU 1 O (xB O func78 (Dy ab1.f9.f8.f7)) ?_)))))))
    rintro _ w6 ⟨lp6, rfl, H6⟩
    have CQ := V.kp (H6.right.f14.f14.f14.f14.f14.f14.f14.f14.f14.f14.f14.f14.f14.f14)
    refine dV CQ (fun W hW => (Kp.h hW).right.f13.f13.f13.f13.f13.f13.f8.f13.f9.f13.f13.f13.f13) ?_
    refine lU 2 O (xB O func79 (KG H6)) ?_
    rintro _ w7 ⟨rfl, H7⟩
    have xU := V.kp (H7.f15.f15.f15.f15.f15.f15.f15.f15.f15.f15.f15.f15.f15.f15.f15)
    refine dV xU (fun W hW => (Kp.h hW).right.f14.f14.f14.f14.f14.f14.f14.f14.f14.f14.f14.f14.f14.f14) ?_
    refine jR 8 O xU (fun _ => fZ O O (by omega)) (jR 9 O xU (fun _ => Cc O O) ?_)
    have YD := H7.f2
    have TF := V.PW YD
    refine qN (bC (eP O (fun h4 => ?_) (fun h4 => ?_)))
    ·(try simp only [aK] at h4)
     have RH : 16384 ≤ fQ (s.nI (lZ s.c.L i j l) (rG s.c.L s.c.pt i j l) (tN s.c.L s.c.mark i j l)).here (s.nI (lZ s.c.L i j l) (rG s.c.L s.c.pt i j l) (tN s.c.L s.c.mark i j l)).put := by show 16384 ≤ fQ s.here s.put; omega
     refine bY O (fO O func78 (Dy TF.f3.f3) ?_)
     rintro _ w10 ⟨ahf, rfl, rD⟩
     refine fO O func80 (KP rD) ?_
     rintro _ Hr rX
     have Uy := rX.f2
     have Uz := V.AX Uy
     refine iF (aB (jw O O (dA O (Z 33 aj O bn O (aC (fU 33 Uz.f2 bn) ?_)))))
     rintro _ Qu AL
     refine dA O (Z 0 aj O aU O (Z 10 aJ O aN O (aC (fU 10 AL aN) ?_)))
     rintro _ TD Bz
     refine iF ?_
     have abh := Bz.drew
     have Fb := V.kp (abh.f14.f14.f14.f14.f14.f14.f14.f14.f14.f14.f14.f14.f14.f14)
     refine wL [4, 5] Fb O (gK 0 O Fb O (gK 1 O Fb O (jL 2 O Fb O (fH 3 O Fb 33 aj O bn O (iY 4 O Fb (fun W hW => jQ aQ O ((Kp.h hW)).get.2 O) (iY 5 O Fb (fun W hW => dF aP O bF O O ((Kp.h hW).f4).get.2) (lU 6 O (lK abh aQ bF bV O O O (by decide) (by decide)) ?_)))))))
     rintro l16 w16 wE
     have KU := V.kp (wE.f15.f15.f15.f15.f15.f15.f15.f15.f15.f15.f15.f15.f15.f15.f15)
     refine dV KU (fun W hW => (Kp.h hW).right.f14.f14.f14.f14.f14.f14.f14.f14.f14.f14.f14.f14.f14.f14) ?_
     refine lU 7 O (dQ (wE.gV none) aQ wo O O O ((wE).aG) (aH (aW (by first | rfl | exact Rd.one ((wE.f6).aG)) (aW (by first | rfl | exact Rd.one ((wE.f7).aG)) bG))) (by omega) (by omega)) ?_
     rintro l17 ZQ Dh
     have RI := Dh.f2.right
     have y8 := V.kp (RI.f15.f15.f15.f15.f15.f15.f15.f15.f15.f15.f15.f15.f15.f15.f15)
     refine fG y8 (by kernel_rfl) ?_
     refine jL 8 O y8 O (fH 9 O y8 33 aj O bn O ?_)
     refine gJ 10 O (by kernel_rfl) (dX 33 (l' := [_, _, _, _, _, _, _, _, _, _, _, _, _, _, _, _, _, _, _, _, _, _, _, _, _, _, _, _, _, _, _, _, _, _]) RI.f2 bn O O (by first | rfl | exact Rd.one ((RI).aG)) O O) ?_
     rintro _ Xw zN
     have Lc := V.kp (zN.f15.f15.f15.f15.f15.f15.f15.f15.f15.f15.f15.f15.f15.f15.f15)
     refine fG Lc (by kernel_rfl) ?_
     refine qN (bC (bY O (jP O (gy results33 O ?_))))
     have X := (zN.f5.right.f12.right.f12.right.f12.f12.f12.f6.f12.f8.f12.f12.f9.f10.f12.f12).iZ.swap.iZ.swap
     have X2 := V.uo (es := []) X.Dk.f3.f3.f4
     exact ⟨by rw [hE]; rfl, by rw [hS, uT (x := (rH s.c.L i j l, ng s.c.L i j l, ni s.c.L i j l)) hlen RH]; exact V.Yw (s := { (s.nI (lZ s.c.L i j l) (rG s.c.L s.c.pt i j l) (tN s.c.L s.c.mark i j l)).lG [] with put := [(rH s.c.L i j l, ng s.c.L i j l, ni s.c.L i j l)], c := { ((s.nI (lZ s.c.L i j l) (rG s.c.L s.c.pt i j l) (tN s.c.L s.c.mark i j l)).lG []).c with run := false } }) (uT (x := (rH s.c.L i j l, ng s.c.L i j l, ni s.c.L i j l)) hlen RH ▸ JU (AZ iI _ _ _) hok) O X2⟩
    ·(try simp only [aK] at h4)
     have RH : ¬ 16384 ≤ fQ (s.nI (lZ s.c.L i j l) (rG s.c.L s.c.pt i j l) (tN s.c.L s.c.mark i j l)).here (s.nI (lZ s.c.L i j l) (rG s.c.L s.c.pt i j l) (tN s.c.L s.c.mark i j l)).put := by show ¬ 16384 ≤ fQ s.here s.put; omega
     refine gX ?_
     have Oz := TF.drew
     have uJ := V.kp (Oz.f14.f14.f14.f14.f14.f14.f14.f14.f14.f14.f14.f14.f14.f14)
     refine wL [4, 5] uJ O (gK 0 O uJ O (gK 1 O uJ O (jL 2 O uJ O (fH 3 O uJ 33 aj O bn O (iY 4 O uJ (fun W hW => jQ aQ O ((Kp.h hW).f2).get.2 O) (iY 5 O uJ (fun W hW => dF aP O bF O O ((Kp.h hW).f4).get.2) (lU 6 O (lK Oz aQ bF bV O O O (by decide) (by decide)) ?_)))))))
     rintro l20 XM Ci
     have Dx := V.kp (Ci.f15.f15.f15.f15.f15.f15.f15.f15.f15.f15.f15.f15.f15.f15.f15)
     refine dV Dx (fun W hW => (Kp.h hW).right.f14.f14.f14.f14.f14.f14.f14.f14.f14.f14.f14.f14.f14.f14) ?_
     refine lU 7 O (dQ Ci.f13 aQ wo O O O ((Ci).aG) (aH (aW (by first | rfl | exact Rd.one ((Ci.f6).aG)) (aW (by first | rfl | exact Rd.one ((Ci.f7).aG)) bG))) (by omega) (by omega)) ?_
     rintro l21 Xx tK
     have Ld := tK.f2.right
     have Gf := V.kp (Ld.f14.f14.f14.f14.f14.f14.f14.f14.f14.f14.f14.f14.f14.f14)
     refine fG Gf (by kernel_rfl) ?_
     refine jL 8 O Gf O (fH 9 O Gf 33 aj O bn O ?_)
     refine gJ 10 O (by kernel_rfl) (dX 33 (l' := [_, _, _, _, _, _, _, _, _, _, _, _, _, _, _, _, _, _, _, _, _, _, _, _, _, _, _, _, _, _, _, _, _, _]) Ld.f3 bn O O (by first | rfl | exact Rd.one ((Ld).aG)) O O) ?_
     rintro _ ZR BA
     have CG := V.kp (BA.f14.f14.f14.f14.f14.f14.f14.f14.f14.f14.f14.f14.f14.f14)
     refine fG CG (by kernel_rfl) ?_
     refine qN (bC (bY O (jP O (gy results33 O ?_))))
     have X := (BA.f5.right.f13.f12.f12.f6.f12.f8.f12.f12.f9.f13.f11.f13.f13).iZ.swap.iZ.swap
     rw [← mF] at X
     have X2 := V.uo X.f3
     exact ⟨by rw [hE]; rfl, by rw [hS, uS (x := (rH s.c.L i j l, ng s.c.L i j l, ni s.c.L i j l)) hlen RH]; exact V.Yw (s := { s.nI (lZ s.c.L i j l) (rG s.c.L s.c.pt i j l) (tN s.c.L s.c.mark i j l) with put := s.put ++ [(rH s.c.L i j l, ng s.c.L i j l, ni s.c.L i j l)] }) (uS (x := (rH s.c.L i j l, ng s.c.L i j l, ni s.c.L i j l)) hlen RH ▸ JU (AZ iI _ _ _) hok) (by rw [List.map_append, dK]; rfl) X2⟩
   ·(try simp only [aK] at h3)
    have hlen : (ng s.c.L i j l).length + (ni s.c.L i j l).length = 0 := by omega
    refine gX (bY O (jP O (gy results33 O ?_)))
    exact ⟨by rw [hE]; rfl, by rw [hS, A8 (x := (rH s.c.L i j l, ng s.c.L i j l, ni s.c.L i j l)) hlen]; exact V.iH (s := s.nI (lZ s.c.L i j l) (rG s.c.L s.c.pt i j l) (tN s.c.L s.c.mark i j l)) (AZ iI _ _ _) dK H5.right.right.right.f11.f11.f11.f11.f11.f11.f11.f11.f11.f10.f11⟩
  ·(try simp only [aK] at h2)
   have hlen : (ng s.c.L i j l).length + (ni s.c.L i j l).length = 0 := by rw [(hno h2).1, (hno h2).2]; rfl
   refine cZ (cZ (cZ (cZ (cZ (cZ (cZ (cZ (lH O O (iF (vX (gX (bY O (jP O (gy results33 O ?_))))))))))))))
   exact ⟨by rw [hE]; rfl, by rw [hS, A8 (x := (rH s.c.L i j l, ng s.c.L i j l, ni s.c.L i j l)) hlen]; exact V.iH (s := s.nI (lZ s.c.L i j l) (rG s.c.L s.c.pt i j l) (tN s.c.L s.c.mark i j l)) (AZ iI _ _ _) dK H5.right.right.right.f11.f11.f11.f11.f11.f11.f11.f11.f11.f10.f11⟩
theorem Nl (H : V w0 w (iL e s • F)) (hr : jY w0 F .i32 v l) : iQ prog 9 #[.pointer (some ⟨e, 0, none⟩), v] w fun v' w' => v' = .int .i64 (s.Wu l) ∧ V w0 w' (iL e (s.Am l) • F) := by
 refine qQ func9 ntmps9 ?_
 refine kW O (aO (bY O (fO O func32 (sQ H) ?_)))
 rintro _ _ ⟨rfl, rfl⟩
 refine jZ O (bY O (aZ (fF O O) (kE O (fun h1 => ?_) (fun h1 => ?_))))
 ·(try simp only [aK] at h1)
  obtain ⟨hin, hpe⟩ := JQ h1
  refine bY O (jP O (aV (gy results9 O ?_)))
  rw [hpe]
  exact ⟨by simp [bP.Wu, bP.Am, bP.og, bP.iR, hin], by rw [show s.Am l = s from by simp [bP.Wu, bP.Am, bP.og, bP.iR, hin]]; exact H⟩
 ·(try simp only [aK] at h1)
  have hin := Gg h1
  refine gX (aO ?_)
  obtain ⟨yD, yE, yF, yG, yH, yI, yJ, yK, wI, uY, uZ, vk, vw, vC, vF, vG, vH, vI, vJ, vK, iI, dK, mF, iJ⟩ := (H).JO
  have WE := iJ.drew
  have Ba := V.kp (WE.f11.f11.f11.f11.f11.f11.f11.f11.f11.f11.f11)
  refine wL [5, 11] Ba O (gK 0 O Ba O (gK 1 O Ba O (jL 2 O Ba O (fH 3 O Ba 0 aj O aU O (fH 4 O Ba 0 aJ O nJ O (iY 5 O Ba (fun W hW => jQ jy O ((Kp.h hW)).get.2 O) (gK 7 O Ba O (jL 8 O Ba O (fH 9 O Ba 0 aj O aU O (fH 10 O Ba 0 aJ O nJ O (iY 11 O Ba (fun W hW => jQ jy O ((Kp.h hW)).get.2 O) (gK 13 O Ba O (lU 6 O (xB O func34 (rM WE.f2)) ?_)))))))))))))
  rintro _ _ ⟨rfl, rfl⟩
  have Ei := V.kp (WE.f11.f11.f11.f11.f11.f11.f11.f11.f11.f11.f11)
  refine dV Ei (fun W hW => (Kp.h hW).f11.f11.f11.f11.f11.f11.f11.f11.f11.f11.f11) ?_
  refine lU 12 O (xB O func34 (rM WE.f2)) ?_
  rintro _ _ ⟨rfl, rfl⟩
  have xR := V.kp (WE.f11.f11.f11.f11.f11.f11.f11.f11.f11.f11.f11)
  refine fG xR (by kernel_rfl) ?_
  have Ho6 := WE.f11.f11.f11.f11.f11.f11.f11.f11.f11.f11.f11
  have Hc7 := V.iH (s := s) iI dK Ho6
  refine lU 14 O (xB O func33 (wz Hc7 (fun W HW => hr _ (HW)))) ?_
  rintro _ w8 ⟨rfl, H8⟩
  have Jp := V.kp (H8)
  refine fG Jp (by kernel_rfl) ?_
  refine jR 15 O Jp (fun _ => iV O) (qN (bC (oP (gy results9 O ?_))))
  exact ⟨O, H8⟩
theorem PZ (H : V w0 w (iL e s • F)) : iQ prog 37 #[.pointer (some ⟨e, 0, none⟩), .int .i64 i, .int .i64 j] w fun v' w' => v' = .int .i64 (s.og i j []) ∧ V w0 w' (iL e (s.iR i j []) • F) := by
  refine ET func37 ntmps37 ?_
  refine kW O (bY O (jw O O (fO O func33 (wz H (fun W _ => oL.nil W _ none 0 (by decide))) ?_)))
  rintro _ w1 ⟨rfl, H1⟩
  refine jP O (gy results37 O ?_)
  exact ⟨O, H1⟩
theorem WG (s : bP) (x : iO) : (s.oH x).cls = s.cls := by unfold bP.oH; split; rfl; split <;> rfl
theorem OA (s : bP) (i j : Int) (l : List Int) : (s.iR i j l).cls = s.cls := by unfold bP.iR; split; rw [WG]; rfl; rfl
theorem IU (H : V w0 w (iL e s • F)) (hr : jY w0 F .i32 v l) (hl : (l.length : Int) ≤ 4611686018427387904) : iQ prog 15 #[.pointer (some ⟨e, 0, none⟩), v] w fun v' w' => v' = .int .i64 (s.zh l) ∧ V w0 w' (iL e (s.mW l) • F) := by
 refine qQ func15 ntmps15 ?_
 refine kW O (aO (bY O (fO O func32 (sQ H) ?_)))
 rintro _ _ ⟨rfl, rfl⟩
 refine jZ O (bY O (aZ (fF O O) (kE O (fun h1 => ?_) (fun h1 => ?_))))
 ·(try simp only [aK] at h1)
  obtain ⟨hin, hpe⟩ := JQ h1
  refine bY O (jP O (aV (gy results15 O ?_)))
  rw [hpe]
  exact ⟨by simp [bP.zh, bP.mW, bP.og, bP.iR, hin], by rw [show s.mW l = s from by simp [bP.zh, bP.mW, bP.og, bP.iR, hin]]; exact H⟩
 ·(try simp only [aK] at h1)
  have hin := Gg h1
  refine gX (aO ?_)
  obtain ⟨yD, yE, yF, yG, yH, yI, yJ, yK, wI, uY, uZ, vk, vw, vC, vF, vG, vH, vI, vJ, vK, iI, dK, mF, iJ⟩ := (H).JO
  have hL : s.c.L.length ≤ 1024 ∧ 0 ≤ s.c.pt ∧ s.c.pt ≤ s.c.L.length := by obtain ⟨a, c, xs, f, t, h1, h2, h3, h4, h5, h6, h7, hc1, hc2, hl, H1⟩ := (iJ.f2).buf; exact ⟨h4, h6⟩
  refine aB (lM O O (Z 0 aj O aU O (Z 0 aJ O nJ O (dL jy O (iJ).get.2 O (fO O func34 (rM iJ.f2) ?_)))))
  rintro _ _ ⟨rfl, rfl⟩
  refine uK O (bY O (dA O (Z 0 aj O aU O (Z 5 aJ O aN O (dL bf O (iJ).get.2 O (kE O (fun h2 => ?_) (fun h2 => ?_)))))))
  ·(try simp only [aK] at h2)
   have hto : s.kD l = min (s.c.pt + l.length) s.c.L.length := by unfold bP.kD; rw [if_pos h2]
   refine aB (jw O O (aZ (pW (hr _ (iJ.right.right.right.right.right.right.right.right.right.right.right)) aA O) (aZ (fZ O O (by omega)) (lM O O (Z 0 aj O aU O (Z 0 aJ O nJ O (dL jy O (iJ).get.2 O (fO O func41 (uM iJ.f2) ?_))))))))
   rintro _ w4 ⟨rfl, hD4⟩
   have HD4 := iJ.wK hD4
   refine aZ (QB O O) (jZ O (bY O (lM O O (Z 0 aj O aU O (Z 0 aJ O nJ O (dL jy O (HD4).get.2 O (fO O func34 (rM HD4.f2) ?_)))))))
   rintro _ _ ⟨rfl, rfl⟩
   have PG := HD4.f11.f11.f11.f11.f11.f11.f11.f11.f11.f11.f11
   have PI := V.iH (s := s) iI dK PG
   refine jw O O (fO O func33 (wz PI (fun W HW => hr _ (HW))) ?_)
   rintro _ w9 ⟨rfl, H9⟩
   have HT : V w0 w9 (iL e (s.iR s.c.pt (s.kD l) l) • F) := by rw [hto]; exact H9
   have hc0 := OA s s.c.pt (s.kD l) l
   have hE : s.zh l = s.og s.c.pt (s.kD l) l := rfl
   rw [hto] at hE
   refine uK O (bY O (aZ (je O O) (qG O (fun h3 => ?_) (fun h3 => ?_))))
   ·(try simp only [aK] at h3)
    have hE0 := h3
    obtain ⟨yD, yE, yF, yG, yH, yI, yJ, yK, wI, uY, uZ, vk, vw, vC, vF, vG, vH, vI, vJ, vK, iI, dK, mF, iJ⟩ := (HT).JO
    refine bK (dn O (bK (dA O (bK (Z 28 aj O ah O (bK (dL ay O (iJ).get.2 O (bK (aZ (je O O) (nX O O (kE O (fun h4 => ?_) (fun h4 => ?_))))))))))))
    ·(try simp only [aK] at h4)
     have hcl := h4
     refine aB (lM O O (Z 28 aj O ah O (aC (fU 28 iJ ah) ?_)))
     rintro _ Hr rX
     refine pG O (jP O (gy results15 O ?_))
     have e1 : s.mW l = { s.iR s.c.pt (s.kD l) l with cls := 3 } := by unfold bP.mW; rw [if_pos hin]; dsimp only; rw [if_pos ⟨hE.trans hE0, hc0.symm.trans hcl⟩]
     exact ⟨by rw [hE], by rw [e1]; exact V.iH (s := { s.iR s.c.pt (s.kD l) l with cls := 3 }) iI dK rX.f11.f11.f11.f11.f11.f11.f11.f11.f11.f11.f11⟩
    ·(try simp only [aK] at h4)
     have hcl := h4
     refine gX (bY O (jP O (gy results15 O ?_)))
     have e1 : s.mW l = s.iR s.c.pt (s.kD l) l := by unfold bP.mW; rw [if_pos hin]; dsimp only; rw [if_neg (fun h => hcl (hc0.trans h.2))]
     exact ⟨by rw [hE], by rw [e1]; exact V.iH (s := s.iR s.c.pt (s.kD l) l) iI dK iJ.f11.f11.f11.f11.f11.f11.f11.f11.f11.f11.f11⟩
   ·(try simp only [aK] at h3)
    have hE0 := h3
    refine cZ (cZ (cZ (cZ (cZ (lH O O (iF (vX (gX (bY O (jP O (gy results15 O ?_)))))))))))
    have e1 : s.mW l = s.iR s.c.pt (s.kD l) l := by unfold bP.mW; rw [if_pos hin]; dsimp only; rw [if_neg (fun h => hE0 (hE.symm.trans h.1))]
    exact ⟨by rw [hE], by rw [e1]; exact HT⟩
  ·(try simp only [aK] at h2)
   have hto : s.kD l = s.c.pt := by unfold bP.kD; rw [if_neg (by simp [h2])]
   refine gX (bY O (lM O O (Z 0 aj O aU O (Z 0 aJ O nJ O (dL jy O (iJ).get.2 O (fO O func34 (rM iJ.f2) ?_))))))
   rintro _ _ ⟨rfl, rfl⟩
   have PU := iJ.f11.f11.f11.f11.f11.f11.f11.f11.f11.f11.f11
   have PV := V.iH (s := s) iI dK PU
   refine jw O O (fO O func33 (wz PV (fun W HW => hr _ (HW))) ?_)
   rintro _ w16 ⟨rfl, wE⟩
   have HT : V w0 w16 (iL e (s.iR s.c.pt (s.kD l) l) • F) := by rw [hto]; exact wE
   have hc0 := OA s s.c.pt (s.kD l) l
   have hE : s.zh l = s.og s.c.pt (s.kD l) l := rfl
   rw [hto] at hE
   refine uK O (bY O (aZ (je O O) (qG O (fun h5 => ?_) (fun h5 => ?_))))
   ·(try simp only [aK] at h5)
    have hE0 := h5
    obtain ⟨yD, yE, yF, yG, yH, yI, yJ, yK, wI, uY, uZ, vk, vw, vC, vF, vG, vH, vI, vJ, vK, iI, dK, mF, iJ⟩ := (HT).JO
    refine bK (dn O (bK (dA O (bK (Z 28 aj O ah O (bK (dL ay O (iJ).get.2 O (bK (aZ (je O O) (nX O O (kE O (fun h6 => ?_) (fun h6 => ?_))))))))))))
    ·(try simp only [aK] at h6)
     have hcl := h6
     refine aB (lM O O (Z 28 aj O ah O (aC (fU 28 iJ ah) ?_)))
     rintro _ Xv Ef
     refine pG O (jP O (gy results15 O ?_))
     have e1 : s.mW l = { s.iR s.c.pt (s.kD l) l with cls := 3 } := by unfold bP.mW; rw [if_pos hin]; dsimp only; rw [if_pos ⟨hE.trans hE0, hc0.symm.trans hcl⟩]
     exact ⟨by rw [hE], by rw [e1]; exact V.iH (s := { s.iR s.c.pt (s.kD l) l with cls := 3 }) iI dK Ef.f11.f11.f11.f11.f11.f11.f11.f11.f11.f11.f11⟩
    ·(try simp only [aK] at h6)
     have hcl := h6
     refine gX (bY O (jP O (gy results15 O ?_)))
     have e1 : s.mW l = s.iR s.c.pt (s.kD l) l := by unfold bP.mW; rw [if_pos hin]; dsimp only; rw [if_neg (fun h => hcl (hc0.trans h.2))]
     exact ⟨by rw [hE], by rw [e1]; exact V.iH (s := s.iR s.c.pt (s.kD l) l) iI dK iJ.f11.f11.f11.f11.f11.f11.f11.f11.f11.f11.f11⟩
   ·(try simp only [aK] at h5)
    have hE0 := h5
    refine cZ (cZ (cZ (cZ (cZ (lH O O (iF (vX (gX (bY O (jP O (gy results15 O ?_)))))))))))
    have e1 : s.mW l = s.iR s.c.pt (s.kD l) l := by unfold bP.mW; rw [if_pos hin]; dsimp only; rw [if_neg (fun h => hE0 (hE.symm.trans h.1))]
    exact ⟨by rw [hE], by rw [e1]; exact HT⟩
end
end Go.Proofs.YtnhhmieghbfalaaGreat
end
