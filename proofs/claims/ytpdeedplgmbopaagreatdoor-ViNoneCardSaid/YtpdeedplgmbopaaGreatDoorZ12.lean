import Derived.Test.YtpdeedplgmbopaaGreatDoorZ4
import Derived.Test.YtpdeedplgmbopaaGreatDoorZ11
import Derived.Test.YtpdeedplgmbopaaGreatDoorZ3
set_option linter.unusedSimpArgs false
set_option linter.unusedVariables false
/- Texts of mine, joined, their names in short: EdB EdC EdMv EdR EdK. -/
section
namespace Go.Proofs.YtpdeedplgmbopaaGreatDoor
open Go.RowKit
open _root_.Go.Proofs.Tryz
section
variable {w0 w : World} {F : HP} {e p h pr : Nat} {s : dF} {hl : List pz} {base most m : Int} {v : Value} {l : List Int}
theorem V.tK {b : Nat} (H : V w0 w (fD qE b (fun _ => none) • F)) : V w0 w (wM b (fun _ => []) • F) :=
  V.Aj (D := []) (P := fun _ => 0) List.nodup_nil (fun _ _ => rfl) (by rw [QW]; exact H.of_eq (by show _ = (_ • emp • _); rw [YtpdeedplgmbopaaGreatDoor.nG]))
set_option maxHeartbeats 1000000 in
theorem Bd {x0 x2 x3 x5 x6 x7 x8 x9 x10 x11 x12 uF x14 x15 x16 x17 x18 x19 x20 x21 vw x23 x24 x25 vU x27 x28 x29 x30 x31 x32 wR : Value} {E : List (List Int)} {a : Nat} (H : V w0 w (dK e (.cells (x0 :: .pointer (some ⟨pr, 0, none⟩) :: x2 :: x3 :: .int .i64 m :: x5 :: x6 :: x7 :: x8 :: x9 :: x10 :: x11 :: x12 :: uF :: x14 :: x15 :: x16 :: x17 :: x18 :: x19 :: x20 :: x21 :: vw :: x23 :: x24 :: x25 :: vU :: x27 :: x28 :: x29 :: x30 :: x31 :: x32 :: wR :: []).toArray 82 (0, 0)) • gQ h hl base most • F)) (hr : jZ w0 F .i32 v l) (hshort : l.length ≤ 1024) :
  gI prog 111 #[.pointer (some ⟨e, 0, none⟩), .pointer (some ⟨h, 0, none⟩), v] w fun _ w' => ∃ pb pw pt pm ph, V w0 w' (dK e (.cells (.pointer (some ⟨pb, 0, none⟩) :: .pointer (some ⟨pr, 0, none⟩) :: .pointer (some ⟨pw, 0, none⟩) :: .map (some pm) :: .int .i64 m :: .bool false :: .int .i64 0 :: .int .i64 0 :: .int .i64 0 :: .int .i64 0 :: .bool false :: .pointer (some ⟨ph, 0, none⟩) :: x12 :: .bool false :: .bool false :: .int .i64 (-1) :: x16 :: x17 :: x18 :: x19 :: x20 :: x21 :: vw :: x23 :: x24 :: x25 :: vU :: x27 :: x28 :: x29 :: x30 :: x31 :: x32 :: wR :: []).toArray 82 (0, 0)) •
   jc pb l l.length (-1) • dK pw (.cells #[.int .i64 hl.length, .map (some pt)] 122 (0, 0)) • fD qE pt (fun _ => none) • wM pm (fun _ => []) • gQ ph hl base most • gQ h hl base most • F) := by
 refine FM func111 ntmps111 ?_
 refine bP O (dS O func151 (LX H (fun W HW => hr _ (HW.right.right)) hshort) ?_)
 rintro _ w1 ⟨p1, rfl, H1⟩
 refine bQ O (rG O O (rG O O (fU O (gJ O (bP O (bQ O (dS O func109 (qZ H1.f3) ?_)))))))
 rintro _ w2 ⟨q2, rfl, H2⟩
 refine dJ O (bD 11 ah O sizeOf78 O (aH (dZ 11 H2.f4 sizeOf78) ?_))
 rintro _ w3 H3
 refine pJ ?_
 have Ya := H3.drew
 have wY := V.kp (Ya.f3.right.f3.f3.f3)
 refine yC [6, 17] wY O (jG 0 O wY O (jG 1 O wY O (jG 2 O wY O (kD 3 O wY O (gV 4 O wY 0 ah O aQ O (gV 5 O wY 1 aG O sizeOf73 O (jS 6 O wY (fun W hW => jX sS O ((Kp.h hW)).get.2 O) (jG 7 O wY O (jG 13 O wY O (kD 14 O wY O (gV 15 O wY 0 ah O aQ O (gV 16 O wY 4 aG O aj O (jS 17 O wY (fun W hW => jX aK O ((Kp.h hW)).get.2 O) ?_)))))))))))))
 refine Uk (i := 8) (j := 9) (k := 12) (by kernel_rfl) ?_ ?_ ?_
 ·skip
  refine jL 8 O (by kernel_rfl) (uj (vO O func117 O O) (nU Ya.f3)) (lX O) ?_
  rintro _ w4 ⟨rfl, H4⟩
  have xu := V.kp (H4.f4.f4.f4.f4)
  refine dU xu (fun W hW => (Kp.h hW).right.f3.f3.f3) ?_
  refine xk (i := 9) (j := 12) (by kernel_rfl) ?_ ?_
  ·skip
   refine jL 9 O (by kernel_rfl) (jH (vY .i64) H4) (lX O) ?_
   rintro _ w5 ⟨b5, rfl, H5⟩
   have Bv := V.kp (H5.f5.f5.f5.f5.f5)
   refine dU Bv (fun W hW => (Kp.h hW).right.f4.f4.f4.f4) ?_
   refine jB 10 O Bv (fun _ => dP (zl := [.int .i64 0, .map none]) (pl := [(0, 1), (1, 1)]) [_, _] eP mX O (fun w => by kernel_rfl) O (.on (.on .nil)) O) ?_
   refine xk (i := 11) (j := 12) (by kernel_rfl) ?_ ?_
   ·skip
    refine jL 11 O (by kernel_rfl) (iD (l := [_, _]) H5 O O) (lX O) ?_
    rintro _ w6 ⟨b6, rfl, H6⟩
    have Iw := V.kp (H6.f6.f6.f6.f6.f6.f6)
    refine dU Iw (fun W hW => (Kp.h hW).right.f5.f5.f5.f5.f5) ?_
    refine og 12 O (jH (vY .i64) H6) ?_
    rintro _ w7 ⟨b7, rfl, H7⟩
    have Ip := V.kp (H7.f7.f7.f7.f7.f7.f7.f7)
    refine dU Ip (fun W hW => (Kp.h hW).right.f6.f6.f6.f6.f6.f6) ?_
    refine jB 18 O Ip (fun _ => dP (zl := [.pointer none, .pointer none, .pointer none, .map none, .int .i64 0, .bool false, .int .i64 0, .int .i64 0, .int .i64 0, .int .i64 0, .bool false]) (pl := [(0, 1), (1, 1), (2, 1), (3, 1), (4, 1), (5, 1), (6, 1), (7, 1), (8, 1), (9, 1), (10, 1)]) [_, _, _, _, _, _, _, _, _, _, _] aG lC O (fun w => by kernel_rfl) O (.on (.on (.on (.on (.on (.zero (zs := [.bool false]) O (.zero (zs := [.int .i64 0]) O (.zero (zs := [.int .i64 0]) O (.zero (zs := [.int .i64 0]) O (.zero (zs := [.int .i64 0]) O (.zero (zs := [.bool false]) O .nil))))))))))) O) ?_
    refine kD 19 O Ip O (gV 20 O Ip 0 ah O aQ O ?_)
    refine fM 21 O (by kernel_rfl) (bU 0 (l' := [_, _, _, _, _, _, _, _, _, _, _, _, _, _, _, _, _, _, _, _, _, _, _, _, _, _, _, _, _, _, _, _, _, _]) (us := [_, _, _, _, _, _, _, _, _, _, _]) H7.f5 aQ O O O (ay (ay (ay (ay (ay (ay (ay (ay (ay (ay (ay bF))))))))))) O O) ?_
    rintro _ w8 H8
    have O7 := V.kp (H8.f7.f7.f7.f7.f7.f7.f7)
    refine gW O7 (by kernel_rfl) ?_
    refine qR (aX (aC (jJ O O (nD O O (bD 13 ah O aO O (aH (dZ 13 H8 aO) ?_))))))
    rintro _ w9 H9
    refine dJ O (bD 14 ah O aO O (aH (dZ 14 H9 aO) ?_))
    rintro _ w10 pV
    refine dJ O (bD 15 ah O aj O (aH (dZ 15 pV aj) ?_))
    rintro _ DU qo
    refine bM (lg (.inr O) results111 ?_)
    have PO := qo.f2
    have PS := PO.tK
    exact ⟨_, _, _, _, _, PS.f5.f6.f3.f6.f6.f7.f7⟩
   ·skip
    refine jL 12 O (by kernel_rfl) (jH (vY .i64) H5) (lX O) ?_
    rintro _ RV ⟨b14, rfl, Ag⟩
    have CV := V.kp (Ag.f6.f6.f6.f6.f6.f6)
    refine dU CV (fun W hW => (Kp.h hW).right.f5.f5.f5.f5.f5) ?_
    refine og 11 O (iD (l := [_, _]) Ag O O) ?_
    rintro _ Sr ⟨b15, rfl, yM⟩
    have uH := V.kp (yM.f7.f7.f7.f7.f7.f7.f7)
    refine dU uH (fun W hW => (Kp.h hW).right.f6.f6.f6.f6.f6.f6) ?_
    refine jB 18 O uH (fun _ => dP (zl := [.pointer none, .pointer none, .pointer none, .map none, .int .i64 0, .bool false, .int .i64 0, .int .i64 0, .int .i64 0, .int .i64 0, .bool false]) (pl := [(0, 1), (1, 1), (2, 1), (3, 1), (4, 1), (5, 1), (6, 1), (7, 1), (8, 1), (9, 1), (10, 1)]) [_, _, _, _, _, _, _, _, _, _, _] aG lC O (fun w => by kernel_rfl) O (.on (.on (.on (.on (.on (.zero (zs := [.bool false]) O (.zero (zs := [.int .i64 0]) O (.zero (zs := [.int .i64 0]) O (.zero (zs := [.int .i64 0]) O (.zero (zs := [.int .i64 0]) O (.zero (zs := [.bool false]) O .nil))))))))))) O) ?_
    refine kD 19 O uH O (gV 20 O uH 0 ah O aQ O ?_)
    refine fM 21 O (by kernel_rfl) (bU 0 (l' := [_, _, _, _, _, _, _, _, _, _, _, _, _, _, _, _, _, _, _, _, _, _, _, _, _, _, _, _, _, _, _, _, _, _]) (us := [_, _, _, _, _, _, _, _, _, _, _]) yM.f5 aQ O O O (ay (ay (ay (ay (ay (ay (ay (ay (ay (ay (ay bF))))))))))) O O) ?_
    rintro _ w16 yH
    have CX := V.kp (yH.f7.f7.f7.f7.f7.f7.f7)
    refine gW CX (by kernel_rfl) ?_
    refine qR (aX (aC (jJ O O (nD O O (bD 13 ah O aO O (aH (dZ 13 yH aO) ?_))))))
    rintro _ Zc Ig
    refine dJ O (bD 14 ah O aO O (aH (dZ 14 Ig aO) ?_))
    rintro _ XF CG
    refine dJ O (bD 15 ah O aj O (aH (dZ 15 CG aj) ?_))
    rintro _ w19 DW
    refine bM (lg (.inr O) results111 ?_)
    have VI := DW.f3
    have PU := VI.tK
    exact ⟨_, _, _, _, _, PU.f5.f6.f3.f6.f6.f7.f7⟩
  ·skip
   refine jL 12 O (by kernel_rfl) (jH (vY .i64) H4) (lX O) ?_
   rintro _ w22 ⟨b22, rfl, OV⟩
   have MO := V.kp (OV.f5.f5.f5.f5.f5)
   refine dU MO (fun W hW => (Kp.h hW).right.f4.f4.f4.f4) ?_
   refine og 9 O (jH (vY .i64) OV) ?_
   rintro _ w23 ⟨b23, rfl, Iu⟩
   have Jt := V.kp (Iu.f6.f6.f6.f6.f6.f6)
   refine dU Jt (fun W hW => (Kp.h hW).right.f5.f5.f5.f5.f5) ?_
   refine jB 10 O Jt (fun _ => dP (zl := [.int .i64 0, .map none]) (pl := [(0, 1), (1, 1)]) [_, _] eP mX O (fun w => by kernel_rfl) O (.on (.on .nil)) O) ?_
   refine og 11 O (iD (l := [_, _]) Iu O O) ?_
   rintro _ w24 ⟨b24, rfl, Xh⟩
   have GU := V.kp (Xh.f7.f7.f7.f7.f7.f7.f7)
   refine dU GU (fun W hW => (Kp.h hW).right.f6.f6.f6.f6.f6.f6) ?_
   refine jB 18 O GU (fun _ => dP (zl := [.pointer none, .pointer none, .pointer none, .map none, .int .i64 0, .bool false, .int .i64 0, .int .i64 0, .int .i64 0, .int .i64 0, .bool false]) (pl := [(0, 1), (1, 1), (2, 1), (3, 1), (4, 1), (5, 1), (6, 1), (7, 1), (8, 1), (9, 1), (10, 1)]) [_, _, _, _, _, _, _, _, _, _, _] aG lC O (fun w => by kernel_rfl) O (.on (.on (.on (.on (.on (.zero (zs := [.bool false]) O (.zero (zs := [.int .i64 0]) O (.zero (zs := [.int .i64 0]) O (.zero (zs := [.int .i64 0]) O (.zero (zs := [.int .i64 0]) O (.zero (zs := [.bool false]) O .nil))))))))))) O) ?_
   refine kD 19 O GU O (gV 20 O GU 0 ah O aQ O ?_)
   refine fM 21 O (by kernel_rfl) (bU 0 (l' := [_, _, _, _, _, _, _, _, _, _, _, _, _, _, _, _, _, _, _, _, _, _, _, _, _, _, _, _, _, _, _, _, _, _]) (us := [_, _, _, _, _, _, _, _, _, _, _]) Xh.f5 aQ O O O (ay (ay (ay (ay (ay (ay (ay (ay (ay (ay (ay bF))))))))))) O O) ?_
   rintro _ w25 Uc
   have VO := V.kp (Uc.f7.f7.f7.f7.f7.f7.f7)
   refine gW VO (by kernel_rfl) ?_
   refine qR (aX (aC (jJ O O (nD O O (bD 13 ah O aO O (aH (dZ 13 Uc aO) ?_))))))
   rintro _ w26 VP
   refine dJ O (bD 14 ah O aO O (aH (dZ 14 VP aO) ?_))
   rintro _ w27 Nv
   refine dJ O (bD 15 ah O aj O (aH (dZ 15 Nv aj) ?_))
   rintro _ w28 H28
   refine bM (lg (.inr O) results111 ?_)
   have aav := H28.f4
   have aaw := aav.tK
   exact ⟨_, _, _, _, _, aaw.f5.f6.f3.f6.f6.f7.f7⟩
 ·skip
  refine jL 9 O (by kernel_rfl) (jH (vY .i64) Ya) (lX O) ?_
  rintro _ w31 ⟨b31, rfl, SI⟩
  have VQ := V.kp (SI.f4.right.f4.f4.f4.f4)
  refine dU VQ (fun W hW => (Kp.h hW).right.f3.f3.f3) ?_
  refine xk (i := 8) (j := 12) (by kernel_rfl) ?_ ?_
  ·skip
   refine jL 8 O (by kernel_rfl) (uj (vO O func117 O O) (nU SI.f4)) (lX O) ?_
   rintro _ w32 ⟨rfl, Nw⟩
   have Q9 := V.kp (Nw.f5.f5.f5.f5.f5)
   refine dU Q9 (fun W hW => (Kp.h hW).right.f4.f4.f4.f4) ?_
   refine jB 10 O Q9 (fun _ => dP (zl := [.int .i64 0, .map none]) (pl := [(0, 1), (1, 1)]) [_, _] eP mX O (fun w => by kernel_rfl) O (.on (.on .nil)) O) ?_
   refine xk (i := 11) (j := 12) (by kernel_rfl) ?_ ?_
   ·skip
    refine jL 11 O (by kernel_rfl) (iD (l := [_, _]) Nw O O) (lX O) ?_
    rintro _ w33 ⟨b33, rfl, Xj⟩
    have Rf := V.kp (Xj.f6.f6.f6.f6.f6.f6)
    refine dU Rf (fun W hW => (Kp.h hW).right.f5.f5.f5.f5.f5) ?_
    refine og 12 O (jH (vY .i64) Xj) ?_
    rintro _ w34 ⟨b34, rfl, VR⟩
    have JA := V.kp (VR.f7.f7.f7.f7.f7.f7.f7)
    refine dU JA (fun W hW => (Kp.h hW).right.f6.f6.f6.f6.f6.f6) ?_
    refine jB 18 O JA (fun _ => dP (zl := [.pointer none, .pointer none, .pointer none, .map none, .int .i64 0, .bool false, .int .i64 0, .int .i64 0, .int .i64 0, .int .i64 0, .bool false]) (pl := [(0, 1), (1, 1), (2, 1), (3, 1), (4, 1), (5, 1), (6, 1), (7, 1), (8, 1), (9, 1), (10, 1)]) [_, _, _, _, _, _, _, _, _, _, _] aG lC O (fun w => by kernel_rfl) O (.on (.on (.on (.on (.on (.zero (zs := [.bool false]) O (.zero (zs := [.int .i64 0]) O (.zero (zs := [.int .i64 0]) O (.zero (zs := [.int .i64 0]) O (.zero (zs := [.int .i64 0]) O (.zero (zs := [.bool false]) O .nil))))))))))) O) ?_
    refine kD 19 O JA O (gV 20 O JA 0 ah O aQ O ?_)
    refine fM 21 O (by kernel_rfl) (bU 0 (l' := [_, _, _, _, _, _, _, _, _, _, _, _, _, _, _, _, _, _, _, _, _, _, _, _, _, _, _, _, _, _, _, _, _, _]) (us := [_, _, _, _, _, _, _, _, _, _, _]) VR.f5 aQ O O O (ay (ay (ay (ay (ay (ay (ay (ay (ay (ay (ay bF))))))))))) O O) ?_
    rintro _ w35 H35
    have VT := V.kp (H35.f7.f7.f7.f7.f7.f7.f7)
    refine gW VT (by kernel_rfl) ?_
    refine qR (aX (aC (jJ O O (nD O O (bD 13 ah O aO O (aH (dZ 13 H35 aO) ?_))))))
    rintro _ w36 H36
    refine dJ O (bD 14 ah O aO O (aH (dZ 14 H36 aO) ?_))
    rintro _ w37 H37
    refine dJ O (bD 15 ah O aj O (aH (dZ 15 H37 aj) ?_))
    rintro _ w38 PX
    refine bM (lg (.inr O) results111 ?_)
    have ads := PX.f2
    have adt := ads.tK
    exact ⟨_, _, _, _, _, adt.f4.f6.f3.f6.f6.f7.f7⟩
   ·skip
    refine jL 12 O (by kernel_rfl) (jH (vY .i64) Nw) (lX O) ?_
    rintro _ w41 ⟨b41, rfl, Yb⟩
    have VU := V.kp (Yb.f6.f6.f6.f6.f6.f6)
    refine dU VU (fun W hW => (Kp.h hW).right.f5.f5.f5.f5.f5) ?_
    refine og 11 O (iD (l := [_, _]) Yb O O) ?_
    rintro _ w42 ⟨b42, rfl, H42⟩
    have JB := V.kp (H42.f7.f7.f7.f7.f7.f7.f7)
    refine dU JB (fun W hW => (Kp.h hW).right.f6.f6.f6.f6.f6.f6) ?_
    refine jB 18 O JB (fun _ => dP (zl := [.pointer none, .pointer none, .pointer none, .map none, .int .i64 0, .bool false, .int .i64 0, .int .i64 0, .int .i64 0, .int .i64 0, .bool false]) (pl := [(0, 1), (1, 1), (2, 1), (3, 1), (4, 1), (5, 1), (6, 1), (7, 1), (8, 1), (9, 1), (10, 1)]) [_, _, _, _, _, _, _, _, _, _, _] aG lC O (fun w => by kernel_rfl) O (.on (.on (.on (.on (.on (.zero (zs := [.bool false]) O (.zero (zs := [.int .i64 0]) O (.zero (zs := [.int .i64 0]) O (.zero (zs := [.int .i64 0]) O (.zero (zs := [.int .i64 0]) O (.zero (zs := [.bool false]) O .nil))))))))))) O) ?_
    refine kD 19 O JB O (gV 20 O JB 0 ah O aQ O ?_)
    refine fM 21 O (by kernel_rfl) (bU 0 (l' := [_, _, _, _, _, _, _, _, _, _, _, _, _, _, _, _, _, _, _, _, _, _, _, _, _, _, _, _, _, _, _, _, _, _]) (us := [_, _, _, _, _, _, _, _, _, _, _]) H42.f5 aQ O O O (ay (ay (ay (ay (ay (ay (ay (ay (ay (ay (ay bF))))))))))) O O) ?_
    rintro _ w43 H43
    have VW := V.kp (H43.f7.f7.f7.f7.f7.f7.f7)
    refine gW VW (by kernel_rfl) ?_
    refine qR (aX (aC (jJ O O (nD O O (bD 13 ah O aO O (aH (dZ 13 H43 aO) ?_))))))
    rintro _ w44 Zh
    refine dJ O (bD 14 ah O aO O (aH (dZ 14 Zh aO) ?_))
    rintro _ w45 OB
    refine dJ O (bD 15 ah O aj O (aH (dZ 15 OB aj) ?_))
    rintro _ w46 H46
    refine bM (lg (.inr O) results111 ?_)
    have adu := H46.f3
    have adv := adu.tK
    exact ⟨_, _, _, _, _, adv.f4.f6.f3.f6.f6.f7.f7⟩
  ·skip
   refine jL 12 O (by kernel_rfl) (jH (vY .i64) SI) (lX O) ?_
   rintro _ w49 ⟨b49, rfl, H49⟩
   have ab0 := V.kp (H49.f5.right.f5.f5.f5.f5.f5)
   refine dU ab0 (fun W hW => (Kp.h hW).right.f4.f4.f4.f4) ?_
   refine og 8 O (yF O func117 (nU H49.f5)) ?_
   rintro _ w50 ⟨rfl, H50⟩
   have Zi := V.kp (H50.f6.f6.f6.f6.f6.f6)
   refine dU Zi (fun W hW => (Kp.h hW).right.f5.f5.f5.f5.f5) ?_
   refine jB 10 O Zi (fun _ => dP (zl := [.int .i64 0, .map none]) (pl := [(0, 1), (1, 1)]) [_, _] eP mX O (fun w => by kernel_rfl) O (.on (.on .nil)) O) ?_
   refine og 11 O (iD (l := [_, _]) H50 O O) ?_
   rintro _ w51 ⟨b51, rfl, H51⟩
   have Rh := V.kp (H51.f7.f7.f7.f7.f7.f7.f7)
   refine dU Rh (fun W hW => (Kp.h hW).right.f6.f6.f6.f6.f6.f6) ?_
   refine jB 18 O Rh (fun _ => dP (zl := [.pointer none, .pointer none, .pointer none, .map none, .int .i64 0, .bool false, .int .i64 0, .int .i64 0, .int .i64 0, .int .i64 0, .bool false]) (pl := [(0, 1), (1, 1), (2, 1), (3, 1), (4, 1), (5, 1), (6, 1), (7, 1), (8, 1), (9, 1), (10, 1)]) [_, _, _, _, _, _, _, _, _, _, _] aG lC O (fun w => by kernel_rfl) O (.on (.on (.on (.on (.on (.zero (zs := [.bool false]) O (.zero (zs := [.int .i64 0]) O (.zero (zs := [.int .i64 0]) O (.zero (zs := [.int .i64 0]) O (.zero (zs := [.int .i64 0]) O (.zero (zs := [.bool false]) O .nil))))))))))) O) ?_
   refine kD 19 O Rh O (gV 20 O Rh 0 ah O aQ O ?_)
   refine fM 21 O (by kernel_rfl) (bU 0 (l' := [_, _, _, _, _, _, _, _, _, _, _, _, _, _, _, _, _, _, _, _, _, _, _, _, _, _, _, _, _, _, _, _, _, _]) (us := [_, _, _, _, _, _, _, _, _, _, _]) H51.f5 aQ O O O (ay (ay (ay (ay (ay (ay (ay (ay (ay (ay (ay bF))))))))))) O O) ?_
   rintro _ w52 Zj
   have ab1 := V.kp (Zj.f7.f7.f7.f7.f7.f7.f7)
   refine gW ab1 (by kernel_rfl) ?_
   refine qR (aX (aC (jJ O O (nD O O (bD 13 ah O aO O (aH (dZ 13 Zj aO) ?_))))))
   rintro _ w53 H53
   refine dJ O (bD 14 ah O aO O (aH (dZ 14 H53 aO) ?_))
   rintro _ w54 H54
   refine dJ O (bD 15 ah O aj O (aH (dZ 15 H54 aj) ?_))
   rintro _ w55 H55
   refine bM (lg (.inr O) results111 ?_)
   have adw := H55.f4
   have adx := adw.tK
   exact ⟨_, _, _, _, _, adx.f4.f6.f3.f6.f6.f7.f7⟩
 ·skip
  refine jL 12 O (by kernel_rfl) (jH (vY .i64) Ya) (lX O) ?_
  rintro _ w58 ⟨b58, rfl, Yc⟩
  have ab2 := V.kp (Yc.f4.right.f4.f4.f4.f4)
  refine dU ab2 (fun W hW => (Kp.h hW).right.f3.f3.f3) ?_
  refine xk (i := 8) (j := 9) (by kernel_rfl) ?_ ?_
  ·skip
   refine jL 8 O (by kernel_rfl) (uj (vO O func117 O O) (nU Yc.f4)) (lX O) ?_
   rintro _ w59 ⟨rfl, H59⟩
   have ab3 := V.kp (H59.f5.f5.f5.f5.f5)
   refine dU ab3 (fun W hW => (Kp.h hW).right.f4.f4.f4.f4) ?_
   refine og 9 O (jH (vY .i64) H59) ?_
   rintro _ w60 ⟨b60, rfl, H60⟩
   have Zk := V.kp (H60.f6.f6.f6.f6.f6.f6)
   refine dU Zk (fun W hW => (Kp.h hW).right.f5.f5.f5.f5.f5) ?_
   refine jB 10 O Zk (fun _ => dP (zl := [.int .i64 0, .map none]) (pl := [(0, 1), (1, 1)]) [_, _] eP mX O (fun w => by kernel_rfl) O (.on (.on .nil)) O) ?_
   refine og 11 O (iD (l := [_, _]) H60 O O) ?_
   rintro _ w61 ⟨b61, rfl, H61⟩
   have Ri := V.kp (H61.f7.f7.f7.f7.f7.f7.f7)
   refine dU Ri (fun W hW => (Kp.h hW).right.f6.f6.f6.f6.f6.f6) ?_
   refine jB 18 O Ri (fun _ => dP (zl := [.pointer none, .pointer none, .pointer none, .map none, .int .i64 0, .bool false, .int .i64 0, .int .i64 0, .int .i64 0, .int .i64 0, .bool false]) (pl := [(0, 1), (1, 1), (2, 1), (3, 1), (4, 1), (5, 1), (6, 1), (7, 1), (8, 1), (9, 1), (10, 1)]) [_, _, _, _, _, _, _, _, _, _, _] aG lC O (fun w => by kernel_rfl) O (.on (.on (.on (.on (.on (.zero (zs := [.bool false]) O (.zero (zs := [.int .i64 0]) O (.zero (zs := [.int .i64 0]) O (.zero (zs := [.int .i64 0]) O (.zero (zs := [.int .i64 0]) O (.zero (zs := [.bool false]) O .nil))))))))))) O) ?_
   refine kD 19 O Ri O (gV 20 O Ri 0 ah O aQ O ?_)
   refine fM 21 O (by kernel_rfl) (bU 0 (l' := [_, _, _, _, _, _, _, _, _, _, _, _, _, _, _, _, _, _, _, _, _, _, _, _, _, _, _, _, _, _, _, _, _, _]) (us := [_, _, _, _, _, _, _, _, _, _, _]) H61.f5 aQ O O O (ay (ay (ay (ay (ay (ay (ay (ay (ay (ay (ay bF))))))))))) O O) ?_
   rintro _ w62 H62
   have ab4 := V.kp (H62.f7.f7.f7.f7.f7.f7.f7)
   refine gW ab4 (by kernel_rfl) ?_
   refine qR (aX (aC (jJ O O (nD O O (bD 13 ah O aO O (aH (dZ 13 H62 aO) ?_))))))
   rintro _ w63 H63
   refine dJ O (bD 14 ah O aO O (aH (dZ 14 H63 aO) ?_))
   rintro _ w64 H64
   refine dJ O (bD 15 ah O aj O (aH (dZ 15 H64 aj) ?_))
   rintro _ w65 H65
   refine bM (lg (.inr O) results111 ?_)
   have ady := H65.f5
   have adz := ady.tK
   exact ⟨_, _, _, _, _, adz.f5.f6.f3.f6.f6.f7.f7⟩
  ·skip
   refine jL 9 O (by kernel_rfl) (jH (vY .i64) Yc) (lX O) ?_
   rintro _ w68 ⟨b68, rfl, H68⟩
   have ab5 := V.kp (H68.f5.right.f5.f5.f5.f5.f5)
   refine dU ab5 (fun W hW => (Kp.h hW).right.f4.f4.f4.f4) ?_
   refine og 8 O (yF O func117 (nU H68.f5)) ?_
   rintro _ w69 ⟨rfl, H69⟩
   have Zl := V.kp (H69.f6.f6.f6.f6.f6.f6)
   refine dU Zl (fun W hW => (Kp.h hW).right.f5.f5.f5.f5.f5) ?_
   refine jB 10 O Zl (fun _ => dP (zl := [.int .i64 0, .map none]) (pl := [(0, 1), (1, 1)]) [_, _] eP mX O (fun w => by kernel_rfl) O (.on (.on .nil)) O) ?_
   refine og 11 O (iD (l := [_, _]) H69 O O) ?_
   rintro _ w70 ⟨b70, rfl, H70⟩
   have Rj := V.kp (H70.f7.f7.f7.f7.f7.f7.f7)
   refine dU Rj (fun W hW => (Kp.h hW).right.f6.f6.f6.f6.f6.f6) ?_
   refine jB 18 O Rj (fun _ => dP (zl := [.pointer none, .pointer none, .pointer none, .map none, .int .i64 0, .bool false, .int .i64 0, .int .i64 0, .int .i64 0, .int .i64 0, .bool false]) (pl := [(0, 1), (1, 1), (2, 1), (3, 1), (4, 1), (5, 1), (6, 1), (7, 1), (8, 1), (9, 1), (10, 1)]) [_, _, _, _, _, _, _, _, _, _, _] aG lC O (fun w => by kernel_rfl) O (.on (.on (.on (.on (.on (.zero (zs := [.bool false]) O (.zero (zs := [.int .i64 0]) O (.zero (zs := [.int .i64 0]) O (.zero (zs := [.int .i64 0]) O (.zero (zs := [.int .i64 0]) O (.zero (zs := [.bool false]) O .nil))))))))))) O) ?_
   refine kD 19 O Rj O (gV 20 O Rj 0 ah O aQ O ?_)
   refine fM 21 O (by kernel_rfl) (bU 0 (l' := [_, _, _, _, _, _, _, _, _, _, _, _, _, _, _, _, _, _, _, _, _, _, _, _, _, _, _, _, _, _, _, _, _, _]) (us := [_, _, _, _, _, _, _, _, _, _, _]) H70.f5 aQ O O O (ay (ay (ay (ay (ay (ay (ay (ay (ay (ay (ay bF))))))))))) O O) ?_
   rintro _ w71 H71
   have ab6 := V.kp (H71.f7.f7.f7.f7.f7.f7.f7)
   refine gW ab6 (by kernel_rfl) ?_
   refine qR (aX (aC (jJ O O (nD O O (bD 13 ah O aO O (aH (dZ 13 H71 aO) ?_))))))
   rintro _ w72 H72
   refine dJ O (bD 14 ah O aO O (aH (dZ 14 H72 aO) ?_))
   rintro _ w73 H73
   refine dJ O (bD 15 ah O aj O (aH (dZ 15 H73 aj) ?_))
   rintro _ w74 H74
   refine bM (lg (.inr O) results111 ?_)
   have adA := H74.f5
   have adB := adA.tK
   exact ⟨_, _, _, _, _, adB.f4.f6.f3.f6.f6.f7.f7⟩
theorem V.BK {c : lZ} {u : List Value} (H : V w0 w F) (hu : (u.all fun x => x.oneCell') = true) : V w0 w (uI false c u • F) := by
  unfold uI
  rw [if_neg (by decide)]
  exact H.jY hu
theorem wE {inn : Bool} {c : lZ} {u : List Value} (H : V w0 w (uI inn c u • F)) : (u.all fun x => x.oneCell') = true := by
  unfold uI at H
  cases inn with
  | true =>
    rw [if_pos rfl] at H
    obtain ⟨⟨pb, pr, pw, pt, pm⟩, H⟩ := H.lJ
    obtain ⟨h, _⟩ := H.flat.fact
    rw [h]; rfl
  | false =>
    rw [if_neg (by decide)] at H
    exact H.fact.1
theorem V.aax {pb pr pw pt pm : Nat} {c : lZ} (H : V w0 w (jc pb c.L c.pt c.mark • iF pr c.E c.at_ • dK pw (.cells #[.int .i64 c.place, .map (some pt)] 122 (0, 0)) • fD qE pt (rF c.tx) • wM pm c.un • F)) : V w0 w (uI true c (MV pb pr pw pm c) • F) := by
  unfold uI
  rw [if_pos rfl]
  exact V.iy (pb, pr, pw, pt, pm) (V.deep (V.jY rfl (H.of_eq (by unfold Pz; simp only [bW]))))
theorem V.was {c : lZ} {u : List Value} (H : V w0 w (uI true c u • F)) : ∃ pb pr pw pt pm, u = MV pb pr pw pm c ∧ V w0 w (jc pb c.L c.pt c.mark • iF pr c.E c.at_ • dK pw (.cells #[.int .i64 c.place, .map (some pt)] 122 (0, 0)) • fD qE pt (rF c.tx) • wM pm c.un • F) := by
  unfold uI at H
  rw [if_pos rfl] at H
  obtain ⟨⟨pb, pr, pw, pt, pm⟩, H⟩ := H.lJ
  obtain ⟨h, H⟩ := H.flat.fact
  exact ⟨pb, pr, pw, pt, pm, h, H.of_eq (by unfold Pz; simp only [bW])⟩
theorem V.GV {pb pr pw pt pm ph bl : Nat} {u0 u1 u2 u3 u4 u5 u6 u7 u8 u9 ua : Value} (h1 : lM s) (hp : s.put = []) (H : V w0 w (dK e (.cells (.pointer (some ⟨pb, 0, none⟩) :: .pointer (some ⟨pr, 0, none⟩) :: .pointer (some ⟨pw, 0, none⟩) :: .map (some pm) :: .int .i64 s.c.mode :: .bool s.c.over :: .int .i64 s.c.last :: .int .i64 s.c.fr :: .int .i64 s.c.to :: .int .i64 s.c.res :: .bool s.c.run :: .pointer (some ⟨ph, 0, none⟩) :: .pointer (some ⟨bl, 0, none⟩) :: .bool s.given :: .bool s.minus :: .int .i64 s.arg :: .bool s.inn :: u0 :: u1 :: u2 :: u3 :: u4 :: u5 :: u6 :: u7 :: u8 :: u9 :: ua :: .int .i64 s.cls :: .bool s.killed :: .bool s.lu :: .bool s.argues :: .bool s.whole :: .slice none 0 0 :: []).toArray 82 (0, 0)) • jc pb s.c.L s.c.pt s.c.mark • iF pr s.c.E s.c.at_ • dK pw (.cells #[.int .i64 s.c.place, .map (some pt)] 122 (0, 0)) • fD qE pt (rF s.c.tx) • wM pm s.c.un • gQ ph s.hl s.base s.most • dK bl (.cells #[.int .i64 s.qL] 161 (0, 0)) • uI s.inn s.was [u0, u1, u2, u3, u4, u5, u6, u7, u8, u9, ua] • F)) : V w0 w (gB e s • F) := by
  refine V.iH (pb := pb) (pr := pr) (pw := pw) (pt := pt) (pm := pm) (ph := ph) (bl := bl) (u0 := u0) (u1 := u1) (u2 := u2) (u3 := u3) (u4 := u4) (u5 := u5) (u6 := u6) (u7 := u7) (u8 := u8) (u9 := u9) (ua := ua) (pv := .slice none 0 0) (es := []) h1 (by rw [hp]; rfl) ?_
  rw [hp]
  exact (H.qY none).of_eq (by unfold Jp; ac_rfl)
theorem V.PY {pb pr pw pt pm ph bl : Nat} {u0 u1 u2 u3 u4 u5 u6 u7 u8 u9 ua : Value} (h1 : lM s) (hp : s.put = []) (hi : s.inn = false) (H : V w0 w (dK e (.cells (.pointer (some ⟨pb, 0, none⟩) :: .pointer (some ⟨pr, 0, none⟩) :: .pointer (some ⟨pw, 0, none⟩) :: .map (some pm) :: .int .i64 s.c.mode :: .bool s.c.over :: .int .i64 s.c.last :: .int .i64 s.c.fr :: .int .i64 s.c.to :: .int .i64 s.c.res :: .bool s.c.run :: .pointer (some ⟨ph, 0, none⟩) :: .pointer (some ⟨bl, 0, none⟩) :: .bool s.given :: .bool s.minus :: .int .i64 s.arg :: .bool false :: u0 :: u1 :: u2 :: u3 :: u4 :: u5 :: u6 :: u7 :: u8 :: u9 :: ua :: .int .i64 s.cls :: .bool s.killed :: .bool s.lu :: .bool s.argues :: .bool s.whole :: .slice none 0 0 :: []).toArray 82 (0, 0)) • jc pb s.c.L s.c.pt s.c.mark • iF pr s.c.E s.c.at_ • dK pw (.cells #[.int .i64 s.c.place, .map (some pt)] 122 (0, 0)) • fD qE pt (rF s.c.tx) • wM pm s.c.un • gQ ph s.hl s.base s.most • dK bl (.cells #[.int .i64 s.qL] 161 (0, 0)) • F)) (hu : ([u0, u1, u2, u3, u4, u5, u6, u7, u8, u9, ua].all fun x => x.oneCell') = true := by rfl) : V w0 w (gB e s • F) := by
  refine V.GV (pb := pb) (pr := pr) (pw := pw) (pt := pt) (pm := pm) (ph := ph) (bl := bl) (u0 := u0) (u1 := u1) (u2 := u2) (u3 := u3) (u4 := u4) (u5 := u5) (u6 := u6) (u7 := u7) (u8 := u8) (u9 := u9) (ua := ua) h1 hp ?_
  rw [hi]
  exact (H.BK (c := s.was) (u := [u0, u1, u2, u3, u4, u5, u6, u7, u8, u9, ua]) hu).of_eq (by ac_rfl)
theorem VX : iG [] [] = 0 := rfl
theorem Ny (hl : List pz) (l : List Int) (E : List (List Int)) (a : Nat) (m : Int) : PD hl (lZ.fresh l E a hl.length m) := ⟨by simp [lZ.fresh], by simp [lZ.fresh], by simp [lZ.fresh]⟩
theorem KL (hl : List pz) (base most : Int) : lM (dF.new hl base most) :=
  ⟨Ny _ _ _ _ _, by simp [dF.new], by simp [dF.new], by simp [dF.new], by simp [dF.new, dF.here, lZ.fresh, iG], by simp [dF.new, lZ.fresh]⟩
theorem PZ (H : V w0 w (gQ h hl base most • F)) : gI prog 57 #[.pointer (some ⟨h, 0, none⟩)] w fun v w' => ∃ e, v = .tuple #[.pointer (some ⟨e, 0, none⟩), .int .i64 0] ∧ V w0 w' (gB e (dF.new hl base most) • gQ h hl base most • F) := by
  refine gG func57 ntmps57 ?_
  refine iE (fU O (vk O (bP O (dS O func109 (qZ H) ?_))))
  rintro _ w1 ⟨q1, rfl, H1⟩
  refine aV (fV iT O O) (iJ (Jk O (fun h1 => ?_)))
  (try simp only [Z] at h1)
  refine fZ (iE (aV (dP (zl := [.int .i64 0]) (pl := [(0, 0), (0, 0), (0, 1)]) [_] underlying161 zeroValue161 O (fun w => by kernel_rfl) O (.zero (zs := []) O (.zero (zs := []) O (.zero (zs := [.int .i64 0]) O .nil))) O) (jr (iD (l := [_]) H1 O O) ?_)))
  rintro _ w2 ⟨b2, rfl, H2⟩
  refine aV (dP (zl := [.pointer none, .pointer none, .pointer none, .map none, .int .i64 0, .bool false, .int .i64 0, .int .i64 0, .int .i64 0, .int .i64 0, .bool false, .pointer none, .pointer none, .bool false, .bool false, .int .i64 0, .bool false, .pointer none, .pointer none, .pointer none, .map none, .int .i64 0, .bool false, .int .i64 0, .int .i64 0, .int .i64 0, .int .i64 0, .bool false, .int .i64 0, .bool false, .bool false, .bool false, .bool false, .slice none 0 0]) (pl := [(0, 11), (11, 1), (12, 1), (13, 1), (14, 1), (15, 1), (16, 1), (17, 11), (28, 1), (29, 1), (30, 1), (31, 1), (32, 1), (33, 1)]) [_, _, _, _, _, _, _, _, _, _, _, _, _, _, _, _, _, _, _, _, _, _, _, _, _, _, _, _, _, _, _, _, _, _] ah zeroValue82 O (fun w => by kernel_rfl) O (.zero (zs := [.pointer none, .pointer none, .pointer none, .map none, .int .i64 0, .bool false, .int .i64 0, .int .i64 0, .int .i64 0, .int .i64 0, .bool false]) O (.zero (zs := [.pointer none]) O (.on (.zero (zs := [.bool false]) O (.zero (zs := [.bool false]) O (.zero (zs := [.int .i64 0]) O (.zero (zs := [.bool false]) O (.zero (zs := [.pointer none, .pointer none, .pointer none, .map none, .int .i64 0, .bool false, .int .i64 0, .int .i64 0, .int .i64 0, .int .i64 0, .bool false]) O (.zero (zs := [.int .i64 0]) O (.zero (zs := [.bool false]) O (.zero (zs := [.bool false]) O (.zero (zs := [.bool false]) O (.zero (zs := [.bool false]) O (.zero (zs := [.slice none 0 0]) O .nil)))))))))))))) O) ?_
  refine jr (iD (l := [_, _, _, _, _, _, _, _, _, _, _, _, _, _, _, _, _, _, _, _, _, _, _, _, _, _, _, _, _, _, _, _, _, _]) H2 O O) ?_
  rintro _ w3 ⟨b3, rfl, H3⟩
  refine gJ O (bP O (dS O func110 (Ko H3) ?_))
  rintro _ w4 ⟨p4, rfl, H4⟩
  refine dJ O (bD 0 ah O aQ O (bD 1 aG O sizeOf73 O (aH (dZ 1 H4.f2 sizeOf73) ?_)))
  rintro _ w5 H5
  refine qH O (bQ O (dS O func111 (Bd (E := []) (a := 0) H5.f4.right.f3.f3.f4.f4 (l := []) (fun W _ => fP.nil W _ none 0 (by decide)) (by decide)) ?_))
  rintro _ w6 ⟨qb, qw, qt, qm, qh, H6⟩
  refine qH O (fU O (eY O (Jl results57 O O ?_)))
  exact ⟨_, O, V.PY (s := dF.new hl base most) (KL _ _ _) O O H6.f7.f9.f8.f8.f8.f8.f9.f9.f9⟩
end
section
variable {w0 w : World} {F : HP} {e p h pr : Nat} {s : dF} {hl : List pz} {base most m : Int} {v : Value} {l : List Int}
theorem vG (h : s.inn = false) : s.jW = { s with inn := true, was := s.c, cls := 0, killed := false, lu := false, argues := false, whole := true, put := [] } := by unfold dF.jW; rw [if_neg (by simp [h])]
theorem GX (h : s.inn = true) : s.jW = s := by unfold dF.jW; rw [if_pos h]
theorem Rk {G : List (List iR)} {N : List iR} (h : iG G N ≤ 16384) : iG G [] ≤ 16384 := by unfold iG at *; simp at *; omega
theorem Nz (h : lM s) (hi : s.inn = false) : lM s.jW := by
  rw [vG hi]
  obtain ⟨h1, h2, h3, h4, h5, h6⟩ := h
  exact ⟨h1, fun _ => ⟨h1, Rk h5, h6⟩, h3, by simp, Rk h5, h6⟩
theorem Dj (H : V w0 w (gB e s • F)) : gI prog 29 #[.pointer (some ⟨e, 0, none⟩)] w fun v w' => v = .int .i64 s.BA ∧ V w0 w' (gB e s.jW • F) := by
 refine gG func29 ntmps29 ?_
 refine jg O (aP (aY (bP O (dS O func65 (oQ H) ?_))))
 rintro _ _ ⟨rfl, rfl⟩
 refine gJ O (qy (aP ?_))
 obtain ⟨xG, xH, xI, xJ, xK, xM, xO, xP, uy, rV, rW, rX, rY, rZ, su, sD, sF, sG, sH, sJ, iw, dD, kV, iI⟩ := (H).Gp
 refine aC (nD O O (bD 16 ah O aO O (fG bK O (iI).get.2 O (gJ O (bJ O (fun h1 => ?_) (fun h1 => ?_))))))
 ·(try simp only [Z] at h1)
  have hin := h1
  refine jC O (aT (aF (dG results29 O ?_)))
  exact ⟨by unfold dF.BA; rw [if_pos hin], by rw [GX hin]; exact V.iH iw dD iI.f11.f11.f11.f11.f11.f11.f11.f11.f11.f11.f11⟩
 ·(try simp only [Z] at h1)
  have hin := h1
  refine bY (aJ (aX (bP O (jJ O O (dJ O (bD 0 ah O aQ O (aV (nS 0 (xs := [_, _, _, _, _, _, _, _, _, _, _]) aG O aQ O O (iI).get.2 O) (dS O func80 (Na iI.f6.f6.f6.f6.f6) ?_))))))))
  rintro _ w3 ⟨qb3, qr3, qw3, qt3, qm3, rfl, H3⟩
  refine dJ O (bD 16 ah O aO O (aH (dZ 16 H3.f11 aO) ?_))
  rintro _ w4 H4
  refine dJ O (bD 17 ah O aQ O (aH (bU 17 (l' := [_, _, _, _, _, _, _, _, _, _, _, _, _, _, _, _, _, _, _, _, _, _, _, _, _, _, _, _, _, _, _, _, _, _]) (us := [_, _, _, _, _, _, _, _, _, _, _]) H4 aQ O O O (ay (ay (ay (ay (ay (ay (ay (ay (ay (ay (ay bF))))))))))) O O) ?_))
  rintro _ w5 H5
  refine qH O (jJ O O (jJ O O (nD O O (bD 28 ah O aj O (aH (dZ 28 H5 aj) ?_)))))
  rintro _ w6 H6
  refine dJ O (bD 29 ah O aO O (aH (dZ 29 H6 aO) ?_))
  rintro _ w7 H7
  refine dJ O (bD 30 ah O aO O (aH (dZ 30 H7 aO) ?_))
  rintro _ w8 H8
  refine dJ O (bD 31 ah O aO O (aH (dZ 31 H8 aO) ?_))
  rintro _ w9 H9
  refine dJ O (bD 32 ah O aO O (aH (dZ 32 H9 aO) ?_))
  rintro _ w10 pV
  refine dJ O (bD 33 ah O bH O (aH (dZ 33 pV bH) ?_))
  rintro _ DU qo
  refine iJ (jC O (dG results29 O ?_))
  have PO := qo.f6.f6.f6.f6.f6
  have PS := V.aax (c := s.c) PO
  exact ⟨by unfold dF.BA; rw [if_neg (by simp [hin])], by rw [vG hin]; exact V.GV (vG hin ▸ Nz iw hin) O PS.f10.right.f10.right.f10.right.f9.f9.f9.f9.f9.f9.f9.f9⟩
end
section
variable {w0 w : World} {F : HP} {e p h pr : Nat} {s : dF} {x : Int} {b : Bool}
theorem JC (h : lM s) (L : List Int) (pt mk : Int) : lM (s.yR L pt mk) := h
theorem EC (H : V w0 w (gB e s • F)) : gI prog 30 #[.pointer (some ⟨e, 0, none⟩), .int .i64 x] w fun v w' => v = .int .i64 (s.Js x) ∧ V w0 w' (gB e (s.Eu x) • F) := by
 refine oq func30 ntmps30 ?_
 refine jg O (aP (bP O (dS O func81 (tJ H) ?_)))
 rintro _ _ ⟨rfl, rfl⟩
 refine gJ O (bP O (aV (iO O O) (jh O (fun h1 => ?_) (fun h1 => ?_))))
 ·(try simp only [Z] at h1)
  obtain ⟨hin, hpe⟩ := Q8 h1
  refine bP O (eY O (aF (dG results30 O ?_)))
  rw [hpe]
  exact ⟨by simp [dF.Js, dF.Eu, hin], by rw [show s.Eu x = s from by simp [dF.Js, dF.Eu, hin]]; exact H⟩
 ·(try simp only [Z] at h1)
  have hin := Ns h1
  refine fZ (aP ?_)
  obtain ⟨xG, xH, xI, xJ, xK, xM, xO, xP, uy, rV, rW, rX, rY, rZ, su, sD, sF, sG, sH, sJ, iw, dD, kV, iI⟩ := (H).Gp
  refine aC (nD O O (bD 0 ah O aQ O (bD 0 aG O vF O (fG pX O (iI).get.2 O (bQ O (dS O func82 (J8 iI.f2) ?_))))))
  rintro _ w3 ⟨rfl, H3⟩
  refine eY O (dG results30 O ?_)
  exact ⟨by simp [dF.Js, hin], by rw [show s.Eu x = s.yR s.c.L (mvP s.c.L.length s.c.pt x) s.c.mark from by simp [dF.Eu, hin]]; exact V.iH (JC iw _ _ _) dD H3.f11.f11.f11.f11.f11.f11.f11.f11.f11.f10.f11⟩
theorem NC (H : V w0 w (gB e s • F)) : gI prog 62 #[.pointer (some ⟨e, 0, none⟩), .int .i64 x] w fun v w' => v = .int .i64 (s.ru x) ∧ V w0 w' (gB e (s.yg x) • F) := by
 refine oq func62 ntmps62 ?_
 refine jg O (aP (bP O (dS O func81 (tJ H) ?_)))
 rintro _ _ ⟨rfl, rfl⟩
 refine gJ O (bP O (aV (iO O O) (jh O (fun h1 => ?_) (fun h1 => ?_))))
 ·(try simp only [Z] at h1)
  obtain ⟨hin, hpe⟩ := Q8 h1
  refine bP O (eY O (aF (dG results62 O ?_)))
  rw [hpe]
  exact ⟨by simp [dF.ru, dF.yg, hin], by rw [show s.yg x = s from by simp [dF.ru, dF.yg, hin]]; exact H⟩
 ·(try simp only [Z] at h1)
  have hin := Ns h1
  refine fZ (aP (bP O (aV (iL O O) (jP O (fun h2 => ?_) (fun h2 => ?_)))))
  ·(try simp only [Z] at h2)
   refine bI (bI (jF O O (iJ (EK (jC O (aF (dG results62 O ?_)))))))
   have hd : s.ru x = 1 := by unfold dF.ru; rw [if_pos hin, if_pos (by omega)]
   exact ⟨by rw [hd], by unfold dF.yg; rw [hd, if_neg (by decide)]; exact H⟩
  ·(try simp only [Z] at h2)
   refine bC (bQ O (bC (aV (iV O O) (iM O O (jh O (fun h3 => ?_) (fun h3 => ?_))))))
   ·(try simp only [Z] at h3)
    refine jC O (aF (dG results62 O ?_))
    have hd : s.ru x = 1 := by unfold dF.ru; rw [if_pos hin, if_pos (by omega)]
    exact ⟨by rw [hd], by unfold dF.yg; rw [hd, if_neg (by decide)]; exact H⟩
   ·(try simp only [Z] at h3)
    refine fZ (aP ?_)
    have hd : s.ru x = 0 := by unfold dF.ru; rw [if_pos hin, if_neg (by omega)]
    obtain ⟨xG, xH, xI, xJ, xK, xM, xO, xP, uy, rV, rW, rX, rY, rZ, su, sD, sF, sG, sH, sJ, iw, dD, kV, iI⟩ := (H).Gp
    refine aC (jJ O O (dJ O (bD 0 ah O aQ O (bD 4 aG O aj O (aH (dZ 4 iI aj) ?_)))))
    rintro _ w3 H3
    refine iJ (jC O (dG results62 O ?_))
    rw [hd]
    refine ⟨O, ?_⟩
    unfold dF.yg
    rw [if_pos hd]
    exact V.iH (s := { s with c := { s.c with mode := x } }) iw dD H3.f11.f11.f11.f11.f11.f11.f11.f11.f11.f11.f11
theorem KO (H : V w0 w (gB e s • F)) : gI prog 72 #[.pointer (some ⟨e, 0, none⟩)] w fun v w' => v = .int .i64 s.count ∧ V w0 w' (gB e s • F) := by
 refine gG func72 ntmps72 ?_
 refine jg O (aP (aY (bP O (dS O func65 (oQ H) ?_))))
 rintro _ _ ⟨rfl, rfl⟩
 refine gJ O (qy (aP ?_))
 obtain ⟨xG, xH, xI, xJ, xK, xM, xO, xP, uy, rV, rW, rX, rY, rZ, su, sD, sF, sG, sH, sJ, iw, dD, kV, iI⟩ := (H).Gp
 have harg := iw.2.2.1
 refine aC (nD O O (bD 13 ah O aO O (fG bK O (iI).get.2 O (aV (lY O) (gJ O (bJ O (fun h1 => ?_) (fun h1 => ?_)))))))
 ·(try simp only [Z] at h1)
  have hg := h1
  refine jC O (aT (aF (dG results72 O ?_)))
  have O4 := iI.f11.f11.f11.f11.f11.f11.f11.f11.f11.f11.f11
  have Oy := V.iH (s := s) iw dD O4
  exact ⟨by unfold dF.count; simp only [*]; first | rfl | (split <;> simp_all <;> omega) | simp_all, Oy⟩
 ·(try simp only [Z] at h1)
  have hg := h1
  refine bY (aJ (aX (bP O (dJ O (bD 15 ah O aj O (fG aK O (iI).get.2 O (vk O (bP O (aV (iL O O) (jh O (fun h2 => ?_) (fun h2 => ?_)))))))))))
  ·(try simp only [Z] at h2)
   refine aC (vk O (bP O (dJ O (bD 14 ah O aO O (fG bK O (iI).get.2 O (jh O (fun h3 => ?_) (fun h3 => ?_)))))))
   ·(try simp only [Z] at h3)
    refine bP O (aV (YP O (by omega)) (eY O (aF (dG results72 O ?_))))
    have U3 := iI.f11.f11.f11.f11.f11.f11.f11.f11.f11.f11.f11
    have U4 := V.iH (s := s) iw dD U3
    exact ⟨by unfold dF.count; simp only [*]; first | rfl | (split <;> simp_all <;> omega) | simp_all, U4⟩
   ·(try simp only [Z] at h3)
    refine fZ (bP O (eY O (dG results72 O ?_)))
    have U8 := iI.f11.f11.f11.f11.f11.f11.f11.f11.f11.f11.f11
    have U9 := V.iH (s := s) iw dD U8
    exact ⟨by unfold dF.count; simp only [*]; first | rfl | (split <;> simp_all <;> omega) | simp_all, U9⟩
  ·(try simp only [Z] at h2)
   refine fZ (aP (bP O (dJ O (bD 14 ah O aO O (fG bK O (iI).get.2 O (jh O (fun h4 => ?_) (fun h4 => ?_)))))))
   ·(try simp only [Z] at h4)
    refine bP O (aV (YP O (by omega)) (eY O (aF (dG results72 O ?_))))
    have aay := iI.f11.f11.f11.f11.f11.f11.f11.f11.f11.f11.f11
    have aaz := V.iH (s := s) iw dD aay
    exact ⟨by unfold dF.count; simp only [*]; first | rfl | (split <;> simp_all <;> omega) | simp_all, aaz⟩
   ·(try simp only [Z] at h4)
    refine fZ (bP O (eY O (dG results72 O ?_)))
    have adC := iI.f11.f11.f11.f11.f11.f11.f11.f11.f11.f11.f11
    have adD := V.iH (s := s) iw dD adC
    exact ⟨by unfold dF.count; simp only [*]; first | rfl | (split <;> simp_all <;> omega) | simp_all, adD⟩
theorem KP (H : V w0 w (gB e s • F)) : gI prog 73 #[.pointer (some ⟨e, 0, none⟩)] w fun v w' => v = .bool s.given ∧ V w0 w' (gB e s • F) := by
  refine gG func73 ntmps73 ?_
  refine jg O (bP O (dS O func65 (oQ H) ?_))
  rintro _ _ ⟨rfl, rfl⟩
  refine aV (lY O) ?_
  obtain ⟨xG, xH, xI, xJ, xK, xM, xO, xP, uy, rV, rW, rX, rY, rZ, su, sD, sF, sG, sH, sJ, iw, dD, kV, iI⟩ := (H).Gp
  refine xsE O (fun h1 => ?_)
  (try simp only [Z] at h1)
  refine bC (bQ O (bC (dJ O (bC (bD 13 ah O aO O (bC (fG bK O (iI).get.2 O (jF O O (eY O (dG results73 O ?_))))))))))
  have O4 := iI.f11.f11.f11.f11.f11.f11.f11.f11.f11.f11.f11
  have Oy := V.iH (s := s) iw dD O4
  exact ⟨O, Oy⟩
theorem zU (H : V w0 w (gB e s • F)) : gI prog 28 #[.pointer (some ⟨e, 0, none⟩)] w fun v w' => ∃ u, v = .agg (rO u s.c.pt s.c.mark) ∧ V w0 w' (kQ 21 .i32 u s.c.L • gB e s • F) := by
 refine gG func28 ntmps28 ?_
 refine iE (jr (fH (l := [_, _, _]) H zeroValue46 O) ?_)
 rintro _ w1 ⟨b1, rfl, H1⟩
 refine pJ (bP O (dS O func65 (oQ H1.f2) ?_))
 rintro _ _ ⟨rfl, rfl⟩
 refine iJ (qy (fZ (aP ?_)))
 obtain ⟨xG, xH, xI, xJ, xK, xM, xO, xP, uy, rV, rW, rX, rY, rZ, su, sD, sF, sG, sH, sJ, iw, dD, kV, iI⟩ := (H1.f2).Gp
 refine aC (nD O O (bD 0 ah O aQ O (bD 0 aG O vF O (fG pX O (iI).get.2 O (dS O func79 (CP iI.f2) ?_)))))
 rintro _ w4 ⟨u4, rfl, H4⟩
 refine aH (bU 0 (l' := [_, _, _]) (us := [_, _, _]) H4.f13 sizeOf46 O O O (aW (by first | rfl | exact Rd.one ((H4).aS)) (ay (ay bF))) O O) ?_
 rintro _ w5 H5
 refine YW ?_
 refine pO (.inl O) (JX results28 O jl O (by rw [Uy]; rfl) (H5).get.2) ?_
 have U3 := H5.f13.f13.f13.f13.f13.f13.f13.f13.f13.f12.f13
 have U4 := V.iH (s := s) iw dD U3
 exact ⟨_, O, U4.f2.right.f2⟩
end
end Go.Proofs.YtpdeedplgmbopaaGreatDoor
end
section
namespace Go.Proofs.YtpdeedplgmbopaaGreatDoor
open Go.RowKit
theorem VY {s : dF} {x : iR} (h : x.2.1.length + x.2.2.length = 0) : s.QO x = s := by unfold dF.QO; rw [if_pos h]
theorem nY (G : List (List iR)) (N : List iR) : iG G N = iG G [] + N.length := by unfold iG; simp
section
variable {w0 w : World} {F : HP} {e p h pr : Nat} {s : dF} {i j x : Int} {b : Bool} {v : Value} {l : List Int}
end
section
variable {w0 w : World} {F : HP} {e p h pr : Nat} {s : dF} {i j x : Int} {back : Bool} {v : Value} {l : List Int}
theorem VZ {E : List (List Int)} (h : ∀ x ∈ E, x.length ≤ 1024) (k : Nat) : (E.getD k []).length ≤ 1024 := by
  rw [List.getD_eq_getElem?_getD]
  cases hk : E[k]? with
  | none => simp
  | some x => exact h x (List.mem_of_getElem? hk)
end
end Go.Proofs.YtpdeedplgmbopaaGreatDoor
end
