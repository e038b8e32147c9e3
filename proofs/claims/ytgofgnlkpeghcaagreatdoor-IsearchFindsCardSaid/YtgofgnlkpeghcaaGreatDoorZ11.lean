import Derived.Test.YtgofgnlkpeghcaaGreatDoorZ4
import Derived.Test.YtgofgnlkpeghcaaGreatDoorZ10
import Derived.Test.YtgofgnlkpeghcaaGreatDoorZ3
set_option linter.unusedSimpArgs false
set_option linter.unusedVariables false
/- Texts of mine, joined, their names in short: EdB EdC EdMv EdR EdK. -/
section
namespace Go.Proofs.YtgofgnlkpeghcaaGreatDoor
open Go.RowKit
open _root_.Go.Proofs.Tryz
section
variable {w0 w : World} {F : HP} {e p h pr : Nat} {s : dw} {hl : List oH} {base most m : Int} {v : Value} {l : List Int}
theorem V.zZ {b : Nat} (H : V w0 w (jM vF b (fun _ => none) • F)) : V w0 w (Ag b (fun _ => []) • F) :=
  V.FX (D := []) (P := fun _ => 0) List.nodup_nil (fun _ _ => rfl) (by rw [X8]; exact H.of_eq (by show _ = (_ • emp • _); rw [YtgofgnlkpeghcaaGreatDoor.qL]))
set_option maxHeartbeats 1000000 in
theorem Gz {x0 x2 x3 x5 x6 x7 x8 x9 x10 x11 x12 tZ x14 x15 x16 x17 x18 x19 x20 x21 uq x23 x24 x25 uz x27 x28 x29 x30 x31 x32 uX : Value} {E : List (List Int)} {a : Nat} (H : V w0 w (eF e (.cells (x0 :: .pointer (some ⟨pr, 0, none⟩) :: x2 :: x3 :: .int .i64 m :: x5 :: x6 :: x7 :: x8 :: x9 :: x10 :: x11 :: x12 :: tZ :: x14 :: x15 :: x16 :: x17 :: x18 :: x19 :: x20 :: x21 :: uq :: x23 :: x24 :: x25 :: uz :: x27 :: x28 :: x29 :: x30 :: x31 :: x32 :: uX :: []).toArray 113 (0, 0)) • iI h hl base most • F)) (hr : jm w0 F .i32 v l) (hshort : l.length ≤ 1024) :
  iM prog 55 #[.pointer (some ⟨e, 0, none⟩), .pointer (some ⟨h, 0, none⟩), v] w fun _ w' => ∃ pb pw pt pm ph, V w0 w' (eF e (.cells (.pointer (some ⟨pb, 0, none⟩) :: .pointer (some ⟨pr, 0, none⟩) :: .pointer (some ⟨pw, 0, none⟩) :: .map (some pm) :: .int .i64 m :: .bool false :: .int .i64 0 :: .int .i64 0 :: .int .i64 0 :: .int .i64 0 :: .bool false :: .pointer (some ⟨ph, 0, none⟩) :: x12 :: .bool false :: .bool false :: .int .i64 (-1) :: x16 :: x17 :: x18 :: x19 :: x20 :: x21 :: uq :: x23 :: x24 :: x25 :: uz :: x27 :: x28 :: x29 :: x30 :: x31 :: x32 :: uX :: []).toArray 113 (0, 0)) •
   ji pb l l.length (-1) • eF pw (.cells #[.int .i64 hl.length, .map (some pt)] 130 (0, 0)) • jM vF pt (fun _ => none) • Ag pm (fun _ => []) • iI ph hl base most • iI h hl base most • F) := by
 refine NC func55 ntmps55 ?_
 refine bY O (fE O func63 (KF H (fun W HW => hr _ (HW.right.right)) hshort) ?_)
 rintro _ w1 ⟨p1, rfl, H1⟩
 refine bT O (sD O O (sD O O (iC O (iP O (bY O (bT O (fE O func53 (xY H1.f3) ?_)))))))
 rintro _ w2 ⟨q2, rfl, H2⟩
 refine dO O (bn 11 ah O sizeOf54 O (aI (gV 11 H2.f4 sizeOf54) ?_))
 rintro _ w3 H3
 refine rV ?_
 have acR := H3.drew
 have CQ := V.kp (acR.f3.right.f3.f3.f3)
 refine uU [6, 17] CQ O (gQ 0 O CQ O (gQ 1 O CQ O (gQ 2 O CQ O (jQ 3 O CQ O (fQ 4 O CQ 0 ah O aS O (fQ 5 O CQ 1 aK O sizeOf106 O (iO 6 O CQ (fun W hW => jT underlying106 O ((Kp.h hW)).get.2 O) (gQ 7 O CQ O (gQ 13 O CQ O (jQ 14 O CQ O (fQ 15 O CQ 0 ah O aS O (fQ 16 O CQ 4 aK O aj O (iO 17 O CQ (fun W hW => jT aB O ((Kp.h hW)).get.2 O) ?_)))))))))))))
 refine Z5 (i := 8) (j := 9) (k := 12) (by kernel_rfl) ?_ ?_ ?_
 ·skip
  refine ng 8 O (by kernel_rfl) (Ae (Af O func60 O O) (ru acR.f3)) (lI O) ?_
  rintro _ w4 ⟨rfl, H4⟩
  have uZ := V.kp (H4.f4.f4.f4.f4)
  refine dZ uZ (fun W hW => (Kp.h hW).right.f3.f3.f3) ?_
  refine CZ (i := 9) (j := 12) (by kernel_rfl) ?_ ?_
  ·skip
   refine ng 9 O (by kernel_rfl) (pq (Gj .i64) H4) (lI O) ?_
   rintro _ w5 ⟨b5, rfl, H5⟩
   have vw := V.kp (H5.f5.f5.f5.f5.f5)
   refine dZ vw (fun W hW => (Kp.h hW).right.f4.f4.f4.f4) ?_
   refine iL 10 O vw (fun _ => fA (zl := [.int .i64 0, .map none]) (pl := [(0, 1), (1, 1)]) [_, _] fF rH O (fun w => by kernel_rfl) O (.on (.on .nil)) O) ?_
   refine CZ (i := 11) (j := 12) (by kernel_rfl) ?_ ?_
   ·skip
    refine ng 11 O (by kernel_rfl) (jo (l := [_, _]) H5 O O) (lI O) ?_
    rintro _ w6 ⟨b6, rfl, H6⟩
    have wJ := V.kp (H6.f6.f6.f6.f6.f6.f6)
    refine dZ wJ (fun W hW => (Kp.h hW).right.f5.f5.f5.f5.f5) ?_
    refine lU 12 O (pq (Gj .i64) H6) ?_
    rintro _ w7 ⟨b7, rfl, H7⟩
    have BK := V.kp (H7.f7.f7.f7.f7.f7.f7.f7)
    refine dZ BK (fun W hW => (Kp.h hW).right.f6.f6.f6.f6.f6.f6) ?_
    refine iL 18 O BK (fun _ => fA (zl := [.pointer none, .pointer none, .pointer none, .map none, .int .i64 0, .bool false, .int .i64 0, .int .i64 0, .int .i64 0, .int .i64 0, .bool false]) (pl := [(0, 1), (1, 1), (2, 1), (3, 1), (4, 1), (5, 1), (6, 1), (7, 1), (8, 1), (9, 1), (10, 1)]) [_, _, _, _, _, _, _, _, _, _, _] aK oK O (fun w => by kernel_rfl) O (.on (.on (.on (.on (.on (.zero (zs := [.bool false]) O (.zero (zs := [.int .i64 0]) O (.zero (zs := [.int .i64 0]) O (.zero (zs := [.int .i64 0]) O (.zero (zs := [.int .i64 0]) O (.zero (zs := [.bool false]) O .nil))))))))))) O) ?_
    refine jQ 19 O BK O (fQ 20 O BK 0 ah O aS O ?_)
    refine gU 21 O (by kernel_rfl) (dG 0 (l' := [_, _, _, _, _, _, _, _, _, _, _, _, _, _, _, _, _, _, _, _, _, _, _, _, _, _, _, _, _, _, _, _, _, _]) (us := [_, _, _, _, _, _, _, _, _, _, _]) H7.f5 aS O O O (aG (aG (aG (aG (aG (aG (aG (aG (aG (aG (aG bK))))))))))) O O) ?_
    rintro _ w8 H8
    have LK := V.kp (H8.f7.f7.f7.f7.f7.f7.f7)
    refine fH LK (by kernel_rfl) ?_
    refine qj (aZ (aA (jy O O (mJ O O (bn 13 ah O aQ O (aI (gV 13 H8 aQ) ?_))))))
    rintro _ w9 H9
    refine dO O (bn 14 ah O aQ O (aI (gV 14 H9 aQ) ?_))
    rintro _ w10 sF
    refine dO O (bn 15 ah O aj O (aI (gV 15 sF aj) ?_))
    rintro _ Iq sG
    refine bZ (kY (.inr O) results55 ?_)
    have WR := sG.f2
    have WS := WR.zZ
    exact ⟨_, _, _, _, _, WS.f5.f6.f3.f6.f6.f7.f7⟩
   ·skip
    refine ng 12 O (by kernel_rfl) (pq (Gj .i64) H5) (lI O) ?_
    rintro _ TL ⟨b14, rfl, Dh⟩
    have IW := V.kp (Dh.f6.f6.f6.f6.f6.f6)
    refine dZ IW (fun W hW => (Kp.h hW).right.f5.f5.f5.f5.f5) ?_
    refine lU 11 O (jo (l := [_, _]) Dh O O) ?_
    rintro _ Ws ⟨b15, rfl, CG⟩
    have CO := V.kp (CG.f7.f7.f7.f7.f7.f7.f7)
    refine dZ CO (fun W hW => (Kp.h hW).right.f6.f6.f6.f6.f6.f6) ?_
    refine iL 18 O CO (fun _ => fA (zl := [.pointer none, .pointer none, .pointer none, .map none, .int .i64 0, .bool false, .int .i64 0, .int .i64 0, .int .i64 0, .int .i64 0, .bool false]) (pl := [(0, 1), (1, 1), (2, 1), (3, 1), (4, 1), (5, 1), (6, 1), (7, 1), (8, 1), (9, 1), (10, 1)]) [_, _, _, _, _, _, _, _, _, _, _] aK oK O (fun w => by kernel_rfl) O (.on (.on (.on (.on (.on (.zero (zs := [.bool false]) O (.zero (zs := [.int .i64 0]) O (.zero (zs := [.int .i64 0]) O (.zero (zs := [.int .i64 0]) O (.zero (zs := [.int .i64 0]) O (.zero (zs := [.bool false]) O .nil))))))))))) O) ?_
    refine jQ 19 O CO O (fQ 20 O CO 0 ah O aS O ?_)
    refine gU 21 O (by kernel_rfl) (dG 0 (l' := [_, _, _, _, _, _, _, _, _, _, _, _, _, _, _, _, _, _, _, _, _, _, _, _, _, _, _, _, _, _, _, _, _, _]) (us := [_, _, _, _, _, _, _, _, _, _, _]) CG.f5 aS O O O (aG (aG (aG (aG (aG (aG (aG (aG (aG (aG (aG bK))))))))))) O O) ?_
    rintro _ w16 yj
    have IZ := V.kp (yj.f7.f7.f7.f7.f7.f7.f7)
    refine fH IZ (by kernel_rfl) ?_
    refine qj (aZ (aA (jy O O (mJ O O (bn 13 ah O aQ O (aI (gV 13 yj aQ) ?_))))))
    rintro _ w17 EH
    refine dO O (bn 14 ah O aQ O (aI (gV 14 EH aQ) ?_))
    rintro _ ZN EM
    refine dO O (bn 15 ah O aj O (aI (gV 15 EM aj) ?_))
    rintro _ ZO DY
    refine bZ (kY (.inr O) results55 ?_)
    have aek := DY.f3
    have aa3 := aek.zZ
    exact ⟨_, _, _, _, _, aa3.f5.f6.f3.f6.f6.f7.f7⟩
  ·skip
   refine ng 12 O (by kernel_rfl) (pq (Gj .i64) H4) (lI O) ?_
   rintro _ w22 ⟨b22, rfl, IQ⟩
   have I8 := V.kp (IQ.f5.f5.f5.f5.f5)
   refine dZ I8 (fun W hW => (Kp.h hW).right.f4.f4.f4.f4) ?_
   refine lU 9 O (pq (Gj .i64) IQ) ?_
   rintro _ YV ⟨b23, rfl, DC⟩
   have EC := V.kp (DC.f6.f6.f6.f6.f6.f6)
   refine dZ EC (fun W hW => (Kp.h hW).right.f5.f5.f5.f5.f5) ?_
   refine iL 10 O EC (fun _ => fA (zl := [.int .i64 0, .map none]) (pl := [(0, 1), (1, 1)]) [_, _] fF rH O (fun w => by kernel_rfl) O (.on (.on .nil)) O) ?_
   refine lU 11 O (jo (l := [_, _]) DC O O) ?_
   rintro _ w24 ⟨b24, rfl, MN⟩
   have Jb := V.kp (MN.f7.f7.f7.f7.f7.f7.f7)
   refine dZ Jb (fun W hW => (Kp.h hW).right.f6.f6.f6.f6.f6.f6) ?_
   refine iL 18 O Jb (fun _ => fA (zl := [.pointer none, .pointer none, .pointer none, .map none, .int .i64 0, .bool false, .int .i64 0, .int .i64 0, .int .i64 0, .int .i64 0, .bool false]) (pl := [(0, 1), (1, 1), (2, 1), (3, 1), (4, 1), (5, 1), (6, 1), (7, 1), (8, 1), (9, 1), (10, 1)]) [_, _, _, _, _, _, _, _, _, _, _] aK oK O (fun w => by kernel_rfl) O (.on (.on (.on (.on (.on (.zero (zs := [.bool false]) O (.zero (zs := [.int .i64 0]) O (.zero (zs := [.int .i64 0]) O (.zero (zs := [.int .i64 0]) O (.zero (zs := [.int .i64 0]) O (.zero (zs := [.bool false]) O .nil))))))))))) O) ?_
   refine jQ 19 O Jb O (fQ 20 O Jb 0 ah O aS O ?_)
   refine gU 21 O (by kernel_rfl) (dG 0 (l' := [_, _, _, _, _, _, _, _, _, _, _, _, _, _, _, _, _, _, _, _, _, _, _, _, _, _, _, _, _, _, _, _, _, _]) (us := [_, _, _, _, _, _, _, _, _, _, _]) MN.f5 aS O O O (aG (aG (aG (aG (aG (aG (aG (aG (aG (aG (aG bK))))))))))) O O) ?_
   rintro _ w25 NZ
   have aa4 := V.kp (NZ.f7.f7.f7.f7.f7.f7.f7)
   refine fH aa4 (by kernel_rfl) ?_
   refine qj (aZ (aA (jy O O (mJ O O (bn 13 ah O aQ O (aI (gV 13 NZ aQ) ?_))))))
   rintro _ w26 Gh
   refine dO O (bn 14 ah O aQ O (aI (gV 14 Gh aQ) ?_))
   rintro _ w27 JO
   refine dO O (bn 15 ah O aj O (aI (gV 15 JO aj) ?_))
   rintro _ w28 ZP
   refine bZ (kY (.inr O) results55 ?_)
   have ael := ZP.f4
   have aem := ael.zZ
   exact ⟨_, _, _, _, _, aem.f5.f6.f3.f6.f6.f7.f7⟩
 ·skip
  refine ng 9 O (by kernel_rfl) (pq (Gj .i64) acR) (lI O) ?_
  rintro _ w31 ⟨b31, rfl, Rz⟩
  have aa5 := V.kp (Rz.f4.right.f4.f4.f4.f4)
  refine dZ aa5 (fun W hW => (Kp.h hW).right.f3.f3.f3) ?_
  refine CZ (i := 8) (j := 12) (by kernel_rfl) ?_ ?_
  ·skip
   refine ng 8 O (by kernel_rfl) (Ae (Af O func60 O O) (ru Rz.f4)) (lI O) ?_
   rintro _ w32 ⟨rfl, Pn⟩
   have Ya := V.kp (Pn.f5.f5.f5.f5.f5)
   refine dZ Ya (fun W hW => (Kp.h hW).right.f4.f4.f4.f4) ?_
   refine iL 10 O Ya (fun _ => fA (zl := [.int .i64 0, .map none]) (pl := [(0, 1), (1, 1)]) [_, _] fF rH O (fun w => by kernel_rfl) O (.on (.on .nil)) O) ?_
   refine CZ (i := 11) (j := 12) (by kernel_rfl) ?_ ?_
   ·skip
    refine ng 11 O (by kernel_rfl) (jo (l := [_, _]) Pn O O) (lI O) ?_
    rintro _ w33 ⟨b33, rfl, TM⟩
    have Yb := V.kp (TM.f6.f6.f6.f6.f6.f6)
    refine dZ Yb (fun W hW => (Kp.h hW).right.f5.f5.f5.f5.f5) ?_
    refine lU 12 O (pq (Gj .i64) TM) ?_
    rintro _ w34 ⟨b34, rfl, UU⟩
    have KN := V.kp (UU.f7.f7.f7.f7.f7.f7.f7)
    refine dZ KN (fun W hW => (Kp.h hW).right.f6.f6.f6.f6.f6.f6) ?_
    refine iL 18 O KN (fun _ => fA (zl := [.pointer none, .pointer none, .pointer none, .map none, .int .i64 0, .bool false, .int .i64 0, .int .i64 0, .int .i64 0, .int .i64 0, .bool false]) (pl := [(0, 1), (1, 1), (2, 1), (3, 1), (4, 1), (5, 1), (6, 1), (7, 1), (8, 1), (9, 1), (10, 1)]) [_, _, _, _, _, _, _, _, _, _, _] aK oK O (fun w => by kernel_rfl) O (.on (.on (.on (.on (.on (.zero (zs := [.bool false]) O (.zero (zs := [.int .i64 0]) O (.zero (zs := [.int .i64 0]) O (.zero (zs := [.int .i64 0]) O (.zero (zs := [.int .i64 0]) O (.zero (zs := [.bool false]) O .nil))))))))))) O) ?_
    refine jQ 19 O KN O (fQ 20 O KN 0 ah O aS O ?_)
    refine gU 21 O (by kernel_rfl) (dG 0 (l' := [_, _, _, _, _, _, _, _, _, _, _, _, _, _, _, _, _, _, _, _, _, _, _, _, _, _, _, _, _, _, _, _, _, _]) (us := [_, _, _, _, _, _, _, _, _, _, _]) UU.f5 aS O O O (aG (aG (aG (aG (aG (aG (aG (aG (aG (aG (aG bK))))))))))) O O) ?_
    rintro _ w35 ZQ
    have aa6 := V.kp (ZQ.f7.f7.f7.f7.f7.f7.f7)
    refine fH aa6 (by kernel_rfl) ?_
    refine qj (aZ (aA (jy O O (mJ O O (bn 13 ah O aQ O (aI (gV 13 ZQ aQ) ?_))))))
    rintro _ w36 H36
    refine dO O (bn 14 ah O aQ O (aI (gV 14 H36 aQ) ?_))
    rintro _ w37 UW
    refine dO O (bn 15 ah O aj O (aI (gV 15 UW aj) ?_))
    rintro _ w38 QG
    refine bZ (kY (.inr O) results55 ?_)
    have ahc := QG.f2
    have ahd := ahc.zZ
    exact ⟨_, _, _, _, _, ahd.f4.f6.f3.f6.f6.f7.f7⟩
   ·skip
    refine ng 12 O (by kernel_rfl) (pq (Gj .i64) Pn) (lI O) ?_
    rintro _ w41 ⟨b41, rfl, H41⟩
    have aa7 := V.kp (H41.f6.f6.f6.f6.f6.f6)
    refine dZ aa7 (fun W hW => (Kp.h hW).right.f5.f5.f5.f5.f5) ?_
    refine lU 11 O (jo (l := [_, _]) H41 O O) ?_
    rintro _ w42 ⟨b42, rfl, WT⟩
    have QH := V.kp (WT.f7.f7.f7.f7.f7.f7.f7)
    refine dZ QH (fun W hW => (Kp.h hW).right.f6.f6.f6.f6.f6.f6) ?_
    refine iL 18 O QH (fun _ => fA (zl := [.pointer none, .pointer none, .pointer none, .map none, .int .i64 0, .bool false, .int .i64 0, .int .i64 0, .int .i64 0, .int .i64 0, .bool false]) (pl := [(0, 1), (1, 1), (2, 1), (3, 1), (4, 1), (5, 1), (6, 1), (7, 1), (8, 1), (9, 1), (10, 1)]) [_, _, _, _, _, _, _, _, _, _, _] aK oK O (fun w => by kernel_rfl) O (.on (.on (.on (.on (.on (.zero (zs := [.bool false]) O (.zero (zs := [.int .i64 0]) O (.zero (zs := [.int .i64 0]) O (.zero (zs := [.int .i64 0]) O (.zero (zs := [.int .i64 0]) O (.zero (zs := [.bool false]) O .nil))))))))))) O) ?_
    refine jQ 19 O QH O (fQ 20 O QH 0 ah O aS O ?_)
    refine gU 21 O (by kernel_rfl) (dG 0 (l' := [_, _, _, _, _, _, _, _, _, _, _, _, _, _, _, _, _, _, _, _, _, _, _, _, _, _, _, _, _, _, _, _, _, _]) (us := [_, _, _, _, _, _, _, _, _, _, _]) WT.f5 aS O O O (aG (aG (aG (aG (aG (aG (aG (aG (aG (aG (aG bK))))))))))) O O) ?_
    rintro _ w43 WU
    have aa8 := V.kp (WU.f7.f7.f7.f7.f7.f7.f7)
    refine fH aa8 (by kernel_rfl) ?_
    refine qj (aZ (aA (jy O O (mJ O O (bn 13 ah O aQ O (aI (gV 13 WU aQ) ?_))))))
    rintro _ w44 H44
    refine dO O (bn 14 ah O aQ O (aI (gV 14 H44 aQ) ?_))
    rintro _ w45 VR
    refine dO O (bn 15 ah O aj O (aI (gV 15 VR aj) ?_))
    rintro _ w46 H46
    refine bZ (kY (.inr O) results55 ?_)
    have ahe := H46.f3
    have ahf := ahe.zZ
    exact ⟨_, _, _, _, _, ahf.f4.f6.f3.f6.f6.f7.f7⟩
  ·skip
   refine ng 12 O (by kernel_rfl) (pq (Gj .i64) Rz) (lI O) ?_
   rintro _ w49 ⟨b49, rfl, H49⟩
   have afM := V.kp (H49.f5.right.f5.f5.f5.f5.f5)
   refine dZ afM (fun W hW => (Kp.h hW).right.f4.f4.f4.f4) ?_
   refine lU 8 O (wY O func60 (ru H49.f5)) ?_
   rintro _ w50 ⟨rfl, H50⟩
   have adx := V.kp (H50.f6.f6.f6.f6.f6.f6)
   refine dZ adx (fun W hW => (Kp.h hW).right.f5.f5.f5.f5.f5) ?_
   refine iL 10 O adx (fun _ => fA (zl := [.int .i64 0, .map none]) (pl := [(0, 1), (1, 1)]) [_, _] fF rH O (fun w => by kernel_rfl) O (.on (.on .nil)) O) ?_
   refine lU 11 O (jo (l := [_, _]) H50 O O) ?_
   rintro _ w51 ⟨b51, rfl, H51⟩
   have Yc := V.kp (H51.f7.f7.f7.f7.f7.f7.f7)
   refine dZ Yc (fun W hW => (Kp.h hW).right.f6.f6.f6.f6.f6.f6) ?_
   refine iL 18 O Yc (fun _ => fA (zl := [.pointer none, .pointer none, .pointer none, .map none, .int .i64 0, .bool false, .int .i64 0, .int .i64 0, .int .i64 0, .int .i64 0, .bool false]) (pl := [(0, 1), (1, 1), (2, 1), (3, 1), (4, 1), (5, 1), (6, 1), (7, 1), (8, 1), (9, 1), (10, 1)]) [_, _, _, _, _, _, _, _, _, _, _] aK oK O (fun w => by kernel_rfl) O (.on (.on (.on (.on (.on (.zero (zs := [.bool false]) O (.zero (zs := [.int .i64 0]) O (.zero (zs := [.int .i64 0]) O (.zero (zs := [.int .i64 0]) O (.zero (zs := [.int .i64 0]) O (.zero (zs := [.bool false]) O .nil))))))))))) O) ?_
   refine jQ 19 O Yc O (fQ 20 O Yc 0 ah O aS O ?_)
   refine gU 21 O (by kernel_rfl) (dG 0 (l' := [_, _, _, _, _, _, _, _, _, _, _, _, _, _, _, _, _, _, _, _, _, _, _, _, _, _, _, _, _, _, _, _, _, _]) (us := [_, _, _, _, _, _, _, _, _, _, _]) H51.f5 aS O O O (aG (aG (aG (aG (aG (aG (aG (aG (aG (aG (aG bK))))))))))) O O) ?_
   rintro _ w52 H52
   have afN := V.kp (H52.f7.f7.f7.f7.f7.f7.f7)
   refine fH afN (by kernel_rfl) ?_
   refine qj (aZ (aA (jy O O (mJ O O (bn 13 ah O aQ O (aI (gV 13 H52 aQ) ?_))))))
   rintro _ w53 H53
   refine dO O (bn 14 ah O aQ O (aI (gV 14 H53 aQ) ?_))
   rintro _ w54 H54
   refine dO O (bn 15 ah O aj O (aI (gV 15 H54 aj) ?_))
   rintro _ w55 H55
   refine bZ (kY (.inr O) results55 ?_)
   have ahg := H55.f4
   have ahh := ahg.zZ
   exact ⟨_, _, _, _, _, ahh.f4.f6.f3.f6.f6.f7.f7⟩
 ·skip
  refine ng 12 O (by kernel_rfl) (pq (Gj .i64) acR) (lI O) ?_
  rintro _ w58 ⟨b58, rfl, H58⟩
  have afO := V.kp (H58.f4.right.f4.f4.f4.f4)
  refine dZ afO (fun W hW => (Kp.h hW).right.f3.f3.f3) ?_
  refine CZ (i := 8) (j := 9) (by kernel_rfl) ?_ ?_
  ·skip
   refine ng 8 O (by kernel_rfl) (Ae (Af O func60 O O) (ru H58.f4)) (lI O) ?_
   rintro _ w59 ⟨rfl, H59⟩
   have afP := V.kp (H59.f5.f5.f5.f5.f5)
   refine dZ afP (fun W hW => (Kp.h hW).right.f4.f4.f4.f4) ?_
   refine lU 9 O (pq (Gj .i64) H59) ?_
   rintro _ w60 ⟨b60, rfl, H60⟩
   have ady := V.kp (H60.f6.f6.f6.f6.f6.f6)
   refine dZ ady (fun W hW => (Kp.h hW).right.f5.f5.f5.f5.f5) ?_
   refine iL 10 O ady (fun _ => fA (zl := [.int .i64 0, .map none]) (pl := [(0, 1), (1, 1)]) [_, _] fF rH O (fun w => by kernel_rfl) O (.on (.on .nil)) O) ?_
   refine lU 11 O (jo (l := [_, _]) H60 O O) ?_
   rintro _ w61 ⟨b61, rfl, H61⟩
   have Yd := V.kp (H61.f7.f7.f7.f7.f7.f7.f7)
   refine dZ Yd (fun W hW => (Kp.h hW).right.f6.f6.f6.f6.f6.f6) ?_
   refine iL 18 O Yd (fun _ => fA (zl := [.pointer none, .pointer none, .pointer none, .map none, .int .i64 0, .bool false, .int .i64 0, .int .i64 0, .int .i64 0, .int .i64 0, .bool false]) (pl := [(0, 1), (1, 1), (2, 1), (3, 1), (4, 1), (5, 1), (6, 1), (7, 1), (8, 1), (9, 1), (10, 1)]) [_, _, _, _, _, _, _, _, _, _, _] aK oK O (fun w => by kernel_rfl) O (.on (.on (.on (.on (.on (.zero (zs := [.bool false]) O (.zero (zs := [.int .i64 0]) O (.zero (zs := [.int .i64 0]) O (.zero (zs := [.int .i64 0]) O (.zero (zs := [.int .i64 0]) O (.zero (zs := [.bool false]) O .nil))))))))))) O) ?_
   refine jQ 19 O Yd O (fQ 20 O Yd 0 ah O aS O ?_)
   refine gU 21 O (by kernel_rfl) (dG 0 (l' := [_, _, _, _, _, _, _, _, _, _, _, _, _, _, _, _, _, _, _, _, _, _, _, _, _, _, _, _, _, _, _, _, _, _]) (us := [_, _, _, _, _, _, _, _, _, _, _]) H61.f5 aS O O O (aG (aG (aG (aG (aG (aG (aG (aG (aG (aG (aG bK))))))))))) O O) ?_
   rintro _ w62 H62
   have afQ := V.kp (H62.f7.f7.f7.f7.f7.f7.f7)
   refine fH afQ (by kernel_rfl) ?_
   refine qj (aZ (aA (jy O O (mJ O O (bn 13 ah O aQ O (aI (gV 13 H62 aQ) ?_))))))
   rintro _ w63 H63
   refine dO O (bn 14 ah O aQ O (aI (gV 14 H63 aQ) ?_))
   rintro _ w64 H64
   refine dO O (bn 15 ah O aj O (aI (gV 15 H64 aj) ?_))
   rintro _ w65 H65
   refine bZ (kY (.inr O) results55 ?_)
   have ahi := H65.f5
   have ahj := ahi.zZ
   exact ⟨_, _, _, _, _, ahj.f5.f6.f3.f6.f6.f7.f7⟩
  ·skip
   refine ng 9 O (by kernel_rfl) (pq (Gj .i64) H58) (lI O) ?_
   rintro _ w68 ⟨b68, rfl, H68⟩
   have afR := V.kp (H68.f5.right.f5.f5.f5.f5.f5)
   refine dZ afR (fun W hW => (Kp.h hW).right.f4.f4.f4.f4) ?_
   refine lU 8 O (wY O func60 (ru H68.f5)) ?_
   rintro _ w69 ⟨rfl, H69⟩
   have adz := V.kp (H69.f6.f6.f6.f6.f6.f6)
   refine dZ adz (fun W hW => (Kp.h hW).right.f5.f5.f5.f5.f5) ?_
   refine iL 10 O adz (fun _ => fA (zl := [.int .i64 0, .map none]) (pl := [(0, 1), (1, 1)]) [_, _] fF rH O (fun w => by kernel_rfl) O (.on (.on .nil)) O) ?_
   refine lU 11 O (jo (l := [_, _]) H69 O O) ?_
   rintro _ w70 ⟨b70, rfl, H70⟩
   have Ye := V.kp (H70.f7.f7.f7.f7.f7.f7.f7)
   refine dZ Ye (fun W hW => (Kp.h hW).right.f6.f6.f6.f6.f6.f6) ?_
   refine iL 18 O Ye (fun _ => fA (zl := [.pointer none, .pointer none, .pointer none, .map none, .int .i64 0, .bool false, .int .i64 0, .int .i64 0, .int .i64 0, .int .i64 0, .bool false]) (pl := [(0, 1), (1, 1), (2, 1), (3, 1), (4, 1), (5, 1), (6, 1), (7, 1), (8, 1), (9, 1), (10, 1)]) [_, _, _, _, _, _, _, _, _, _, _] aK oK O (fun w => by kernel_rfl) O (.on (.on (.on (.on (.on (.zero (zs := [.bool false]) O (.zero (zs := [.int .i64 0]) O (.zero (zs := [.int .i64 0]) O (.zero (zs := [.int .i64 0]) O (.zero (zs := [.int .i64 0]) O (.zero (zs := [.bool false]) O .nil))))))))))) O) ?_
   refine jQ 19 O Ye O (fQ 20 O Ye 0 ah O aS O ?_)
   refine gU 21 O (by kernel_rfl) (dG 0 (l' := [_, _, _, _, _, _, _, _, _, _, _, _, _, _, _, _, _, _, _, _, _, _, _, _, _, _, _, _, _, _, _, _, _, _]) (us := [_, _, _, _, _, _, _, _, _, _, _]) H70.f5 aS O O O (aG (aG (aG (aG (aG (aG (aG (aG (aG (aG (aG bK))))))))))) O O) ?_
   rintro _ w71 H71
   have afS := V.kp (H71.f7.f7.f7.f7.f7.f7.f7)
   refine fH afS (by kernel_rfl) ?_
   refine qj (aZ (aA (jy O O (mJ O O (bn 13 ah O aQ O (aI (gV 13 H71 aQ) ?_))))))
   rintro _ w72 H72
   refine dO O (bn 14 ah O aQ O (aI (gV 14 H72 aQ) ?_))
   rintro _ w73 H73
   refine dO O (bn 15 ah O aj O (aI (gV 15 H73 aj) ?_))
   rintro _ w74 H74
   refine bZ (kY (.inr O) results55 ?_)
   have ahk := H74.f5
   have ahl := ahk.zZ
   exact ⟨_, _, _, _, _, ahl.f4.f6.f3.f6.f6.f7.f7⟩
theorem V.Ht {c : qQ} {u : List Value} (H : V w0 w F) (hu : (u.all fun x => x.oneCell') = true) : V w0 w (zW false c u • F) := by
  unfold zW
  rw [if_neg (by decide)]
  exact H.oG hu
theorem DL {inn : Bool} {c : qQ} {u : List Value} (H : V w0 w (zW inn c u • F)) : (u.all fun x => x.oneCell') = true := by
  unfold zW at H
  cases inn with
  | true =>
    rw [if_pos rfl] at H
    obtain ⟨⟨pb, pr, pw, pt, pm⟩, H⟩ := H.pO
    obtain ⟨h, _⟩ := H.flat.fact
    rw [h]; rfl
  | false =>
    rw [if_neg (by decide)] at H
    exact H.fact.1
theorem V.aen {pb pr pw pt pm : Nat} {c : qQ} (H : V w0 w (ji pb c.L c.pt c.mark • jV pr c.E c.at_ • eF pw (.cells #[.int .i64 c.place, .map (some pt)] 130 (0, 0)) • jM vF pt (vG c.tx) • Ag pm c.un • F)) : V w0 w (zW true c (UN pb pr pw pm c) • F) := by
  unfold zW
  rw [if_pos rfl]
  exact V.jG (pb, pr, pw, pt, pm) (V.deep (V.oG rfl (H.of_eq (by unfold WM; simp only [dK]))))
theorem V.was {c : qQ} {u : List Value} (H : V w0 w (zW true c u • F)) : ∃ pb pr pw pt pm, u = UN pb pr pw pm c ∧ V w0 w (ji pb c.L c.pt c.mark • jV pr c.E c.at_ • eF pw (.cells #[.int .i64 c.place, .map (some pt)] 130 (0, 0)) • jM vF pt (vG c.tx) • Ag pm c.un • F) := by
  unfold zW at H
  rw [if_pos rfl] at H
  obtain ⟨⟨pb, pr, pw, pt, pm⟩, H⟩ := H.pO
  obtain ⟨h, H⟩ := H.flat.fact
  exact ⟨pb, pr, pw, pt, pm, h, H.of_eq (by unfold WM; simp only [dK])⟩
theorem V.OC {pb pr pw pt pm ph bl : Nat} {u0 u1 u2 u3 u4 u5 u6 u7 u8 u9 ua : Value} (h1 : pz s) (hp : s.put = []) (H : V w0 w (eF e (.cells (.pointer (some ⟨pb, 0, none⟩) :: .pointer (some ⟨pr, 0, none⟩) :: .pointer (some ⟨pw, 0, none⟩) :: .map (some pm) :: .int .i64 s.c.mode :: .bool s.c.over :: .int .i64 s.c.last :: .int .i64 s.c.fr :: .int .i64 s.c.to :: .int .i64 s.c.res :: .bool s.c.run :: .pointer (some ⟨ph, 0, none⟩) :: .pointer (some ⟨bl, 0, none⟩) :: .bool s.given :: .bool s.minus :: .int .i64 s.arg :: .bool s.inn :: u0 :: u1 :: u2 :: u3 :: u4 :: u5 :: u6 :: u7 :: u8 :: u9 :: ua :: .int .i64 s.cls :: .bool s.nV :: .bool s.lY :: .bool s.argues :: .bool s.whole :: .slice none 0 0 :: []).toArray 113 (0, 0)) • ji pb s.c.L s.c.pt s.c.mark • jV pr s.c.E s.c.at_ • eF pw (.cells #[.int .i64 s.c.place, .map (some pt)] 130 (0, 0)) • jM vF pt (vG s.c.tx) • Ag pm s.c.un • iI ph s.hl s.base s.most • eF bl (.cells #[.int .i64 s.sK] 120 (0, 0)) • zW s.inn s.was [u0, u1, u2, u3, u4, u5, u6, u7, u8, u9, ua] • F)) : V w0 w (jq e s • F) := by
  refine V.jX (pb := pb) (pr := pr) (pw := pw) (pt := pt) (pm := pm) (ph := ph) (bl := bl) (u0 := u0) (u1 := u1) (u2 := u2) (u3 := u3) (u4 := u4) (u5 := u5) (u6 := u6) (u7 := u7) (u8 := u8) (u9 := u9) (ua := ua) (pv := .slice none 0 0) (es := []) h1 (by rw [hp]; rfl) ?_
  rw [hp]
  exact (H.wF none).of_eq (by unfold MJ; ac_rfl)
theorem V.WV {pb pr pw pt pm ph bl : Nat} {u0 u1 u2 u3 u4 u5 u6 u7 u8 u9 ua : Value} (h1 : pz s) (hp : s.put = []) (hi : s.inn = false) (H : V w0 w (eF e (.cells (.pointer (some ⟨pb, 0, none⟩) :: .pointer (some ⟨pr, 0, none⟩) :: .pointer (some ⟨pw, 0, none⟩) :: .map (some pm) :: .int .i64 s.c.mode :: .bool s.c.over :: .int .i64 s.c.last :: .int .i64 s.c.fr :: .int .i64 s.c.to :: .int .i64 s.c.res :: .bool s.c.run :: .pointer (some ⟨ph, 0, none⟩) :: .pointer (some ⟨bl, 0, none⟩) :: .bool s.given :: .bool s.minus :: .int .i64 s.arg :: .bool false :: u0 :: u1 :: u2 :: u3 :: u4 :: u5 :: u6 :: u7 :: u8 :: u9 :: ua :: .int .i64 s.cls :: .bool s.nV :: .bool s.lY :: .bool s.argues :: .bool s.whole :: .slice none 0 0 :: []).toArray 113 (0, 0)) • ji pb s.c.L s.c.pt s.c.mark • jV pr s.c.E s.c.at_ • eF pw (.cells #[.int .i64 s.c.place, .map (some pt)] 130 (0, 0)) • jM vF pt (vG s.c.tx) • Ag pm s.c.un • iI ph s.hl s.base s.most • eF bl (.cells #[.int .i64 s.sK] 120 (0, 0)) • F)) (hu : ([u0, u1, u2, u3, u4, u5, u6, u7, u8, u9, ua].all fun x => x.oneCell') = true := by rfl) : V w0 w (jq e s • F) := by
  refine V.OC (pb := pb) (pr := pr) (pw := pw) (pt := pt) (pm := pm) (ph := ph) (bl := bl) (u0 := u0) (u1 := u1) (u2 := u2) (u3 := u3) (u4 := u4) (u5 := u5) (u6 := u6) (u7 := u7) (u8 := u8) (u9 := u9) (ua := ua) h1 hp ?_
  rw [hi]
  exact (H.Ht (c := s.was) (u := [u0, u1, u2, u3, u4, u5, u6, u7, u8, u9, ua]) hu).of_eq (by ac_rfl)
theorem V.aa9 {pb pr pw pt pm ph bl : Nat} {u0 u1 u2 u3 u4 u5 u6 u7 u8 u9 ua : Value} {pv : Value} {es : List fJ} (h1 : pz s) (h2 : es.map fJ.says = s.put) (H : V w0 w (MJ pv es • eF e (.cells (.pointer (some ⟨pb, 0, none⟩) :: .pointer (some ⟨pr, 0, none⟩) :: .pointer (some ⟨pw, 0, none⟩) :: .map (some pm) :: .int .i64 s.c.mode :: .bool s.c.over :: .int .i64 s.c.last :: .int .i64 s.c.fr :: .int .i64 s.c.to :: .int .i64 s.c.res :: .bool s.c.run :: .pointer (some ⟨ph, 0, none⟩) :: .pointer (some ⟨bl, 0, none⟩) :: .bool s.given :: .bool s.minus :: .int .i64 s.arg :: .bool s.inn :: u0 :: u1 :: u2 :: u3 :: u4 :: u5 :: u6 :: u7 :: u8 :: u9 :: ua :: .int .i64 s.cls :: .bool s.nV :: .bool s.lY :: .bool s.argues :: .bool s.whole :: pv :: []).toArray 113 (0, 0)) • ji pb s.c.L s.c.pt s.c.mark • jV pr s.c.E s.c.at_ • eF pw (.cells #[.int .i64 s.c.place, .map (some pt)] 130 (0, 0)) • jM vF pt (vG s.c.tx) • Ag pm s.c.un • iI ph s.hl s.base s.most • eF bl (.cells #[.int .i64 s.sK] 120 (0, 0)) • zW s.inn s.was [u0, u1, u2, u3, u4, u5, u6, u7, u8, u9, ua] • F)) : V w0 w (jq e s • F) := by
  refine V.jX (pb := pb) (pr := pr) (pw := pw) (pt := pt) (pm := pm) (ph := ph) (bl := bl) (u0 := u0) (u1 := u1) (u2 := u2) (u3 := u3) (u4 := u4) (u5 := u5) (u6 := u6) (u7 := u7) (u8 := u8) (u9 := u9) (ua := ua) (pv := pv) (es := es) h1 h2 ?_
  have hl : s.put.length = es.length := by rw [← h2]; simp
  rw [hl]
  exact H.of_eq (by unfold MJ; ac_rfl)
theorem abb : iD [] [] = 0 := rfl
theorem UY (hl : List oH) (l : List Int) (E : List (List Int)) (a : Nat) (m : Int) : JZ hl (qQ.fresh l E a hl.length m) := ⟨by simp [qQ.fresh], by simp [qQ.fresh], by simp [qQ.fresh]⟩
theorem abd (hl : List oH) (base most : Int) : pz (dw.new hl base most) :=
  ⟨UY _ _ _ _ _, by simp [dw.new], by simp [dw.new], by simp [dw.new], by simp [dw.new, dw.here, qQ.fresh, iD], by simp [dw.new, qQ.fresh]⟩
theorem OD (H : V w0 w (iI h hl base most • F)) : iM prog 20 #[.pointer (some ⟨h, 0, none⟩)] w fun v w' => ∃ e, v = .tuple #[.pointer (some ⟨e, 0, none⟩), .int .i64 0] ∧ V w0 w' (jq e (dw.new hl base most) • iI h hl base most • F) := by
  refine iQ func20 ntmps20 ?_
  refine jw (iC O (sS O (bY O (fE O func53 (xY H) ?_))))
  rintro _ w1 ⟨q1, rfl, H1⟩
  refine aW (iJ lu O O) (jd (Ip O (fun h1 => ?_)))
  (try simp only [aF] at h1)
  refine iy (jw (aW (fA (zl := [.int .i64 0]) (pl := [(0, 0), (0, 0), (0, 1)]) [_] underlying120 zeroValue120 O (fun w => by kernel_rfl) O (.zero (zs := []) O (.zero (zs := []) O (.zero (zs := [.int .i64 0]) O .nil))) O) (iY (jo (l := [_]) H1 O O) ?_)))
  rintro _ w2 ⟨b2, rfl, H2⟩
  refine aW (fA (zl := [.pointer none, .pointer none, .pointer none, .map none, .int .i64 0, .bool false, .int .i64 0, .int .i64 0, .int .i64 0, .int .i64 0, .bool false, .pointer none, .pointer none, .bool false, .bool false, .int .i64 0, .bool false, .pointer none, .pointer none, .pointer none, .map none, .int .i64 0, .bool false, .int .i64 0, .int .i64 0, .int .i64 0, .int .i64 0, .bool false, .int .i64 0, .bool false, .bool false, .bool false, .bool false, .slice none 0 0]) (pl := [(0, 11), (11, 1), (12, 1), (13, 1), (14, 1), (15, 1), (16, 1), (17, 11), (28, 1), (29, 1), (30, 1), (31, 1), (32, 1), (33, 1)]) [_, _, _, _, _, _, _, _, _, _, _, _, _, _, _, _, _, _, _, _, _, _, _, _, _, _, _, _, _, _, _, _, _, _] ah zeroValue113 O (fun w => by kernel_rfl) O (.zero (zs := [.pointer none, .pointer none, .pointer none, .map none, .int .i64 0, .bool false, .int .i64 0, .int .i64 0, .int .i64 0, .int .i64 0, .bool false]) O (.zero (zs := [.pointer none]) O (.on (.zero (zs := [.bool false]) O (.zero (zs := [.bool false]) O (.zero (zs := [.int .i64 0]) O (.zero (zs := [.bool false]) O (.zero (zs := [.pointer none, .pointer none, .pointer none, .map none, .int .i64 0, .bool false, .int .i64 0, .int .i64 0, .int .i64 0, .int .i64 0, .bool false]) O (.zero (zs := [.int .i64 0]) O (.zero (zs := [.bool false]) O (.zero (zs := [.bool false]) O (.zero (zs := [.bool false]) O (.zero (zs := [.bool false]) O (.zero (zs := [.slice none 0 0]) O .nil)))))))))))))) O) ?_
  refine iY (jo (l := [_, _, _, _, _, _, _, _, _, _, _, _, _, _, _, _, _, _, _, _, _, _, _, _, _, _, _, _, _, _, _, _, _, _]) H2 O O) ?_
  rintro _ w3 ⟨b3, rfl, H3⟩
  refine iP O (bY O (fE O func54 (RG H3) ?_))
  rintro _ w4 ⟨p4, rfl, H4⟩
  refine dO O (bn 0 ah O aS O (bn 1 aK O sizeOf106 O (aI (gV 1 H4.f2 sizeOf106) ?_)))
  rintro _ w5 H5
  refine ql O (bT O (fE O func55 (Gz (E := []) (a := 0) H5.f4.right.f3.f3.f4.f4 (l := []) (fun W _ => jP.nil W _ none 0 (by decide)) (by decide)) ?_))
  rintro _ w6 ⟨qb, qw, qt, qm, qh, H6⟩
  refine ql O (iC O (ig O (Dw results20 O O ?_)))
  exact ⟨_, O, V.WV (s := dw.new hl base most) (abd _ _ _) O O H6.f7.f9.f8.f8.f8.f8.f9.f9.f9⟩
end
section
variable {w0 w : World} {F : HP} {e p h pr : Nat} {s : dw} {hl : List oH} {base most m : Int} {v : Value} {l : List Int}
theorem Bj (h : s.inn = false) : s.lg = { s with inn := true, was := s.c, cls := 0, nV := false, lY := false, argues := false, whole := true, put := [] } := by unfold dw.lg; rw [if_neg (by simp [h])]
theorem OE (h : s.inn = true) : s.lg = s := by unfold dw.lg; rw [if_pos h]
theorem Yf {G : List (List kC)} {N : List kC} (h : iD G N ≤ 16384) : iD G [] ≤ 16384 := by unfold iD at *; simp at *; omega
theorem UZ (h : pz s) (hi : s.inn = false) : pz s.lg := by
  rw [Bj hi]
  obtain ⟨h1, h2, h3, h4, h5, h6⟩ := h
  exact ⟨h1, fun _ => ⟨h1, Yf h5, h6⟩, h3, by simp, Yf h5, h6⟩
theorem AL (H : V w0 w (jq e s • F)) : iM prog 22 #[.pointer (some ⟨e, 0, none⟩)] w fun v w' => v = .int .i64 s.yx ∧ V w0 w' (jq e s.lg • F) := by
 refine iQ func22 ntmps22 ?_
 refine kQ O (aO (bg (bY O (fE O func49 (zY H) ?_))))
 rintro _ _ ⟨rfl, rfl⟩
 refine iP O (vS (aO ?_))
 obtain ⟨Ap, Aq, Ar, Au, Aw, Az, AA, AB, yE, xk, xq, xu, xw, xA, xB, xC, xE, xG, xH, xI, jf, dX, nG, kF⟩ := (H).Ox
 refine aA (mJ O O (bn 16 ah O aQ O (fB cZ O (kF).get.2 O (iP O (dA O (fun h1 => ?_) (fun h1 => ?_))))))
 ·(try simp only [aF] at h1)
  have hin := h1
  refine mP O (aX (aC (fD results22 O ?_)))
  exact ⟨by unfold dw.yx; rw [if_pos hin], by rw [OE hin]; exact V.jX jf dX kF.f11.f11.f11.f11.f11.f11.f11.f11.f11.f11.f11⟩
 ·(try simp only [aF] at h1)
  have hin := h1
  refine dS (aP (aZ (bY O (jy O O (dO O (bn 0 ah O aS O (aW (sJ 0 (xs := [_, _, _, _, _, _, _, _, _, _, _]) aK O aS O O (kF).get.2 O) (fE O func56 (aa1 kF.f6.f6.f6.f6.f6) ?_))))))))
  rintro _ w3 ⟨qb3, qr3, qw3, qt3, qm3, rfl, H3⟩
  refine dO O (bn 16 ah O aQ O (aI (gV 16 H3.f11 aQ) ?_))
  rintro _ w4 H4
  refine dO O (bn 17 ah O aS O (aI (dG 17 (l' := [_, _, _, _, _, _, _, _, _, _, _, _, _, _, _, _, _, _, _, _, _, _, _, _, _, _, _, _, _, _, _, _, _, _]) (us := [_, _, _, _, _, _, _, _, _, _, _]) H4 aS O O O (aG (aG (aG (aG (aG (aG (aG (aG (aG (aG (aG bK))))))))))) O O) ?_))
  rintro _ w5 H5
  refine ql O (jy O O (jy O O (mJ O O (bn 28 ah O aj O (aI (gV 28 H5 aj) ?_)))))
  rintro _ w6 H6
  refine dO O (bn 29 ah O aQ O (aI (gV 29 H6 aQ) ?_))
  rintro _ w7 H7
  refine dO O (bn 30 ah O aQ O (aI (gV 30 H7 aQ) ?_))
  rintro _ w8 H8
  refine dO O (bn 31 ah O aQ O (aI (gV 31 H8 aQ) ?_))
  rintro _ w9 H9
  refine dO O (bn 32 ah O aQ O (aI (gV 32 H9 aQ) ?_))
  rintro _ w10 sF
  refine dO O (bn 33 ah O bG O (aI (gV 33 sF bG) ?_))
  rintro _ Iq sG
  refine jd (mP O (fD results22 O ?_))
  have WR := sG.f6.f6.f6.f6.f6
  have WS := V.aen (c := s.c) WR
  exact ⟨by unfold dw.yx; rw [if_neg (by simp [hin])], by rw [Bj hin]; exact V.OC (Bj hin ▸ UZ jf hin) O WS.f10.right.f10.right.f10.right.f9.f9.f9.f9.f9.f9.f9.f9⟩
end
section
variable {w0 w : World} {F : HP} {e p h pr : Nat} {s : dw} {x : Int} {b : Bool}
theorem Bl (h : pz s) (L : List Int) (pt mk : Int) : pz (s.nC L pt mk) := h
theorem KO (H : V w0 w (jq e s • F)) : iM prog 26 #[.pointer (some ⟨e, 0, none⟩), .int .i64 x] w fun v w' => v = .int .i64 (s.Gw x) ∧ V w0 w' (jq e (s.yA x) • F) := by
 refine qI func26 ntmps26 ?_
 refine kQ O (aO (bY O (fE O func57 (uN H) ?_)))
 rintro _ _ ⟨rfl, rfl⟩
 refine iP O (bY O (aW (gy O O) (jv O (fun h1 => ?_) (fun h1 => ?_))))
 ·(try simp only [aF] at h1)
  obtain ⟨hin, hpe⟩ := MW h1
  refine bY O (ig O (aC (fD results26 O ?_)))
  rw [hpe]
  exact ⟨by simp [dw.Gw, dw.yA, hin], by rw [show s.yA x = s from by simp [dw.Gw, dw.yA, hin]]; exact H⟩
 ·(try simp only [aF] at h1)
  have hin := I9 h1
  refine iy (aO ?_)
  obtain ⟨Ap, Aq, Ar, Au, Aw, Az, AA, AB, yE, xk, xq, xu, xw, xA, xB, xC, xE, xG, xH, xI, jf, dX, nG, kF⟩ := (H).Ox
  refine aA (mJ O O (bn 0 ah O aS O (bn 0 aK O oh O (fB lX O (kF).get.2 O (bT O (fE O func66 (RD kF.f2) ?_))))))
  rintro _ w3 ⟨rfl, H3⟩
  refine ig O (fD results26 O ?_)
  exact ⟨by simp [dw.Gw, hin], by rw [show s.yA x = s.nC s.c.L (YW s.c.L.length s.c.pt x) s.c.mark from by simp [dw.yA, hin]]; exact V.jX (Bl jf _ _ _) dX H3.f11.f11.f11.f11.f11.f11.f11.f11.f11.f10.f11⟩
theorem KP (H : V w0 w (jq e s • F)) : iM prog 18 #[.pointer (some ⟨e, 0, none⟩)] w fun v w' => ∃ u, v = .agg (qX u s.c.pt s.c.mark) ∧ V w0 w' (jR 21 .i32 u s.c.L • jq e s • F) := by
 refine iQ func18 ntmps18 ?_
 refine jw (iY (fK (l := [_, _, _]) H sU O) ?_)
 rintro _ w1 ⟨b1, rfl, H1⟩
 refine rV (bY O (fE O func49 (zY H1.f2) ?_))
 rintro _ _ ⟨rfl, rfl⟩
 refine jd (vS (iy (aO ?_)))
 obtain ⟨Ap, Aq, Ar, Au, Aw, Az, AA, AB, yE, xk, xq, xu, xw, xA, xB, xC, xE, xG, xH, xI, jf, dX, nG, kF⟩ := (H1.f2).Ox
 refine aA (mJ O O (bn 0 ah O aS O (bn 0 aK O oh O (fB lX O (kF).get.2 O (fE O func50 (IU kF.f2) ?_)))))
 rintro _ w4 ⟨u4, rfl, H4⟩
 refine aI (dG 0 (l' := [_, _, _]) (us := [_, _, _]) H4.f13 sizeOf52 O O O (aY (by first | rfl | exact Rd.one ((H4).aN)) (aG (aG bK))) O O) ?_
 rintro _ w5 H5
 refine zkc ?_
 refine rW (.inl O) (Lr results18 O lC O (by rw [Uo]; rfl) (H5).get.2) ?_
 have RY := H5.f13.f13.f13.f13.f13.f13.f13.f13.f13.f12.f13
 have PS := V.jX (s := s) jf dX RY
 exact ⟨_, O, PS.f2.right.f2⟩
theorem U0 (H : V w0 w (jq e s • F)) : iM prog 36 #[.pointer (some ⟨e, 0, none⟩)] w fun v w' => ∃ q, v = .pointer (some ⟨q, 0, none⟩) ∧ V w0 w' (iI q s.hl s.base s.most • jq e s • F) := by
 refine iQ func36 ntmps36 ?_
 refine kQ O (aO (bY O (fE O func49 (zY H) ?_)))
 rintro _ _ ⟨rfl, rfl⟩
 refine jd (vS (iy (aO ?_)))
 obtain ⟨Ap, Aq, Ar, Au, Aw, Az, AA, AB, yE, xk, xq, xu, xw, xA, xB, xC, xE, xG, xH, xI, jf, dX, nG, kF⟩ := (H).Ox
 refine aA (mJ O O (bn 11 ah O sizeOf54 O (fB lu O (kF).get.2 O (fE O func53 (xY kF.f7) ?_))))
 rintro _ w3 ⟨q3, rfl, H3⟩
 refine ig O (fD results36 O ?_)
 have Ho5 := H3.f12.f12.f12.f12.f6.f12.f12.f12.f12.f12.f12
 have Hc6 := V.jX (s := s) jf dX Ho5
 exact ⟨_, O, Hc6.f2⟩
end
theorem Bo {L : List Int} {i j : Int} {l : List Int} (h : qx L i j l ≠ 0) : rC L i j l = [] ∧ rD L i j l = [] := by unfold rC rD; rw [if_neg h, if_neg h]; exact ⟨rfl, rfl⟩
theorem Yg {L : List Int} {i j : Int} {l : List Int} (hL : L.length ≤ 1024) (h : 0 < (rC L i j l).length + (rD L i j l).length) : zX (vY L i j l, rC L i j l, rD L i j l) := by
  by_cases h0 : qx L i j l = 0
  · refine ⟨?_, h, ?_, ?_⟩
    · show 0 ≤ vY L i j l
      unfold vY; rw [if_pos h0]
      unfold qx at h0
      split at h0
      · cases h0
      · omega
    · show (rC L i j l).length ≤ 1024
      unfold rC; rw [if_pos h0]
      simp only [List.length_take, List.length_drop]; omega
    · show (rD L i j l).length ≤ 1024
      unfold rD; rw [if_pos h0]
      unfold qx at h0
      split at h0
      · cases h0
      · split at h0
        · cases h0
        · omega
  · rw [(Bo h0).1, (Bo h0).2] at h
    simp at h
theorem abe {L : List Int} {i j : Int} {l : List Int} (hL : L.length ≤ 1024) : (rC L i j l).length ≤ 1024 ∧ (rD L i j l).length ≤ 1024 := by
  by_cases h0 : qx L i j l = 0
  · refine ⟨?_, ?_⟩
    · unfold rC; rw [if_pos h0]
      simp only [List.length_take, List.length_drop]; omega
    · unfold rD; rw [if_pos h0]
      unfold qx at h0
      split at h0
      · cases h0
      · split at h0
        · cases h0
        · omega
  · rw [(Bo h0).1, (Bo h0).2]; simp
theorem DN {s : dw} {x : kC} (h : x.2.1.length + x.2.2.length = 0) : s.BM x = s := by unfold dw.BM; rw [if_pos h]
theorem wW {s : dw} {x : kC} (h : 0 < x.2.1.length + x.2.2.length) (k : ¬ 16384 ≤ iD s.here s.put) : s.BM x = { s with put := s.put ++ [x] } := by unfold dw.BM; rw [if_neg (by omega), if_neg k]
theorem wX {s : dw} {x : kC} (h : 0 < x.2.1.length + x.2.2.length) (k : 16384 ≤ iD s.here s.put) : s.BM x = { s.qR [] with put := [x], c := { (s.qR []).c with run := false } } := by unfold dw.BM; rw [if_neg (by omega), if_pos k]
theorem nH (G : List (List kC)) (N : List kC) : iD G N = iD G [] + N.length := by unfold iD; simp
theorem MX {s : dw} {x : kC} (h : pz s) (hx : 0 < x.2.1.length + x.2.2.length → zX x) : pz (s.BM x) := by
  by_cases h0 : x.2.1.length + x.2.2.length = 0
  · rw [DN h0]; exact h
  · have hx' := hx (by omega)
    obtain ⟨h1, h2, h3, h4, h5, h6⟩ := h
    by_cases hf : 16384 ≤ iD s.here s.put
    · rw [wX (by omega) hf]
      refine ⟨h1, h2, h3, fun e he => by rw [List.mem_singleton.1 he]; exact hx', ?_, ?_⟩
      · show iD (sV s.c.un s.c.place [] s.c.place) [x] ≤ 16384
        rw [kL]; simp [iD]
      · intro k g hg
        have hg' : g ∈ sV s.c.un s.c.place [] k := hg
        by_cases hk : k = s.c.place
        · subst hk; rw [kL] at hg'; cases hg'
        · rw [uK _ _ hk] at hg'; exact h6 k g hg'
    · rw [wW (by omega) hf]
      refine ⟨h1, h2, h3, fun e he => ?_, ?_, h6⟩
      · rcases List.mem_append.1 he with he | he
        · exact h4 e he
        · rw [List.mem_singleton.1 he]; exact hx'
      · show iD s.here (s.put ++ [x]) ≤ 16384
        rw [RN]; omega
section
variable {w0 w : World} {F : HP} {e p h pr : Nat} {s : dw} {i j x : Int} {b : Bool} {v : Value} {l : List Int}
theorem OG (H : V w0 w (jq e s • F)) (hr : jm w0 F .i32 v l) : iM prog 64 #[.pointer (some ⟨e, 0, none⟩), .int .i64 i, .int .i64 j, v] w fun v' w' => v' = .int .i64 (s.uf i j l) ∧ V w0 w' (jq e (s.wU i j l) • F) := by
 refine Pv func64 ntmps64 ?_
 refine kQ O (aO (bY O (fE O func57 (uN H) ?_)))
 rintro _ _ ⟨rfl, rfl⟩
 refine iP O (bY O (aW (gy O O) (jv O (fun h1 => ?_) (fun h1 => ?_))))
 ·(try simp only [aF] at h1)
  obtain ⟨hin, hpe⟩ := MW h1
  refine bY O (ig O (aC (fD results64 O ?_)))
  rw [hpe]
  exact ⟨by simp [dw.uf, dw.wU, hin], by rw [show s.wU i j l = s from by simp [dw.uf, dw.wU, hin]]; exact H⟩
 ·(try simp only [aF] at h1)
  have hin := I9 h1
  refine iy (aO ?_)
  obtain ⟨Ap, Aq, Ar, Au, Aw, Az, AA, AB, yE, xk, xq, xu, xw, xA, xB, xC, xE, xG, xH, xI, jf, dX, nG, kF⟩ := (H).Ox
  have hL : s.c.L.length ≤ 1024 := by obtain ⟨a, c, xs, f, t, h1, h2, h3, h4, h5, h6, h7, hc1, hc2, hl, H1⟩ := (kF.f2).buf; exact h4
  have hE : s.uf i j l = qx s.c.L i j l := by unfold dw.uf; rw [if_pos hin]
  have hS : s.wU i j l = (s.nC (wP s.c.L i j l) (wQ s.c.L s.c.pt i j l) (wR s.c.L s.c.mark i j l)).BM (vY s.c.L i j l, rC s.c.L i j l, rD s.c.L i j l) := by unfold dw.wU; rw [if_pos hin]
  have hln := abe (i := i) (j := j) (l := l) hL
  have hput : iD s.here s.put ≤ 16384 := jf.2.2.2.2.1
  have hsp : iD s.here s.put = iD (s.c.un s.c.place) [] + s.put.length := nH _ _
  have hok := Yg (i := i) (j := j) (l := l) hL
  have hno := Bo (L := s.c.L) (i := i) (j := j) (l := l)
  refine aA (mJ O O (bn 0 ah O aS O (bn 0 aK O oh O (fB lX O (kF).get.2 O (jy O O (bT O (fE O func112 (LG kF.f2 (fun W HW => hr _ (HW.right.right.right.right.right.right.right.right.right.right))) ?_)))))))
  rintro _ w3 ⟨d3, s3, rfl, H3⟩
  refine bT O (sD O O (sD O O (iY (fK (l := [_, _, _]) H3 cO O) ?_)))
  rintro _ w4 ⟨b4, rfl, H4⟩
  refine aI (dG 0 (l' := [_, _, _]) (us := [_, _, _]) H4 bJ O O O (aG (aY (by first | rfl | exact Rd.one ((H4.f2).aN)) (aY (by first | rfl | exact Rd.one ((H4.f3).aN)) bK))) O O) ?_
  rintro _ w5 H5
  refine sS O (bY O (aW (kP O O) (mX O (fun h2 => ?_) (fun h2 => ?_))))
  ·(try simp only [aF] at h2)
   refine bW (bn 1 aU O bF O (bW (fB ay O (H5).get.2 O (bW (aW (jJ ((H5.f2).aN) ay O) (bW (bn 2 aU O bF O (bW (fB ay O (H5).get.2 O (bW (aW (jJ ((H5.f3).aN) ay O) (bW (aW (fP O O (by omega)) (bW (aW (iT O O) (nZ O O (jv O (fun h3 => ?_) (fun h3 => ?_))))))))))))))))))
   ·(try simp only [aF] at h3)
    have hlen : 0 < (rC s.c.L i j l).length + (rD s.c.L i j l).length := by omega
    refine aO (aO ?_)
    have aeo := H5.drew
    have OH := V.kp (aeo.f9.right.f13.f13.f13.f13.f13.f13.f13.f13.f13.f13.f13.f13.f13)
    refine uU [6] OH O (gQ 0 O OH O (gQ 3 O OH O (jQ 4 O OH O (fQ 5 O OH 33 ah O bG O (iO 6 O OH (fun W hW => jT aV O ((Kp.h hW).f5).get.2 O) (iL 7 O OH (fun _ => fV ((aeo.f12).aN) aV O) (lU 1 O (wY O func103 (Fe aeo.f9.f8.f7)) ?_)))))))
    rintro _ w6 ⟨lp6, rfl, H6⟩
    have wJ := V.kp (H6.right.f14.f14.f14.f14.f14.f14.f14.f14.f14.f14.f14.f14.f14.f14)
    refine dZ wJ (fun W hW => (Kp.h hW).right.f13.f13.f13.f13.f13.f13.f8.f13.f9.f13.f13.f13.f13) ?_
    refine lU 2 O (wY O func113 (N9 H6)) ?_
    rintro _ w7 ⟨rfl, H7⟩
    have BK := V.kp (H7.f15.f15.f15.f15.f15.f15.f15.f15.f15.f15.f15.f15.f15.f15.f15)
    refine dZ BK (fun W hW => (Kp.h hW).right.f14.f14.f14.f14.f14.f14.f14.f14.f14.f14.f14.f14.f14.f14) ?_
    refine iL 8 O BK (fun _ => fP O O (by omega)) (iL 9 O BK (fun _ => nM O O) ?_)
    have Ho8 := H7.f2
    have VT := V.SA Ho8
    refine qj (aZ (dA O (fun h4 => ?_) (fun h4 => ?_)))
    ·(try simp only [aF] at h4)
     have U1 : 16384 ≤ iD (s.nC (wP s.c.L i j l) (wQ s.c.L s.c.pt i j l) (wR s.c.L s.c.mark i j l)).here (s.nC (wP s.c.L i j l) (wQ s.c.L s.c.pt i j l) (wR s.c.L s.c.mark i j l)).put := by show 16384 ≤ iD s.here s.put; omega
     refine bY O (fE O func103 (Fe VT.f3.f3) ?_)
     rintro _ w10 ⟨ai9, rfl, sF⟩
     refine fE O func114 (Oj sF) ?_
     rintro _ Iq sG
     have WR := sG.f2
     have WS := V.DK WR
     refine jd (aA (jy O O (dO O (bn 33 ah O bG O (aI (gV 33 WS.f2 bG) ?_)))))
     rintro _ TL Dh
     refine dO O (bn 0 ah O aS O (bn 10 aK O aQ O (aI (gV 10 Dh aQ) ?_)))
     rintro _ Ws CG
     refine jd ?_
     have adA := CG.drew
     have Hu := V.kp (adA.f14.f14.f14.f14.f14.f14.f14.f14.f14.f14.f14.f14.f14.f14)
     refine uU [4, 5] Hu O (gQ 0 O Hu O (gQ 1 O Hu O (jQ 2 O Hu O (fQ 3 O Hu 33 ah O bG O (iO 4 O Hu (fun W hW => jT aV O ((Kp.h hW)).get.2 O) (iO 5 O Hu (fun W hW => dI aU O bJ O O ((Kp.h hW).f4).get.2) (lU 6 O (og adA aV bJ cO O O O (by decide) (by decide)) ?_)))))))
     rintro l16 w16 yj
     have IZ := V.kp (yj.f15.f15.f15.f15.f15.f15.f15.f15.f15.f15.f15.f15.f15.f15.f15)
     refine dZ IZ (fun W hW => (Kp.h hW).right.f14.f14.f14.f14.f14.f14.f14.f14.f14.f14.f14.f14.f14.f14) ?_
     refine lU 7 O (eX (yj.gG none) aV yw O O O ((yj).aN) (aG (aY (by first | rfl | exact Rd.one ((yj.f6).aN)) (aY (by first | rfl | exact Rd.one ((yj.f7).aN)) bK))) (by omega) (by omega)) ?_
     rintro l17 w17 EH
     have abf := EH.f2.right
     have E8 := V.kp (abf.f15.f15.f15.f15.f15.f15.f15.f15.f15.f15.f15.f15.f15.f15.f15)
     refine fH E8 (by kernel_rfl) ?_
     refine jQ 8 O E8 O (fQ 9 O E8 33 ah O bG O ?_)
     refine gU 10 O (by kernel_rfl) (eY 33 (l' := [_, _, _, _, _, _, _, _, _, _, _, _, _, _, _, _, _, _, _, _, _, _, _, _, _, _, _, _, _, _, _, _, _, _]) abf.f2 bG O O (by first | rfl | exact Rd.one ((abf).aN)) O O) ?_
     rintro _ ZO DY
     have UK := V.kp (DY.f15.f15.f15.f15.f15.f15.f15.f15.f15.f15.f15.f15.f15.f15.f15)
     refine fH UK (by kernel_rfl) ?_
     refine qj (aZ (bY O (ig O (fD results64 O ?_))))
     have X := (DY.f5.right.f12.right.f12.right.f12.f12.f12.f6.f12.f8.f12.f12.f9.f10.f12.f12).kK.swap.kK.swap
     have X2 := V.vX (es := []) X.EY.f3.f3.f4
     exact ⟨by rw [hE]; rfl, by rw [hS, wX (x := (vY s.c.L i j l, rC s.c.L i j l, rD s.c.L i j l)) hlen U1]; exact V.aa9 (s := { (s.nC (wP s.c.L i j l) (wQ s.c.L s.c.pt i j l) (wR s.c.L s.c.mark i j l)).qR [] with put := [(vY s.c.L i j l, rC s.c.L i j l, rD s.c.L i j l)], c := { ((s.nC (wP s.c.L i j l) (wQ s.c.L s.c.pt i j l) (wR s.c.L s.c.mark i j l)).qR []).c with run := false } }) (wX (x := (vY s.c.L i j l, rC s.c.L i j l, rD s.c.L i j l)) hlen U1 ▸ MX (Bl jf _ _ _) hok) O X2⟩
    ·(try simp only [aF] at h4)
     have U1 : ¬ 16384 ≤ iD (s.nC (wP s.c.L i j l) (wQ s.c.L s.c.pt i j l) (wR s.c.L s.c.mark i j l)).here (s.nC (wP s.c.L i j l) (wQ s.c.L s.c.pt i j l) (wR s.c.L s.c.mark i j l)).put := by show ¬ 16384 ≤ iD s.here s.put; omega
     refine iy ?_
     have QI := VT.drew
     have wK := V.kp (QI.f14.f14.f14.f14.f14.f14.f14.f14.f14.f14.f14.f14.f14.f14)
     refine uU [4, 5] wK O (gQ 0 O wK O (gQ 1 O wK O (jQ 2 O wK O (fQ 3 O wK 33 ah O bG O (iO 4 O wK (fun W hW => jT aV O ((Kp.h hW).f2).get.2 O) (iO 5 O wK (fun W hW => dI aU O bJ O O ((Kp.h hW).f4).get.2) (lU 6 O (og QI aV bJ cO O O O (by decide) (by decide)) ?_)))))))
     rintro l20 YT EI
     have I7 := V.kp (EI.f15.f15.f15.f15.f15.f15.f15.f15.f15.f15.f15.f15.f15.f15.f15)
     refine dZ I7 (fun W hW => (Kp.h hW).right.f14.f14.f14.f14.f14.f14.f14.f14.f14.f14.f14.f14.f14.f14) ?_
     refine lU 7 O (eX EI.f13 aV yw O O O ((EI).aN) (aG (aY (by first | rfl | exact Rd.one ((EI.f6).aN)) (aY (by first | rfl | exact Rd.one ((EI.f7).aN)) bK))) (by omega) (by omega)) ?_
     rintro l21 YU wG
     have LW := wG.f2.right
     have I8 := V.kp (LW.f14.f14.f14.f14.f14.f14.f14.f14.f14.f14.f14.f14.f14.f14)
     refine fH I8 (by kernel_rfl) ?_
     refine jQ 8 O I8 O (fQ 9 O I8 33 ah O bG O ?_)
     refine gU 10 O (by kernel_rfl) (eY 33 (l' := [_, _, _, _, _, _, _, _, _, _, _, _, _, _, _, _, _, _, _, _, _, _, _, _, _, _, _, _, _, _, _, _, _, _]) LW.f3 bG O O (by first | rfl | exact Rd.one ((LW).aN)) O O) ?_
     rintro _ YV DC
     have EC := V.kp (DC.f14.f14.f14.f14.f14.f14.f14.f14.f14.f14.f14.f14.f14.f14)
     refine fH EC (by kernel_rfl) ?_
     refine qj (aZ (bY O (ig O (fD results64 O ?_))))
     have X := (DC.f5.right.f13.f12.f12.f6.f12.f8.f12.f12.f9.f13.f11.f13.f13).kK.swap.kK.swap
     rw [← nG] at X
     have X2 := V.vX X.f3
     exact ⟨by rw [hE]; rfl, by rw [hS, wW (x := (vY s.c.L i j l, rC s.c.L i j l, rD s.c.L i j l)) hlen U1]; exact V.aa9 (s := { s.nC (wP s.c.L i j l) (wQ s.c.L s.c.pt i j l) (wR s.c.L s.c.mark i j l) with put := s.put ++ [(vY s.c.L i j l, rC s.c.L i j l, rD s.c.L i j l)] }) (wW (x := (vY s.c.L i j l, rC s.c.L i j l, rD s.c.L i j l)) hlen U1 ▸ MX (Bl jf _ _ _) hok) (by rw [List.map_append, dX]; rfl) X2⟩
   ·(try simp only [aF] at h3)
    have hlen : (rC s.c.L i j l).length + (rD s.c.L i j l).length = 0 := by omega
    refine iy (bY O (ig O (fD results64 O ?_)))
    exact ⟨by rw [hE]; rfl, by rw [hS, DN (x := (vY s.c.L i j l, rC s.c.L i j l, rD s.c.L i j l)) hlen]; exact V.jX (s := s.nC (wP s.c.L i j l) (wQ s.c.L s.c.pt i j l) (wR s.c.L s.c.mark i j l)) (Bl jf _ _ _) dX H5.right.right.right.f11.f11.f11.f11.f11.f11.f11.f11.f11.f10.f11⟩
  ·(try simp only [aF] at h2)
   have hlen : (rC s.c.L i j l).length + (rD s.c.L i j l).length = 0 := by rw [(hno h2).1, (hno h2).2]; rfl
   refine dF (dF (dF (dF (dF (dF (dF (dF (kX O O (jd (vS (iy (bY O (ig O (fD results64 O ?_))))))))))))))
   exact ⟨by rw [hE]; rfl, by rw [hS, DN (x := (vY s.c.L i j l, rC s.c.L i j l, rD s.c.L i j l)) hlen]; exact V.jX (s := s.nC (wP s.c.L i j l) (wQ s.c.L s.c.pt i j l) (wR s.c.L s.c.mark i j l)) (Bl jf _ _ _) dX H5.right.right.right.f11.f11.f11.f11.f11.f11.f11.f11.f11.f10.f11⟩
theorem PU (H : V w0 w (jq e s • F)) (hr : jm w0 F .i32 v l) : iM prog 25 #[.pointer (some ⟨e, 0, none⟩), v] w fun v' w' => v' = .int .i64 (s.Y6 l) ∧ V w0 w' (jq e (s.WH l) • F) := by
 refine qI func25 ntmps25 ?_
 refine kQ O (aO (bY O (fE O func57 (uN H) ?_)))
 rintro _ _ ⟨rfl, rfl⟩
 refine iP O (bY O (aW (gy O O) (jv O (fun h1 => ?_) (fun h1 => ?_))))
 ·(try simp only [aF] at h1)
  obtain ⟨hin, hpe⟩ := MW h1
  refine bY O (ig O (aC (fD results25 O ?_)))
  rw [hpe]
  exact ⟨by simp [dw.Y6, dw.WH, dw.uf, dw.wU, hin], by rw [show s.WH l = s from by simp [dw.Y6, dw.WH, dw.uf, dw.wU, hin]]; exact H⟩
 ·(try simp only [aF] at h1)
  have hin := I9 h1
  refine iy (aO ?_)
  obtain ⟨Ap, Aq, Ar, Au, Aw, Az, AA, AB, yE, xk, xq, xu, xw, xA, xB, xC, xE, xG, xH, xI, jf, dX, nG, kF⟩ := (H).Ox
  have Zb := kF.drew
  have DR := V.kp (Zb.f11.f11.f11.f11.f11.f11.f11.f11.f11.f11.f11)
  refine uU [5, 11] DR O (gQ 0 O DR O (gQ 1 O DR O (jQ 2 O DR O (fQ 3 O DR 0 ah O aS O (fQ 4 O DR 0 aK O oh O (iO 5 O DR (fun W hW => jT lX O ((Kp.h hW)).get.2 O) (gQ 7 O DR O (jQ 8 O DR O (fQ 9 O DR 0 ah O aS O (fQ 10 O DR 0 aK O oh O (iO 11 O DR (fun W hW => jT lX O ((Kp.h hW)).get.2 O) (gQ 13 O DR O (lU 6 O (wY O func65 (Df Zb.f2)) ?_)))))))))))))
  rintro _ _ ⟨rfl, rfl⟩
  have nT := V.kp (Zb.f11.f11.f11.f11.f11.f11.f11.f11.f11.f11.f11)
  refine dZ nT (fun W hW => (Kp.h hW).f11.f11.f11.f11.f11.f11.f11.f11.f11.f11.f11) ?_
  refine lU 12 O (wY O func65 (Df Zb.f2)) ?_
  rintro _ _ ⟨rfl, rfl⟩
  have uZ := V.kp (Zb.f11.f11.f11.f11.f11.f11.f11.f11.f11.f11.f11)
  refine fH uZ (by kernel_rfl) ?_
  have Ho6 := Zb.f11.f11.f11.f11.f11.f11.f11.f11.f11.f11.f11
  have Hc7 := V.jX (s := s) jf dX Ho6
  refine lU 14 O (wY O func64 (OG Hc7 (fun W HW => hr _ (HW)))) ?_
  rintro _ w8 ⟨rfl, H8⟩
  have LK := V.kp (H8)
  refine fH LK (by kernel_rfl) ?_
  refine iL 15 O LK (fun _ => fU O) (qj (aZ (mZ (fD results25 O ?_))))
  exact ⟨O, H8⟩
end
end Go.Proofs.YtgofgnlkpeghcaaGreatDoor
end
section
namespace Go.Proofs.YtgofgnlkpeghcaaGreatDoor
open Go.RowKit
section
variable {w0 w : World} {F : HP} {e p h pr : Nat} {s : dw} {i j x : Int} {back : Bool} {v : Value} {l : List Int}
theorem abg {E : List (List Int)} (h : ∀ x ∈ E, x.length ≤ 1024) (k : Nat) : (E.getD k []).length ≤ 1024 := by
  rw [List.getD_eq_getElem?_getD]
  cases hk : E[k]? with
  | none => simp
  | some x => exact h x (List.mem_of_getElem? hk)
end
end Go.Proofs.YtgofgnlkpeghcaaGreatDoor
end
