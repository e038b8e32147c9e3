import Derived.Test.YtpdeedplgmbopaaGreatDoorZ4
import Derived.Test.YtpdeedplgmbopaaGreatDoorZ10
import Derived.Test.YtpdeedplgmbopaaGreatDoorZ3
import Derived.Test.YtpdeedplgmbopaaGreatDoorZ9
import Derived.Test.YtpdeedplgmbopaaGreatDoorZ5
import Derived.Test.YtpdeedplgmbopaaGreatDoorZ2
set_option linter.unusedSimpArgs false
set_option linter.unusedVariables false
/- Texts of mine, joined, their names in short: EdB EdC EdSt EKillM MapI RefTab VW VW2. -/
section
namespace Go.Proofs.YtpdeedplgmbopaaGreatDoor
open Go.RowKit
open _root_.Go.Proofs.Tryz
section
variable {w0 w : World} {F : HP} {e p h pr : Nat} {s : bn} {hl : List sN} {base most m : Int} {v : Value} {l : List Int}
theorem V.xO {b : Nat} (H : V w0 w (gY uw b (fun _ => none) • F)) : V w0 w (yN b (fun _ => []) • F) :=
  V.Ep (D := []) (P := fun _ => 0) List.nodup_nil (fun _ _ => rfl) (by rw [VR]; exact H.of_eq (by show _ = (_ • emp • _); rw [YtpdeedplgmbopaaGreatDoor.pO]))
set_option maxHeartbeats 1000000 in
theorem EZ {x0 x2 x3 x5 x6 x7 x8 x9 x10 x11 x12 yA x14 x15 x16 x17 x18 x19 x20 x21 yV x23 x24 x25 zo x27 x28 x29 x30 x31 x32 Ad : Value} {E : List (List Int)} {a : Nat} (H : V w0 w (dW e (.cells (x0 :: .pointer (some ⟨pr, 0, none⟩) :: x2 :: x3 :: .int .i64 m :: x5 :: x6 :: x7 :: x8 :: x9 :: x10 :: x11 :: x12 :: yA :: x14 :: x15 :: x16 :: x17 :: x18 :: x19 :: x20 :: x21 :: yV :: x23 :: x24 :: x25 :: zo :: x27 :: x28 :: x29 :: x30 :: x31 :: x32 :: Ad :: []).toArray 82 (0, 0)) • iY h hl base most • F)) (hr : jF w0 F .i32 v l) (hshort : l.length ≤ 1024) :
  iE prog 111 #[.pointer (some ⟨e, 0, none⟩), .pointer (some ⟨h, 0, none⟩), v] w fun _ w' => ∃ pb pw pt pm ph, V w0 w' (dW e (.cells (.pointer (some ⟨pb, 0, none⟩) :: .pointer (some ⟨pr, 0, none⟩) :: .pointer (some ⟨pw, 0, none⟩) :: .map (some pm) :: .int .i64 m :: .bool false :: .int .i64 0 :: .int .i64 0 :: .int .i64 0 :: .int .i64 0 :: .bool false :: .pointer (some ⟨ph, 0, none⟩) :: x12 :: .bool false :: .bool false :: .int .i64 (-1) :: x16 :: x17 :: x18 :: x19 :: x20 :: x21 :: yV :: x23 :: x24 :: x25 :: zo :: x27 :: x28 :: x29 :: x30 :: x31 :: x32 :: Ad :: []).toArray 82 (0, 0)) •
   iP pb l l.length (-1) • dW pw (.cells #[.int .i64 hl.length, .map (some pt)] 122 (0, 0)) • gY uw pt (fun _ => none) • yN pm (fun _ => []) • iY ph hl base most • iY h hl base most • F) := by
 refine zT func111 ntmps111 ?_
 refine bQ O (dS O func151 (QA H (fun W HW => hr _ (HW.right.right)) hshort) ?_)
 rintro _ w1 ⟨p1, rfl, H1⟩
 refine bT O (uH O O (uH O O (iK O (fG O (bQ O (bT O (dS O func109 (vT H1.f3) ?_)))))))
 rintro _ w2 ⟨q2, rfl, H2⟩
 refine dK O (bJ 11 ah O sizeOf78 O (aJ (eX 11 H2.f4 sizeOf78) ?_))
 rintro _ w3 H3
 refine qQ ?_
 have abm := H3.drew
 have Ag := V.kp (abm.f3.right.f3.f3.f3)
 refine yH [6, 17] Ag O (iQ 0 O Ag O (iQ 1 O Ag O (iQ 2 O Ag O (jU 3 O Ag O (gU 4 O Ag 0 ah O aU O (gU 5 O Ag 1 aI O sizeOf73 O (jO 6 O Ag (fun W hW => jV qR O ((Kp.h hW)).get.2 O) (iQ 7 O Ag O (iQ 13 O Ag O (jU 14 O Ag O (gU 15 O Ag 0 ah O aU O (gU 16 O Ag 4 aI O ay O (jO 17 O Ag (fun W hW => jV aH O ((Kp.h hW)).get.2 O) ?_)))))))))))))
 refine Yx (i := 8) (j := 9) (k := 12) (by kernel_rfl) ?_ ?_ ?_
 ·skip
  refine kY 8 O (by kernel_rfl) (xZ (zh O func117 O O) (qG abm.f3)) (oz O) ?_
  rintro _ w4 ⟨rfl, H4⟩
  have zq := V.kp (H4.f4.f4.f4.f4)
  refine eF zq (fun W hW => (Kp.h hW).right.f3.f3.f3) ?_
  refine Am (i := 9) (j := 12) (by kernel_rfl) ?_ ?_
  ·skip
   refine kY 9 O (by kernel_rfl) (kS (zB .i64) H4) (oz O) ?_
   rintro _ w5 ⟨b5, rfl, H5⟩
   have FC := V.kp (H5.f5.f5.f5.f5.f5)
   refine eF FC (fun W hW => (Kp.h hW).right.f4.f4.f4.f4) ?_
   refine jC 10 O FC (fun _ => fC (zl := [.int .i64 0, .map none]) (pl := [(0, 1), (1, 1)]) [_, _] gy oZ O (fun w => by kernel_rfl) O (.on (.on .nil)) O) ?_
   refine Am (i := 11) (j := 12) (by kernel_rfl) ?_ ?_
   ·skip
    refine kY 11 O (by kernel_rfl) (jL (l := [_, _]) H5 O O) (oz O) ?_
    rintro _ w6 ⟨b6, rfl, H6⟩
    have BR := V.kp (H6.f6.f6.f6.f6.f6.f6)
    refine eF BR (fun W hW => (Kp.h hW).right.f5.f5.f5.f5.f5) ?_
    refine mZ 12 O (kS (zB .i64) H6) ?_
    rintro _ w7 ⟨b7, rfl, H7⟩
    have Bd := V.kp (H7.f7.f7.f7.f7.f7.f7.f7)
    refine eF Bd (fun W hW => (Kp.h hW).right.f6.f6.f6.f6.f6.f6) ?_
    refine jC 18 O Bd (fun _ => fC (zl := [.pointer none, .pointer none, .pointer none, .map none, .int .i64 0, .bool false, .int .i64 0, .int .i64 0, .int .i64 0, .int .i64 0, .bool false]) (pl := [(0, 1), (1, 1), (2, 1), (3, 1), (4, 1), (5, 1), (6, 1), (7, 1), (8, 1), (9, 1), (10, 1)]) [_, _, _, _, _, _, _, _, _, _, _] aI nK O (fun w => by kernel_rfl) O (.on (.on (.on (.on (.on (.zero (zs := [.bool false]) O (.zero (zs := [.int .i64 0]) O (.zero (zs := [.int .i64 0]) O (.zero (zs := [.int .i64 0]) O (.zero (zs := [.int .i64 0]) O (.zero (zs := [.bool false]) O .nil))))))))))) O) ?_
    refine jU 19 O Bd O (gU 20 O Bd 0 ah O aU O ?_)
    refine gB 21 O (by kernel_rfl) (dB 0 (l' := [_, _, _, _, _, _, _, _, _, _, _, _, _, _, _, _, _, _, _, _, _, _, _, _, _, _, _, _, _, _, _, _, _, _]) (us := [_, _, _, _, _, _, _, _, _, _, _]) H7.f5 aU O O O (aG (aG (aG (aG (aG (aG (aG (aG (aG (aG (aG bU))))))))))) O O) ?_
    rintro _ w8 H8
    have Ie := V.kp (H8.f7.f7.f7.f7.f7.f7.f7)
    refine iG Ie (by kernel_rfl) ?_
    refine qV (aX (aC (jR O O (nG O O (bJ 13 ah O aP O (aJ (eX 13 H8 aP) ?_))))))
    rintro _ w9 H9
    refine dK O (bJ 14 ah O aP O (aJ (eX 14 H9 aP) ?_))
    rintro _ w10 pR
    refine dK O (bJ 15 ah O ay O (aJ (eX 15 pR ay) ?_))
    rintro _ Fv tq
    refine bW (lM (.inr O) results111 ?_)
    have Pz := tq.f2
    have PD := Pz.xO
    exact ⟨_, _, _, _, _, PD.f5.f6.f3.f6.f6.f7.f7⟩
   ·skip
    refine kY 12 O (by kernel_rfl) (kS (zB .i64) H5) (oz O) ?_
    rintro _ OQ ⟨b14, rfl, AZ⟩
    have Gv := V.kp (AZ.f6.f6.f6.f6.f6.f6)
    refine eF Gv (fun W hW => (Kp.h hW).right.f5.f5.f5.f5.f5) ?_
    refine mZ 11 O (jL (l := [_, _]) AZ O O) ?_
    rintro _ QE ⟨b15, rfl, zU⟩
    have yC := V.kp (zU.f7.f7.f7.f7.f7.f7.f7)
    refine eF yC (fun W hW => (Kp.h hW).right.f6.f6.f6.f6.f6.f6) ?_
    refine jC 18 O yC (fun _ => fC (zl := [.pointer none, .pointer none, .pointer none, .map none, .int .i64 0, .bool false, .int .i64 0, .int .i64 0, .int .i64 0, .int .i64 0, .bool false]) (pl := [(0, 1), (1, 1), (2, 1), (3, 1), (4, 1), (5, 1), (6, 1), (7, 1), (8, 1), (9, 1), (10, 1)]) [_, _, _, _, _, _, _, _, _, _, _] aI nK O (fun w => by kernel_rfl) O (.on (.on (.on (.on (.on (.zero (zs := [.bool false]) O (.zero (zs := [.int .i64 0]) O (.zero (zs := [.int .i64 0]) O (.zero (zs := [.int .i64 0]) O (.zero (zs := [.int .i64 0]) O (.zero (zs := [.bool false]) O .nil))))))))))) O) ?_
    refine jU 19 O yC O (gU 20 O yC 0 ah O aU O ?_)
    refine gB 21 O (by kernel_rfl) (dB 0 (l' := [_, _, _, _, _, _, _, _, _, _, _, _, _, _, _, _, _, _, _, _, _, _, _, _, _, _, _, _, _, _, _, _, _, _]) (us := [_, _, _, _, _, _, _, _, _, _, _]) zU.f5 aU O O O (aG (aG (aG (aG (aG (aG (aG (aG (aG (aG (aG bU))))))))))) O O) ?_
    rintro _ w16 vw
    have DJ := V.kp (vw.f7.f7.f7.f7.f7.f7.f7)
    refine iG DJ (by kernel_rfl) ?_
    refine qV (aX (aC (jR O O (nG O O (bJ 13 ah O aP O (aJ (eX 13 vw aP) ?_))))))
    rintro _ YI Dh
    refine dK O (bJ 14 ah O aP O (aJ (eX 14 Dh aP) ?_))
    rintro _ YD EN
    refine dK O (bJ 15 ah O ay O (aJ (eX 15 EN ay) ?_))
    rintro _ w19 EF
    refine bW (lM (.inr O) results111 ?_)
    have Zm := EF.f3
    have Uu := Zm.xO
    exact ⟨_, _, _, _, _, Uu.f5.f6.f3.f6.f6.f7.f7⟩
  ·skip
   refine kY 12 O (by kernel_rfl) (kS (zB .i64) H4) (oz O) ?_
   rintro _ w22 ⟨b22, rfl, Jv⟩
   have GH := V.kp (Jv.f5.f5.f5.f5.f5)
   refine eF GH (fun W hW => (Kp.h hW).right.f4.f4.f4.f4) ?_
   refine mZ 9 O (kS (zB .i64) Jv) ?_
   rintro _ w23 ⟨b23, rfl, CQ⟩
   have I5 := V.kp (CQ.f6.f6.f6.f6.f6.f6)
   refine eF I5 (fun W hW => (Kp.h hW).right.f5.f5.f5.f5.f5) ?_
   refine jC 10 O I5 (fun _ => fC (zl := [.int .i64 0, .map none]) (pl := [(0, 1), (1, 1)]) [_, _] gy oZ O (fun w => by kernel_rfl) O (.on (.on .nil)) O) ?_
   refine mZ 11 O (jL (l := [_, _]) CQ O O) ?_
   rintro _ w24 ⟨b24, rfl, Qy⟩
   have KP := V.kp (Qy.f7.f7.f7.f7.f7.f7.f7)
   refine eF KP (fun W hW => (Kp.h hW).right.f6.f6.f6.f6.f6.f6) ?_
   refine jC 18 O KP (fun _ => fC (zl := [.pointer none, .pointer none, .pointer none, .map none, .int .i64 0, .bool false, .int .i64 0, .int .i64 0, .int .i64 0, .int .i64 0, .bool false]) (pl := [(0, 1), (1, 1), (2, 1), (3, 1), (4, 1), (5, 1), (6, 1), (7, 1), (8, 1), (9, 1), (10, 1)]) [_, _, _, _, _, _, _, _, _, _, _] aI nK O (fun w => by kernel_rfl) O (.on (.on (.on (.on (.on (.zero (zs := [.bool false]) O (.zero (zs := [.int .i64 0]) O (.zero (zs := [.int .i64 0]) O (.zero (zs := [.int .i64 0]) O (.zero (zs := [.int .i64 0]) O (.zero (zs := [.bool false]) O .nil))))))))))) O) ?_
   refine jU 19 O KP O (gU 20 O KP 0 ah O aU O ?_)
   refine gB 21 O (by kernel_rfl) (dB 0 (l' := [_, _, _, _, _, _, _, _, _, _, _, _, _, _, _, _, _, _, _, _, _, _, _, _, _, _, _, _, _, _, _, _, _, _]) (us := [_, _, _, _, _, _, _, _, _, _, _]) Qy.f5 aU O O O (aG (aG (aG (aG (aG (aG (aG (aG (aG (aG (aG bU))))))))))) O O) ?_
   rintro _ w25 TT
   have Zn := V.kp (TT.f7.f7.f7.f7.f7.f7.f7)
   refine iG Zn (by kernel_rfl) ?_
   refine qV (aX (aC (jR O O (nG O O (bJ 13 ah O aP O (aJ (eX 13 TT aP) ?_))))))
   rintro _ w26 VA
   refine dK O (bJ 14 ah O aP O (aJ (eX 14 VA aP) ?_))
   rintro _ w27 NS
   refine dK O (bJ 15 ah O ay O (aJ (eX 15 NS ay) ?_))
   rintro _ w28 H28
   refine bW (lM (.inr O) results111 ?_)
   have ac7 := H28.f4
   have ac8 := ac7.xO
   exact ⟨_, _, _, _, _, ac8.f5.f6.f3.f6.f6.f7.f7⟩
 ·skip
  refine kY 9 O (by kernel_rfl) (kS (zB .i64) abm) (oz O) ?_
  rintro _ w31 ⟨b31, rfl, Tn⟩
  have Zo := V.kp (Tn.f4.right.f4.f4.f4.f4)
  refine eF Zo (fun W hW => (Kp.h hW).right.f3.f3.f3) ?_
  refine Am (i := 8) (j := 12) (by kernel_rfl) ?_ ?_
  ·skip
   refine kY 8 O (by kernel_rfl) (xZ (zh O func117 O O) (qG Tn.f4)) (oz O) ?_
   rintro _ w32 ⟨rfl, NT⟩
   have VU := V.kp (NT.f5.f5.f5.f5.f5)
   refine eF VU (fun W hW => (Kp.h hW).right.f4.f4.f4.f4) ?_
   refine jC 10 O VU (fun _ => fC (zl := [.int .i64 0, .map none]) (pl := [(0, 1), (1, 1)]) [_, _] gy oZ O (fun w => by kernel_rfl) O (.on (.on .nil)) O) ?_
   refine Am (i := 11) (j := 12) (by kernel_rfl) ?_ ?_
   ·skip
    refine kY 11 O (by kernel_rfl) (jL (l := [_, _]) NT O O) (oz O) ?_
    rintro _ w33 ⟨b33, rfl, WV⟩
    have VW := V.kp (WV.f6.f6.f6.f6.f6.f6)
    refine eF VW (fun W hW => (Kp.h hW).right.f5.f5.f5.f5.f5) ?_
    refine mZ 12 O (kS (zB .i64) WV) ?_
    rintro _ w34 ⟨b34, rfl, Zp⟩
    have Ob := V.kp (Zp.f7.f7.f7.f7.f7.f7.f7)
    refine eF Ob (fun W hW => (Kp.h hW).right.f6.f6.f6.f6.f6.f6) ?_
    refine jC 18 O Ob (fun _ => fC (zl := [.pointer none, .pointer none, .pointer none, .map none, .int .i64 0, .bool false, .int .i64 0, .int .i64 0, .int .i64 0, .int .i64 0, .bool false]) (pl := [(0, 1), (1, 1), (2, 1), (3, 1), (4, 1), (5, 1), (6, 1), (7, 1), (8, 1), (9, 1), (10, 1)]) [_, _, _, _, _, _, _, _, _, _, _] aI nK O (fun w => by kernel_rfl) O (.on (.on (.on (.on (.on (.zero (zs := [.bool false]) O (.zero (zs := [.int .i64 0]) O (.zero (zs := [.int .i64 0]) O (.zero (zs := [.int .i64 0]) O (.zero (zs := [.int .i64 0]) O (.zero (zs := [.bool false]) O .nil))))))))))) O) ?_
    refine jU 19 O Ob O (gU 20 O Ob 0 ah O aU O ?_)
    refine gB 21 O (by kernel_rfl) (dB 0 (l' := [_, _, _, _, _, _, _, _, _, _, _, _, _, _, _, _, _, _, _, _, _, _, _, _, _, _, _, _, _, _, _, _, _, _]) (us := [_, _, _, _, _, _, _, _, _, _, _]) Zp.f5 aU O O O (aG (aG (aG (aG (aG (aG (aG (aG (aG (aG (aG bU))))))))))) O O) ?_
    rintro _ w35 H35
    have Zq := V.kp (H35.f7.f7.f7.f7.f7.f7.f7)
    refine iG Zq (by kernel_rfl) ?_
    refine qV (aX (aC (jR O O (nG O O (bJ 13 ah O aP O (aJ (eX 13 H35 aP) ?_))))))
    rintro _ w36 H36
    refine dK O (bJ 14 ah O aP O (aJ (eX 14 H36 aP) ?_))
    rintro _ w37 H37
    refine dK O (bJ 15 ah O ay O (aJ (eX 15 H37 ay) ?_))
    rintro _ w38 Uw
    refine bW (lM (.inr O) results111 ?_)
    have af4 := Uw.f2
    have af5 := af4.xO
    exact ⟨_, _, _, _, _, af5.f4.f6.f3.f6.f6.f7.f7⟩
   ·skip
    refine kY 12 O (by kernel_rfl) (kS (zB .i64) NT) (oz O) ?_
    rintro _ w41 ⟨b41, rfl, H41⟩
    have Zr := V.kp (H41.f6.f6.f6.f6.f6.f6)
    refine eF Zr (fun W hW => (Kp.h hW).right.f5.f5.f5.f5.f5) ?_
    refine mZ 11 O (jL (l := [_, _]) H41 O O) ?_
    rintro _ w42 ⟨b42, rfl, H42⟩
    have Oc := V.kp (H42.f7.f7.f7.f7.f7.f7.f7)
    refine eF Oc (fun W hW => (Kp.h hW).right.f6.f6.f6.f6.f6.f6) ?_
    refine jC 18 O Oc (fun _ => fC (zl := [.pointer none, .pointer none, .pointer none, .map none, .int .i64 0, .bool false, .int .i64 0, .int .i64 0, .int .i64 0, .int .i64 0, .bool false]) (pl := [(0, 1), (1, 1), (2, 1), (3, 1), (4, 1), (5, 1), (6, 1), (7, 1), (8, 1), (9, 1), (10, 1)]) [_, _, _, _, _, _, _, _, _, _, _] aI nK O (fun w => by kernel_rfl) O (.on (.on (.on (.on (.on (.zero (zs := [.bool false]) O (.zero (zs := [.int .i64 0]) O (.zero (zs := [.int .i64 0]) O (.zero (zs := [.int .i64 0]) O (.zero (zs := [.int .i64 0]) O (.zero (zs := [.bool false]) O .nil))))))))))) O) ?_
    refine jU 19 O Oc O (gU 20 O Oc 0 ah O aU O ?_)
    refine gB 21 O (by kernel_rfl) (dB 0 (l' := [_, _, _, _, _, _, _, _, _, _, _, _, _, _, _, _, _, _, _, _, _, _, _, _, _, _, _, _, _, _, _, _, _, _]) (us := [_, _, _, _, _, _, _, _, _, _, _]) H42.f5 aU O O O (aG (aG (aG (aG (aG (aG (aG (aG (aG (aG (aG bU))))))))))) O O) ?_
    rintro _ w43 H43
    have Zt := V.kp (H43.f7.f7.f7.f7.f7.f7.f7)
    refine iG Zt (by kernel_rfl) ?_
    refine qV (aX (aC (jR O O (nG O O (bJ 13 ah O aP O (aJ (eX 13 H43 aP) ?_))))))
    rintro _ w44 H44
    refine dK O (bJ 14 ah O aP O (aJ (eX 14 H44 aP) ?_))
    rintro _ w45 Tq
    refine dK O (bJ 15 ah O ay O (aJ (eX 15 Tq ay) ?_))
    rintro _ w46 H46
    refine bW (lM (.inr O) results111 ?_)
    have af6 := H46.f3
    have af7 := af6.xO
    exact ⟨_, _, _, _, _, af7.f4.f6.f3.f6.f6.f7.f7⟩
  ·skip
   refine kY 12 O (by kernel_rfl) (kS (zB .i64) Tn) (oz O) ?_
   rintro _ w49 ⟨b49, rfl, H49⟩
   have aez := V.kp (H49.f5.right.f5.f5.f5.f5.f5)
   refine eF aez (fun W hW => (Kp.h hW).right.f4.f4.f4.f4) ?_
   refine mZ 8 O (xq O func117 (qG H49.f5)) ?_
   rintro _ w50 ⟨rfl, H50⟩
   have acj := V.kp (H50.f6.f6.f6.f6.f6.f6)
   refine eF acj (fun W hW => (Kp.h hW).right.f5.f5.f5.f5.f5) ?_
   refine jC 10 O acj (fun _ => fC (zl := [.int .i64 0, .map none]) (pl := [(0, 1), (1, 1)]) [_, _] gy oZ O (fun w => by kernel_rfl) O (.on (.on .nil)) O) ?_
   refine mZ 11 O (jL (l := [_, _]) H50 O O) ?_
   rintro _ w51 ⟨b51, rfl, H51⟩
   have VX := V.kp (H51.f7.f7.f7.f7.f7.f7.f7)
   refine eF VX (fun W hW => (Kp.h hW).right.f6.f6.f6.f6.f6.f6) ?_
   refine jC 18 O VX (fun _ => fC (zl := [.pointer none, .pointer none, .pointer none, .map none, .int .i64 0, .bool false, .int .i64 0, .int .i64 0, .int .i64 0, .int .i64 0, .bool false]) (pl := [(0, 1), (1, 1), (2, 1), (3, 1), (4, 1), (5, 1), (6, 1), (7, 1), (8, 1), (9, 1), (10, 1)]) [_, _, _, _, _, _, _, _, _, _, _] aI nK O (fun w => by kernel_rfl) O (.on (.on (.on (.on (.on (.zero (zs := [.bool false]) O (.zero (zs := [.int .i64 0]) O (.zero (zs := [.int .i64 0]) O (.zero (zs := [.int .i64 0]) O (.zero (zs := [.int .i64 0]) O (.zero (zs := [.bool false]) O .nil))))))))))) O) ?_
   refine jU 19 O VX O (gU 20 O VX 0 ah O aU O ?_)
   refine gB 21 O (by kernel_rfl) (dB 0 (l' := [_, _, _, _, _, _, _, _, _, _, _, _, _, _, _, _, _, _, _, _, _, _, _, _, _, _, _, _, _, _, _, _, _, _]) (us := [_, _, _, _, _, _, _, _, _, _, _]) H51.f5 aU O O O (aG (aG (aG (aG (aG (aG (aG (aG (aG (aG (aG bU))))))))))) O O) ?_
   rintro _ w52 H52
   have aeA := V.kp (H52.f7.f7.f7.f7.f7.f7.f7)
   refine iG aeA (by kernel_rfl) ?_
   refine qV (aX (aC (jR O O (nG O O (bJ 13 ah O aP O (aJ (eX 13 H52 aP) ?_))))))
   rintro _ w53 H53
   refine dK O (bJ 14 ah O aP O (aJ (eX 14 H53 aP) ?_))
   rintro _ w54 H54
   refine dK O (bJ 15 ah O ay O (aJ (eX 15 H54 ay) ?_))
   rintro _ w55 H55
   refine bW (lM (.inr O) results111 ?_)
   have af8 := H55.f4
   have af9 := af8.xO
   exact ⟨_, _, _, _, _, af9.f4.f6.f3.f6.f6.f7.f7⟩
 ·skip
  refine kY 12 O (by kernel_rfl) (kS (zB .i64) abm) (oz O) ?_
  rintro _ w58 ⟨b58, rfl, H58⟩
  have aeB := V.kp (H58.f4.right.f4.f4.f4.f4)
  refine eF aeB (fun W hW => (Kp.h hW).right.f3.f3.f3) ?_
  refine Am (i := 8) (j := 9) (by kernel_rfl) ?_ ?_
  ·skip
   refine kY 8 O (by kernel_rfl) (xZ (zh O func117 O O) (qG H58.f4)) (oz O) ?_
   rintro _ w59 ⟨rfl, H59⟩
   have aeC := V.kp (H59.f5.f5.f5.f5.f5)
   refine eF aeC (fun W hW => (Kp.h hW).right.f4.f4.f4.f4) ?_
   refine mZ 9 O (kS (zB .i64) H59) ?_
   rintro _ w60 ⟨b60, rfl, H60⟩
   have ack := V.kp (H60.f6.f6.f6.f6.f6.f6)
   refine eF ack (fun W hW => (Kp.h hW).right.f5.f5.f5.f5.f5) ?_
   refine jC 10 O ack (fun _ => fC (zl := [.int .i64 0, .map none]) (pl := [(0, 1), (1, 1)]) [_, _] gy oZ O (fun w => by kernel_rfl) O (.on (.on .nil)) O) ?_
   refine mZ 11 O (jL (l := [_, _]) H60 O O) ?_
   rintro _ w61 ⟨b61, rfl, H61⟩
   have VY := V.kp (H61.f7.f7.f7.f7.f7.f7.f7)
   refine eF VY (fun W hW => (Kp.h hW).right.f6.f6.f6.f6.f6.f6) ?_
   refine jC 18 O VY (fun _ => fC (zl := [.pointer none, .pointer none, .pointer none, .map none, .int .i64 0, .bool false, .int .i64 0, .int .i64 0, .int .i64 0, .int .i64 0, .bool false]) (pl := [(0, 1), (1, 1), (2, 1), (3, 1), (4, 1), (5, 1), (6, 1), (7, 1), (8, 1), (9, 1), (10, 1)]) [_, _, _, _, _, _, _, _, _, _, _] aI nK O (fun w => by kernel_rfl) O (.on (.on (.on (.on (.on (.zero (zs := [.bool false]) O (.zero (zs := [.int .i64 0]) O (.zero (zs := [.int .i64 0]) O (.zero (zs := [.int .i64 0]) O (.zero (zs := [.int .i64 0]) O (.zero (zs := [.bool false]) O .nil))))))))))) O) ?_
   refine jU 19 O VY O (gU 20 O VY 0 ah O aU O ?_)
   refine gB 21 O (by kernel_rfl) (dB 0 (l' := [_, _, _, _, _, _, _, _, _, _, _, _, _, _, _, _, _, _, _, _, _, _, _, _, _, _, _, _, _, _, _, _, _, _]) (us := [_, _, _, _, _, _, _, _, _, _, _]) H61.f5 aU O O O (aG (aG (aG (aG (aG (aG (aG (aG (aG (aG (aG bU))))))))))) O O) ?_
   rintro _ w62 H62
   have aeD := V.kp (H62.f7.f7.f7.f7.f7.f7.f7)
   refine iG aeD (by kernel_rfl) ?_
   refine qV (aX (aC (jR O O (nG O O (bJ 13 ah O aP O (aJ (eX 13 H62 aP) ?_))))))
   rintro _ w63 H63
   refine dK O (bJ 14 ah O aP O (aJ (eX 14 H63 aP) ?_))
   rintro _ w64 H64
   refine dK O (bJ 15 ah O ay O (aJ (eX 15 H64 ay) ?_))
   rintro _ w65 H65
   refine bW (lM (.inr O) results111 ?_)
   have aga := H65.f5
   have agb := aga.xO
   exact ⟨_, _, _, _, _, agb.f5.f6.f3.f6.f6.f7.f7⟩
  ·skip
   refine kY 9 O (by kernel_rfl) (kS (zB .i64) H58) (oz O) ?_
   rintro _ w68 ⟨b68, rfl, H68⟩
   have aeE := V.kp (H68.f5.right.f5.f5.f5.f5.f5)
   refine eF aeE (fun W hW => (Kp.h hW).right.f4.f4.f4.f4) ?_
   refine mZ 8 O (xq O func117 (qG H68.f5)) ?_
   rintro _ w69 ⟨rfl, H69⟩
   have acm := V.kp (H69.f6.f6.f6.f6.f6.f6)
   refine eF acm (fun W hW => (Kp.h hW).right.f5.f5.f5.f5.f5) ?_
   refine jC 10 O acm (fun _ => fC (zl := [.int .i64 0, .map none]) (pl := [(0, 1), (1, 1)]) [_, _] gy oZ O (fun w => by kernel_rfl) O (.on (.on .nil)) O) ?_
   refine mZ 11 O (jL (l := [_, _]) H69 O O) ?_
   rintro _ w70 ⟨b70, rfl, H70⟩
   have VZ := V.kp (H70.f7.f7.f7.f7.f7.f7.f7)
   refine eF VZ (fun W hW => (Kp.h hW).right.f6.f6.f6.f6.f6.f6) ?_
   refine jC 18 O VZ (fun _ => fC (zl := [.pointer none, .pointer none, .pointer none, .map none, .int .i64 0, .bool false, .int .i64 0, .int .i64 0, .int .i64 0, .int .i64 0, .bool false]) (pl := [(0, 1), (1, 1), (2, 1), (3, 1), (4, 1), (5, 1), (6, 1), (7, 1), (8, 1), (9, 1), (10, 1)]) [_, _, _, _, _, _, _, _, _, _, _] aI nK O (fun w => by kernel_rfl) O (.on (.on (.on (.on (.on (.zero (zs := [.bool false]) O (.zero (zs := [.int .i64 0]) O (.zero (zs := [.int .i64 0]) O (.zero (zs := [.int .i64 0]) O (.zero (zs := [.int .i64 0]) O (.zero (zs := [.bool false]) O .nil))))))))))) O) ?_
   refine jU 19 O VZ O (gU 20 O VZ 0 ah O aU O ?_)
   refine gB 21 O (by kernel_rfl) (dB 0 (l' := [_, _, _, _, _, _, _, _, _, _, _, _, _, _, _, _, _, _, _, _, _, _, _, _, _, _, _, _, _, _, _, _, _, _]) (us := [_, _, _, _, _, _, _, _, _, _, _]) H70.f5 aU O O O (aG (aG (aG (aG (aG (aG (aG (aG (aG (aG (aG bU))))))))))) O O) ?_
   rintro _ w71 H71
   have aeF := V.kp (H71.f7.f7.f7.f7.f7.f7.f7)
   refine iG aeF (by kernel_rfl) ?_
   refine qV (aX (aC (jR O O (nG O O (bJ 13 ah O aP O (aJ (eX 13 H71 aP) ?_))))))
   rintro _ w72 H72
   refine dK O (bJ 14 ah O aP O (aJ (eX 14 H72 aP) ?_))
   rintro _ w73 H73
   refine dK O (bJ 15 ah O ay O (aJ (eX 15 H73 ay) ?_))
   rintro _ w74 H74
   refine bW (lM (.inr O) results111 ?_)
   have agc := H74.f5
   have agd := agc.xO
   exact ⟨_, _, _, _, _, agd.f4.f6.f3.f6.f6.f7.f7⟩
theorem V.FM {c : oC} {u : List Value} (H : V w0 w F) (hu : (u.all fun x => x.oneCell') = true) : V w0 w (xM false c u • F) := by
  unfold xM
  rw [if_neg (by decide)]
  exact H.lK hu
theorem zG {inn : Bool} {c : oC} {u : List Value} (H : V w0 w (xM inn c u • F)) : (u.all fun x => x.oneCell') = true := by
  unfold xM at H
  cases inn with
  | true =>
    rw [if_pos rfl] at H
    obtain ⟨⟨pb, pr, pw, pt, pm⟩, H⟩ := H.nX
    obtain ⟨h, _⟩ := H.flat.fact
    rw [h]; rfl
  | false =>
    rw [if_neg (by decide)] at H
    exact H.fact.1
theorem V.ac9 {pb pr pw pt pm : Nat} {c : oC} (H : V w0 w (iP pb c.L c.pt c.mark • dZ pr c.E c.at_ • dW pw (.cells #[.int .i64 c.place, .map (some pt)] 122 (0, 0)) • gY uw pt (vV c.tx) • yN pm c.un • F)) : V w0 w (xM true c (Rh pb pr pw pm c) • F) := by
  unfold xM
  rw [if_pos rfl]
  exact V.jw (pb, pr, pw, pt, pm) (V.deep (V.lK rfl (H.of_eq (by unfold Uo; simp only [dG]))))
theorem V.was {c : oC} {u : List Value} (H : V w0 w (xM true c u • F)) : ∃ pb pr pw pt pm, u = Rh pb pr pw pm c ∧ V w0 w (iP pb c.L c.pt c.mark • dZ pr c.E c.at_ • dW pw (.cells #[.int .i64 c.place, .map (some pt)] 122 (0, 0)) • gY uw pt (vV c.tx) • yN pm c.un • F) := by
  unfold xM at H
  rw [if_pos rfl] at H
  obtain ⟨⟨pb, pr, pw, pt, pm⟩, H⟩ := H.nX
  obtain ⟨h, H⟩ := H.flat.fact
  exact ⟨pb, pr, pw, pt, pm, h, H.of_eq (by unfold Uo; simp only [dG])⟩
theorem V.KQ {pb pr pw pt pm ph bl : Nat} {u0 u1 u2 u3 u4 u5 u6 u7 u8 u9 ua : Value} (h1 : mM s) (hp : s.put = []) (H : V w0 w (dW e (.cells (.pointer (some ⟨pb, 0, none⟩) :: .pointer (some ⟨pr, 0, none⟩) :: .pointer (some ⟨pw, 0, none⟩) :: .map (some pm) :: .int .i64 s.c.mode :: .bool s.c.over :: .int .i64 s.c.last :: .int .i64 s.c.fr :: .int .i64 s.c.to :: .int .i64 s.c.res :: .bool s.c.run :: .pointer (some ⟨ph, 0, none⟩) :: .pointer (some ⟨bl, 0, none⟩) :: .bool s.given :: .bool s.minus :: .int .i64 s.arg :: .bool s.inn :: u0 :: u1 :: u2 :: u3 :: u4 :: u5 :: u6 :: u7 :: u8 :: u9 :: ua :: .int .i64 s.cls :: .bool s.killed :: .bool s.kU :: .bool s.argues :: .bool s.whole :: .slice none 0 0 :: []).toArray 82 (0, 0)) • iP pb s.c.L s.c.pt s.c.mark • dZ pr s.c.E s.c.at_ • dW pw (.cells #[.int .i64 s.c.place, .map (some pt)] 122 (0, 0)) • gY uw pt (vV s.c.tx) • yN pm s.c.un • iY ph s.hl s.base s.most • dW bl (.cells #[.int .i64 s.um] 161 (0, 0)) • xM s.inn s.was [u0, u1, u2, u3, u4, u5, u6, u7, u8, u9, ua] • F)) : V w0 w (eP e s • F) := by
  refine V.iq (pb := pb) (pr := pr) (pw := pw) (pt := pt) (pm := pm) (ph := ph) (bl := bl) (u0 := u0) (u1 := u1) (u2 := u2) (u3 := u3) (u4 := u4) (u5 := u5) (u6 := u6) (u7 := u7) (u8 := u8) (u9 := u9) (ua := ua) (pv := .slice none 0 0) (es := []) h1 (by rw [hp]; rfl) ?_
  rw [hp]
  exact (H.uG none).of_eq (by unfold L6; ac_rfl)
theorem V.Ux {pb pr pw pt pm ph bl : Nat} {u0 u1 u2 u3 u4 u5 u6 u7 u8 u9 ua : Value} (h1 : mM s) (hp : s.put = []) (hi : s.inn = false) (H : V w0 w (dW e (.cells (.pointer (some ⟨pb, 0, none⟩) :: .pointer (some ⟨pr, 0, none⟩) :: .pointer (some ⟨pw, 0, none⟩) :: .map (some pm) :: .int .i64 s.c.mode :: .bool s.c.over :: .int .i64 s.c.last :: .int .i64 s.c.fr :: .int .i64 s.c.to :: .int .i64 s.c.res :: .bool s.c.run :: .pointer (some ⟨ph, 0, none⟩) :: .pointer (some ⟨bl, 0, none⟩) :: .bool s.given :: .bool s.minus :: .int .i64 s.arg :: .bool false :: u0 :: u1 :: u2 :: u3 :: u4 :: u5 :: u6 :: u7 :: u8 :: u9 :: ua :: .int .i64 s.cls :: .bool s.killed :: .bool s.kU :: .bool s.argues :: .bool s.whole :: .slice none 0 0 :: []).toArray 82 (0, 0)) • iP pb s.c.L s.c.pt s.c.mark • dZ pr s.c.E s.c.at_ • dW pw (.cells #[.int .i64 s.c.place, .map (some pt)] 122 (0, 0)) • gY uw pt (vV s.c.tx) • yN pm s.c.un • iY ph s.hl s.base s.most • dW bl (.cells #[.int .i64 s.um] 161 (0, 0)) • F)) (hu : ([u0, u1, u2, u3, u4, u5, u6, u7, u8, u9, ua].all fun x => x.oneCell') = true := by rfl) : V w0 w (eP e s • F) := by
  refine V.KQ (pb := pb) (pr := pr) (pw := pw) (pt := pt) (pm := pm) (ph := ph) (bl := bl) (u0 := u0) (u1 := u1) (u2 := u2) (u3 := u3) (u4 := u4) (u5 := u5) (u6 := u6) (u7 := u7) (u8 := u8) (u9 := u9) (ua := ua) h1 hp ?_
  rw [hi]
  exact (H.FM (c := s.was) (u := [u0, u1, u2, u3, u4, u5, u6, u7, u8, u9, ua]) hu).of_eq (by ac_rfl)
theorem V.Zu {pb pr pw pt pm ph bl : Nat} {u0 u1 u2 u3 u4 u5 u6 u7 u8 u9 ua : Value} {pv : Value} {es : List fA} (h1 : mM s) (h2 : es.map fA.says = s.put) (H : V w0 w (L6 pv es • dW e (.cells (.pointer (some ⟨pb, 0, none⟩) :: .pointer (some ⟨pr, 0, none⟩) :: .pointer (some ⟨pw, 0, none⟩) :: .map (some pm) :: .int .i64 s.c.mode :: .bool s.c.over :: .int .i64 s.c.last :: .int .i64 s.c.fr :: .int .i64 s.c.to :: .int .i64 s.c.res :: .bool s.c.run :: .pointer (some ⟨ph, 0, none⟩) :: .pointer (some ⟨bl, 0, none⟩) :: .bool s.given :: .bool s.minus :: .int .i64 s.arg :: .bool s.inn :: u0 :: u1 :: u2 :: u3 :: u4 :: u5 :: u6 :: u7 :: u8 :: u9 :: ua :: .int .i64 s.cls :: .bool s.killed :: .bool s.kU :: .bool s.argues :: .bool s.whole :: pv :: []).toArray 82 (0, 0)) • iP pb s.c.L s.c.pt s.c.mark • dZ pr s.c.E s.c.at_ • dW pw (.cells #[.int .i64 s.c.place, .map (some pt)] 122 (0, 0)) • gY uw pt (vV s.c.tx) • yN pm s.c.un • iY ph s.hl s.base s.most • dW bl (.cells #[.int .i64 s.um] 161 (0, 0)) • xM s.inn s.was [u0, u1, u2, u3, u4, u5, u6, u7, u8, u9, ua] • F)) : V w0 w (eP e s • F) := by
  refine V.iq (pb := pb) (pr := pr) (pw := pw) (pt := pt) (pm := pm) (ph := ph) (bl := bl) (u0 := u0) (u1 := u1) (u2 := u2) (u3 := u3) (u4 := u4) (u5 := u5) (u6 := u6) (u7 := u7) (u8 := u8) (u9 := u9) (ua := ua) (pv := pv) (es := es) h1 h2 ?_
  have hl : s.put.length = es.length := by rw [← h2]; simp
  rw [hl]
  exact H.of_eq (by unfold L6; ac_rfl)
theorem Zv : gV [] [] = 0 := rfl
theorem Ro (hl : List sN) (l : List Int) (E : List (List Int)) (a : Nat) (m : Int) : Ur hl (oC.fresh l E a hl.length m) := ⟨by simp [oC.fresh], by simp [oC.fresh], by simp [oC.fresh]⟩
theorem PE (hl : List sN) (base most : Int) : mM (bn.new hl base most) :=
  ⟨Ro _ _ _ _ _, by simp [bn.new], by simp [bn.new], by simp [bn.new], by simp [bn.new, bn.here, oC.fresh, gV], by simp [bn.new, oC.fresh]⟩
theorem Uy (H : V w0 w (iY h hl base most • F)) : iE prog 57 #[.pointer (some ⟨h, 0, none⟩)] w fun v w' => ∃ e, v = .tuple #[.pointer (some ⟨e, 0, none⟩), .int .i64 0] ∧ V w0 w' (eP e (bn.new hl base most) • iY h hl base most • F) := by
  refine iZ func57 ntmps57 ?_
  refine iR (iK O (uZ O (bQ O (dS O func109 (vT H) ?_))))
  rintro _ w1 ⟨q1, rfl, H1⟩
  refine Z (jy kX O O) (iJ (Qg O (fun h1 => ?_)))
  (try simp only [aA] at h1)
  refine gG (iR (Z (fC (zl := [.int .i64 0]) (pl := [(0, 0), (0, 0), (0, 1)]) [_] underlying161 zeroValue161 O (fun w => by kernel_rfl) O (.zero (zs := []) O (.zero (zs := []) O (.zero (zs := [.int .i64 0]) O .nil))) O) (kD (jL (l := [_]) H1 O O) ?_)))
  rintro _ w2 ⟨b2, rfl, H2⟩
  refine Z (fC (zl := [.pointer none, .pointer none, .pointer none, .map none, .int .i64 0, .bool false, .int .i64 0, .int .i64 0, .int .i64 0, .int .i64 0, .bool false, .pointer none, .pointer none, .bool false, .bool false, .int .i64 0, .bool false, .pointer none, .pointer none, .pointer none, .map none, .int .i64 0, .bool false, .int .i64 0, .int .i64 0, .int .i64 0, .int .i64 0, .bool false, .int .i64 0, .bool false, .bool false, .bool false, .bool false, .slice none 0 0]) (pl := [(0, 11), (11, 1), (12, 1), (13, 1), (14, 1), (15, 1), (16, 1), (17, 11), (28, 1), (29, 1), (30, 1), (31, 1), (32, 1), (33, 1)]) [_, _, _, _, _, _, _, _, _, _, _, _, _, _, _, _, _, _, _, _, _, _, _, _, _, _, _, _, _, _, _, _, _, _] ah zeroValue82 O (fun w => by kernel_rfl) O (.zero (zs := [.pointer none, .pointer none, .pointer none, .map none, .int .i64 0, .bool false, .int .i64 0, .int .i64 0, .int .i64 0, .int .i64 0, .bool false]) O (.zero (zs := [.pointer none]) O (.on (.zero (zs := [.bool false]) O (.zero (zs := [.bool false]) O (.zero (zs := [.int .i64 0]) O (.zero (zs := [.bool false]) O (.zero (zs := [.pointer none, .pointer none, .pointer none, .map none, .int .i64 0, .bool false, .int .i64 0, .int .i64 0, .int .i64 0, .int .i64 0, .bool false]) O (.zero (zs := [.int .i64 0]) O (.zero (zs := [.bool false]) O (.zero (zs := [.bool false]) O (.zero (zs := [.bool false]) O (.zero (zs := [.bool false]) O (.zero (zs := [.slice none 0 0]) O .nil)))))))))))))) O) ?_
  refine kD (jL (l := [_, _, _, _, _, _, _, _, _, _, _, _, _, _, _, _, _, _, _, _, _, _, _, _, _, _, _, _, _, _, _, _, _, _]) H2 O O) ?_
  rintro _ w3 ⟨b3, rfl, H3⟩
  refine fG O (bQ O (dS O func110 (OX H3) ?_))
  rintro _ w4 ⟨p4, rfl, H4⟩
  refine dK O (bJ 0 ah O aU O (bJ 1 aI O sizeOf73 O (aJ (eX 1 H4.f2 sizeOf73) ?_)))
  rintro _ w5 H5
  refine rG O (bT O (dS O func111 (EZ (E := []) (a := 0) H5.f4.right.f3.f3.f4.f4 (l := []) (fun W _ => gJ.nil W _ none 0 (by decide)) (by decide)) ?_))
  rintro _ w6 ⟨qb, qw, qt, qm, qh, H6⟩
  refine rG O (iK O (fB O (NR results57 O O ?_)))
  exact ⟨_, O, V.Ux (s := bn.new hl base most) (PE _ _ _) O O H6.f7.f9.f8.f8.f8.f8.f9.f9.f9⟩
end
section
variable {w0 w : World} {F : HP} {e p h pr : Nat} {s : bn} {hl : List sN} {base most m : Int} {v : Value} {l : List Int}
theorem uX (h : s.inn = false) : s.aV = { s with inn := true, was := s.c, cls := 0, killed := false, kU := false, argues := false, whole := true, put := [] } := by unfold bn.aV; rw [if_neg (by simp [h])]
theorem KR (h : s.inn = true) : s.aV = s := by unfold bn.aV; rw [if_pos h]
theorem V3 {G : List (List jm)} {N : List jm} (h : gV G N ≤ 16384) : gV G [] ≤ 16384 := by unfold gV at *; simp at *; omega
theorem Rq (h : mM s) (hi : s.inn = false) : mM s.aV := by
  rw [uX hi]
  obtain ⟨h1, h2, h3, h4, h5, h6⟩ := h
  exact ⟨h1, fun _ => ⟨h1, V3 h5, h6⟩, h3, by simp, V3 h5, h6⟩
theorem yO (H : V w0 w (eP e s • F)) : iE prog 29 #[.pointer (some ⟨e, 0, none⟩)] w fun v w' => v = .int .i64 s.BQ ∧ V w0 w' (eP e s.aV • F) := by
 refine iZ func29 ntmps29 ?_
 refine jQ O (aN (aY (bQ O (dS O func65 (rW H) ?_))))
 rintro _ _ ⟨rfl, rfl⟩
 refine fG O (qo (aN ?_))
 obtain ⟨wM, wO, wP, wQ, wR, wS, wU, wV, uN, tu, tC, tH, tJ, tK, tN, tV, tX, tY, tZ, uf, gK, dD, kM, iw⟩ := (H).GI
 refine aC (nG O O (bJ 16 ah O aP O (fM bY O (iw).get.2 O (fG O (bD O (fun h1 => ?_) (fun h1 => ?_))))))
 ·(try simp only [aA] at h1)
  have hin := h1
  refine jM O (aT (aB (dL results29 O ?_)))
  exact ⟨by unfold bn.BQ; rw [if_pos hin], by rw [KR hin]; exact V.iq gK dD iw.f11.f11.f11.f11.f11.f11.f11.f11.f11.f11.f11⟩
 ·(try simp only [aA] at h1)
  have hin := h1
  refine cZ (aK (aX (bQ O (jR O O (dK O (bJ 0 ah O aU O (Z (qx 0 (xs := [_, _, _, _, _, _, _, _, _, _, _]) aI O aU O O (iw).get.2 O) (dS O func80 (Rl iw.f6.f6.f6.f6.f6) ?_))))))))
  rintro _ w3 ⟨qb3, qr3, qw3, qt3, qm3, rfl, H3⟩
  refine dK O (bJ 16 ah O aP O (aJ (eX 16 H3.f11 aP) ?_))
  rintro _ w4 H4
  refine dK O (bJ 17 ah O aU O (aJ (dB 17 (l' := [_, _, _, _, _, _, _, _, _, _, _, _, _, _, _, _, _, _, _, _, _, _, _, _, _, _, _, _, _, _, _, _, _, _]) (us := [_, _, _, _, _, _, _, _, _, _, _]) H4 aU O O O (aG (aG (aG (aG (aG (aG (aG (aG (aG (aG (aG bU))))))))))) O O) ?_))
  rintro _ w5 H5
  refine rG O (jR O O (jR O O (nG O O (bJ 28 ah O ay O (aJ (eX 28 H5 ay) ?_)))))
  rintro _ w6 H6
  refine dK O (bJ 29 ah O aP O (aJ (eX 29 H6 aP) ?_))
  rintro _ w7 H7
  refine dK O (bJ 30 ah O aP O (aJ (eX 30 H7 aP) ?_))
  rintro _ w8 H8
  refine dK O (bJ 31 ah O aP O (aJ (eX 31 H8 aP) ?_))
  rintro _ w9 H9
  refine dK O (bJ 32 ah O aP O (aJ (eX 32 H9 aP) ?_))
  rintro _ w10 pR
  refine dK O (bJ 33 ah O bP O (aJ (eX 33 pR bP) ?_))
  rintro _ Fv tq
  refine iJ (jM O (dL results29 O ?_))
  have Pz := tq.f6.f6.f6.f6.f6
  have PD := V.ac9 (c := s.c) Pz
  exact ⟨by unfold bn.BQ; rw [if_neg (by simp [hin])], by rw [uX hin]; exact V.KQ (uX hin ▸ Rq gK hin) O PD.f10.right.f10.right.f10.right.f9.f9.f9.f9.f9.f9.f9.f9⟩
end
def bn.ug (s : bn) (l : List Int) : Int := if s.inn then 1 else if 1024 < l.length then 3 else 0
def bn.BX (s : bn) (hl : List sN) (base most : Int) (l : List Int) : bn := if s.ug l = 0 then s.start hl base most l else s
theorem Rt {s : bn} (h : mM s) (hi : s.inn = false) (hl : List sN) (base most : Int) (l : List Int) : mM (s.start hl base most l) := by
  obtain ⟨h1, h2, h3, h4, h5, h6⟩ := h
  refine ⟨Ro _ _ _ _ _, fun h => absurd (show s.inn = true from h) (by rw [hi]; decide), ⟨by show (-1 : Int) ≤ -1; decide, by show (-1 : Int) ≤ 1000000; decide⟩, h4, ?_, by simp [bn.start, oC.fresh]⟩
  show gV [] s.put ≤ 16384
  unfold gV at *; simp at *; omega
section
variable {w0 w : World} {F : HP} {e p h pr : Nat} {s : bn} {hl : List sN} {base most m : Int} {v : Value} {l : List Int}
theorem PG (H : V w0 w (eP e s • iY h hl base most • F)) (hr : jF w0 F .i32 v l) : iE prog 59 #[.pointer (some ⟨e, 0, none⟩), .pointer (some ⟨h, 0, none⟩), v] w fun v' w' =>
  v' = .int .i64 (s.ug l) ∧ V w0 w' (eP e (s.BX hl base most l) • iY h hl base most • F) := by
 unfold bn.BX
 refine zT func59 ntmps59 ?_
 refine jQ O (aN (aY (bQ O (dS O func65 (rW H) ?_))))
 rintro _ _ ⟨rfl, rfl⟩
 refine bT O (bg (bT O (bg (dS O func109 (vT H.f2) ?_))))
 rintro _ w2 ⟨q2, rfl, H2⟩
 refine bg (Z (jy kX O O) (iH O O (fG O (Qg O (fun h1 => ?_)))))
 (try simp only [aA] at h1)
 refine aN ?_
 have Tt := H2.right
 obtain ⟨wM, wO, wP, wQ, wR, wS, wU, wV, uN, tu, tC, tH, tJ, tK, tN, tV, tX, tY, tZ, uf, gK, dD, kM, iw⟩ := (Tt.f2).GI
 refine aC (nG O O (bJ 16 ah O aP O (fM bY O (iw).get.2 O (fG O (bD O (fun h2 => ?_) (fun h2 => ?_))))))
 ·(try simp only [aA] at h2)
  have hin := h2
  have hE : s.ug l = 1 := by unfold bn.ug; rw [if_pos hin]
  refine jM O (aT (aB (dL results59 O ?_)))
  have Xg := iw.f11.f11.f11.f11.f11.f11.f11.f11.f11.f11.f11
  have Xh := V.iq (s := s) gK dD Xg
  exact ⟨by rw [hE], by rw [if_neg (by rw [hE]; decide)]; exact Xh.f2.f2⟩
 ·(try simp only [aA] at h2)
  have hin : s.inn = false := by simpa using h2
  refine bQ O (Z (iM (hr _ (iw.right.right.right.right.right.right.right.right.right.right.right.right)) aj O) (Z (dY O O) (fG O (bD O (fun h3 => ?_) (fun h3 => ?_)))))
  ·(try simp only [aA] at h3)
   have hbig := h3
   have hE : s.ug l = 3 := by unfold bn.ug; rw [if_neg (by simp [hin]), if_pos (by omega)]
   refine jM O (aT (aB (dL results59 O ?_)))
   have Ho9 := iw.f11.f11.f11.f11.f11.f11.f11.f11.f11.f11.f11
   have ada := V.iq (s := s) gK dD Ho9
   exact ⟨by rw [hE], by rw [if_neg (by rw [hE]; decide)]; exact ada.f2.f2⟩
  ·(try simp only [aA] at h3)
   have hE : s.ug l = 0 := by unfold bn.ug; rw [if_neg (by simp [hin]), if_neg (by have h9 := h3; omega)]
   have hsh : l.length ≤ 1024 := by have h9 := h3; omega
   refine cZ (aK (aX (bQ O (jR O O (dS O func111 (EZ (E := s.c.E) (a := s.c.at_) iw.f2.right.f3.right.f3.right.f3.right.f3.right.f6.f6.f6.f6.f6.f7.f7 (fun W HW => hr W HW.right.right.right.right.right) hsh) ?_)))))
   rintro _ Fv ⟨qb, qw, qt, qm, qh, tq⟩
   refine iJ (jM O (dL results59 O ?_))
   exact ⟨by rw [hE], by rw [if_pos hE]; exact V.iq (s := s.start hl base most l) (Rt gK hin _ _ _ _) dD tq.f7.f12.f12.f12.f12.f11.f11.f11.f11.f12.f12.f12⟩
end
end Go.Proofs.YtpdeedplgmbopaaGreatDoor
end
section
namespace Go.Proofs.YtpdeedplgmbopaaGreatDoor
open Go.RowKit
section
variable {s : bn}
theorem abn (s : bn) (x : jm) : (s.rC x).c.L = s.c.L ∧ (s.rC x).c.pt = s.c.pt ∧ (s.rC x).c.mark = s.c.mark ∧ (s.rC x).c.E = s.c.E ∧ (s.rC x).c.at_ = s.c.at_ ∧ (s.rC x).inn = s.inn ∧ (s.rC x).cls = s.cls ∧ (s.rC x).was = s.was := by
  unfold bn.rC
  split
  · simp
  · split <;> simp [bn.nC]
theorem PI (h : s.inn = true) (i j : Int) (l : List Int) : (s.nR i j l).c.L = qX s.c.L i j l ∧ (s.nR i j l).c.pt = qY s.c.L s.c.pt i j l ∧ (s.nR i j l).c.mark = vP s.c.L s.c.mark i j l ∧ (s.nR i j l).c.E = s.c.E ∧ (s.nR i j l).c.at_ = s.c.at_ ∧ (s.nR i j l).inn = true ∧ (s.nR i j l).cls = s.cls ∧ (s.nR i j l).was = s.was := by
  unfold bn.nR
  rw [if_pos h]
  obtain ⟨h1, h2, h3, h4, h5, h6, h7, h8⟩ := abn (s.jT (qX s.c.L i j l) (qY s.c.L s.c.pt i j l) (vP s.c.L s.c.mark i j l)) (wC s.c.L i j l, qy s.c.L i j l, qB s.c.L i j l)
  exact ⟨h1, h2, h3, h4, h5, h6.trans h, h7, h8⟩
theorem Uz (h : s.inn = true) {i j : Int} {back : Bool} (hi : 0 ≤ i ∧ i ≤ j ∧ j ≤ s.c.L.length) (hL : s.c.L.length ≤ 1024) (hk : (s.rD i j back).1 = 0) (hp : i ≤ s.c.pt ∧ s.c.pt ≤ j) :
    (s.oD i j back).c.L = s.c.L.take i.toNat ++ s.c.L.drop j.toNat ∧ (s.oD i j back).c.pt = i ∧ (s.oD i j back).c.E = (s.rD i j back).2.1 ∧ (s.oD i j back).c.at_ = (s.rD i j back).2.2 ∧ (s.oD i j back).inn = true ∧ (s.oD i j back).cls = 1 := by
  have hc : s.rV i j back = 0 := by
    unfold bn.rV
    rw [if_pos h, if_neg (by unfold bn.qI; omega), hk]
  have hE : nO s.c.L i j [] = 0 := by unfold nO; rw [if_neg (by omega), if_neg (by simp; omega)]
  unfold bn.oD
  rw [if_pos hc]
  have e : s.rE i j back = { s.Gy (s.rD i j back).2.1 (s.rD i j back).2.2 with killed := true, cls := 1 } := by unfold bn.rE; rw [if_pos hc]
  have ei : (s.rE i j back).inn = true := by rw [e]; exact h
  obtain ⟨h1, h2, h3, h4, h5, h6, h7, h8⟩ := PI ei i j []
  refine ⟨h1.trans ?_, h2.trans ?_, h4.trans (by rw [e]; rfl), h5.trans (by rw [e]; rfl), h6, h7.trans (by rw [e])⟩
  · rw [show (s.rE i j back).c.L = s.c.L from by rw [e]; rfl]
    unfold qX
    rw [if_pos hE]; simp
  · rw [show (s.rE i j back).c.L = s.c.L from by rw [e]; rfl, show (s.rE i j back).c.pt = s.c.pt from by rw [e]; rfl]
    unfold qY fE
    rw [if_pos hE]
    simp only [List.length_nil]
    split <;> (try split) <;> omega
end
structure zV (s : bn) (A : List Int) (a b : Int) : Prop where
  inn : s.inn = false
  ok : 0 ≤ a ∧ a ≤ b ∧ b ≤ A.length
  L : s.c.L = A.take a.toNat ++ A.drop b.toNat
  pt : s.c.pt = a
  ring : (s.c.E = [] ∧ a = b) ∨ (s.c.E = [(A.drop a.toNat).take (b.toNat - a.toNat)] ∧ s.c.at_ = 0 ∧ s.c.last = 1)
section
variable {s : bn} {A : List Int} {a b k : Int}
theorem zV.len (h : zV s A a b) : (s.c.L.length : Int) = A.length - (b - a) := by
  have := h.ok
  rw [h.L]; simp; omega
theorem eH (s : bn) : s.aV.c = s.c := by unfold bn.aV; split <;> rfl
theorem FN (h : zV s A a b) (hA : A.length ≤ 1024) {i j : Int} {back : Bool} {l : List Int} (hcut : s.aV.cut i j = l) (hl : l.length + (b - a) ≤ A.length) :
    (s.aV.rD i j back).1 = 0 ∧ ((s.aV.rD i j back).2.1 = [] ∧ l = [] ∧ a = b ∨ (s.aV.rD i j back).2.1 = [if back then l ++ (A.drop a.toNat).take (b.toNat - a.toNat) else (A.drop a.toNat).take (b.toNat - a.toNat) ++ l] ∧ (s.aV.rD i j back).2.2 = 0) := by
  have ho := h.ok
  have hb : s.aV.killed = false := by unfold bn.aV; rw [if_neg (by rw [h.inn]; decide)]
  unfold bn.rD
  rw [hcut, eH]
  rcases h.ring with ⟨h1, h2⟩ | ⟨h1, h2, h3⟩
  · rw [h1]
    have hx : (A.drop a.toNat).take (b.toNat - a.toNat) = [] := by rw [h2]; simp
    have hw : s.aV.way back = 0 ∨ s.aV.way back = 1 ∨ s.aV.way back = 2 := by unfold bn.way; split <;> (try split) <;> simp
    unfold Dx
    rw [if_neg (by omega), if_neg (by omega), if_neg (by simp)]
    split
    · rename_i h4
      exact ⟨rfl, .inl ⟨rfl, List.length_eq_zero_iff.1 h4.2, h2⟩⟩
    · rw [hx]
      exact ⟨rfl, .inr ⟨by cases back <;> simp, rfl⟩⟩
  · rw [h1, h2]
    have hw : s.aV.way back = if back then 2 else 1 := by unfold bn.way; rw [if_pos (by rw [eH]; exact .inl h3)]
    have hlen : ((A.drop a.toNat).take (b.toNat - a.toNat)).length = b.toNat - a.toNat := by simp; omega
    rw [hw]
    unfold Dx
    rw [if_neg (by cases back <;> simp), if_neg (by omega), if_pos (by cases back <;> simp), if_neg (by simp only [List.getD_cons_zero]; omega)]
    exact ⟨rfl, .inr ⟨by cases back <;> simp, rfl⟩⟩
theorem zV.step (h : zV s A a b) (hA : A.length ≤ 1024) {i j a' b' : Int} {back : Bool} {l : List Int} (hij : 0 ≤ i ∧ i ≤ j ∧ j ≤ s.c.L.length) (hp : i ≤ a ∧ a ≤ j) (hcut : s.aV.cut i j = l) (hl : l.length + (b - a) ≤ A.length)
    (ho : 0 ≤ a' ∧ a' ≤ b' ∧ b' ≤ A.length) (hi : i = a') (hL : s.c.L.take i.toNat ++ s.c.L.drop j.toNat = A.take a'.toNat ++ A.drop b'.toNat) (he : l = [] → a = b → a' = b')
    (hx : (if back then l ++ (A.drop a.toNat).take (b.toNat - a.toNat) else (A.drop a.toNat).take (b.toNat - a.toNat) ++ l) = (A.drop a'.toNat).take (b'.toNat - a'.toNat)) :
    zV ((s.aV.oD i j back).jY 0) A a' b' := by
  obtain ⟨h1, h2⟩ := FN h hA (back := back) hcut hl
  have hlen := h.len
  have hok := h.ok
  obtain ⟨k1, k2, k3, k4, k5, k6⟩ := Uz (s := s.aV) (mW s) (i := i) (j := j) (back := back) (by rw [eH]; exact hij) (by rw [eH]; omega) h1 (by rw [eH, h.pt]; exact hp)
  rw [eH] at k1
  refine ⟨xJ _ k5, ho, (zA _ k5).trans (k1.trans hL), (Af _ k5).trans (k2.trans hi), ?_⟩
  rw [Ih _ k5, Pn _ k5, Xj _ k5, k3, k4, k6]
  rcases h2 with ⟨q1, q2, q3⟩ | ⟨q1, q2⟩
  · exact .inl ⟨q1, he q2 q3⟩
  · exact .inr ⟨by rw [q1, hx], q2, rfl⟩
theorem zV.back (h : zV s A a b) (hA : A.length ≤ 1024) (hk : 0 ≤ k ∧ k ≤ a) : zV ((s.aV.oD (s.aV.c.pt - k) s.aV.c.pt true).jY 0) A (a - k) b := by
  have hlen := h.len
  have hok := h.ok
  rw [eH, h.pt]
  have e1 : s.aV.cut (a - k) a = (A.drop (a - k).toNat).take k.toNat := by
    unfold bn.cut
    rw [eH, h.L, List.drop_append_of_le_length (by simp; omega), List.take_append_of_le_length (by simp; omega), List.drop_take]
    rw [List.take_take]; congr 1; omega
  refine h.step hA (l := (A.drop (a - k).toNat).take k.toNat) (by omega) (by omega) e1 (by simp; omega) (by omega) rfl ?_ ?_ ?_
  · rw [h.L, List.take_append_of_le_length (by simp; omega), List.take_take, List.drop_append, List.drop_of_length_le (by simp; omega), List.nil_append]
    rw [show min (a - k).toNat a.toNat = (a - k).toNat from by omega, show a.toNat - (A.take a.toNat).length = 0 from by simp; omega, List.drop_zero]
  · intro h1 h2
    have h3 := congrArg List.length h1
    simp at h3; omega
  · simp only [if_true]
    rw [show (A.drop a.toNat).take (b.toNat - a.toNat) = ((A.drop (a - k).toNat).drop k.toNat).take (b.toNat - a.toNat) from by rw [List.drop_drop]; congr 2; omega, show b.toNat - (a - k).toNat = k.toNat + (b.toNat - a.toNat) from by omega, List.take_add]
theorem zV.fwd (h : zV s A a b) (hA : A.length ≤ 1024) (hk : 0 ≤ k ∧ k ≤ A.length - b) : zV ((s.aV.oD s.aV.c.pt (s.aV.c.pt + k) false).jY 0) A a (b + k) := by
  have hlen := h.len
  have hok := h.ok
  rw [eH, h.pt]
  have hta : (A.take a.toNat).length = a.toNat := by simp; omega
  have e0 : s.c.L.drop a.toNat = A.drop b.toNat := by rw [h.L]; exact List.drop_left' hta
  have e1 : s.aV.cut a (a + k) = (A.drop b.toNat).take k.toNat := by
    unfold bn.cut
    rw [eH, e0]; congr 1; omega
  refine h.step hA (l := (A.drop b.toNat).take k.toNat) (by omega) (by omega) e1 (by simp; omega) (by omega) rfl ?_ ?_ ?_
  · rw [show (a + k).toNat = a.toNat + k.toNat from by omega, ← List.drop_drop, e0, List.drop_drop, show b.toNat + k.toNat = (b + k).toNat from by omega]
    rw [show s.c.L.take a.toNat = A.take a.toNat from by rw [h.L]; exact List.take_left' hta]
  · intro h1 h2
    have h3 := congrArg List.length h1
    simp at h3; omega
  · simp only [Bool.false_eq_true, if_false]
    rw [show A.drop b.toNat = (A.drop a.toNat).drop (b.toNat - a.toNat) from by rw [List.drop_drop]; congr 1; omega, show (b + k).toNat - a.toNat = (b.toNat - a.toNat) + k.toNat from by omega, List.take_add]
theorem zV.Xt (h : zV s A a b) (hA : A.length ≤ 1024) : (a = b → ((s.aV.jE).jY s.aV.rF).c.L.length = A.length) ∧
    (a ≠ b → s.aV.rF = 0 ∧ ((s.aV.jE).jY s.aV.rF).c.L = A ∧ ((s.aV.jE).jY s.aV.rF).c.mark = a ∧ ((s.aV.jE).jY s.aV.rF).c.pt = b) := by
  have hlen := h.len
  have hok := h.ok
  have hi := mW s
  rcases h.ring with ⟨h1, h2⟩ | ⟨h1, h2, h3⟩
  · have hy : s.aV.rF = 6 := by unfold bn.rF; rw [if_pos hi, eH, h1]; rfl
    refine ⟨fun _ => ?_, fun c => absurd h2 c⟩
    have e1 : s.aV.jE = s.aV := by unfold bn.jE; rw [if_neg (by rw [hy]; decide)]
    rw [e1, hy]
    have e2 : (s.aV.jY 6).c.L = s.c.L := by
      unfold bn.jY; rw [if_pos hi, if_neg (by decide)]
      unfold bn.aV bn.zy; rw [if_neg (by rw [h.inn]; decide)]
    rw [e2]; omega
  · have htop : s.aV.top = (A.drop a.toNat).take (b.toNat - a.toNat) := by unfold bn.top; rw [eH, h1, h2]; rfl
    have htl : s.aV.top.length = b.toNat - a.toNat := by rw [htop]; simp; omega
    have hE : nO s.c.L a a s.aV.top = 0 := by unfold nO; rw [if_neg (by omega), if_neg (by omega)]
    have hy : s.aV.rF = 0 := by
      unfold bn.rF bn.Pm bn.qH
      rw [if_pos hi, if_neg (by rw [eH, h1]; simp), if_pos hi, eH, h.pt, hE]
    have hta : (A.take a.toNat).length = a.toNat := by simp; omega
    have e0 : s.c.L.drop a.toNat = A.drop b.toNat := by rw [h.L]; exact List.drop_left' hta
    have e9 : s.c.L.take a.toNat = A.take a.toNat := by rw [h.L]; exact List.take_left' hta
    obtain ⟨r1, r2, r3, r4, r5, r6, r7, r8⟩ := PI hi s.aV.c.pt s.aV.c.pt s.aV.top
    rw [eH, h.pt] at r1 r2
    have hI : s.aV.wz s.aV.top = s.aV.nR s.aV.c.pt s.aV.c.pt s.aV.top := rfl
    rw [eH, h.pt] at hI
    have hL2 : qX s.c.L a a s.aV.top = A := by
      unfold qX; rw [if_pos hE, e0, e9, htop]
      rw [show A.drop b.toNat = (A.drop a.toNat).drop (b.toNat - a.toNat) from by rw [List.drop_drop]; congr 1; omega, List.append_assoc, List.take_append_drop, List.take_append_drop]
    have hP2 : qY s.c.L a a a s.aV.top = b := by
      unfold qY fE; rw [if_pos hE]
      split <;> (try split) <;> omega
    have eY : s.aV.jE = (let t := s.aV.wz s.aV.top; { t with kU := true, cls := 2, c := { t.c with mark := smM t.c.L t.c.mark s.aV.c.pt, fr := s.aV.c.pt, to := s.aV.c.pt + s.aV.top.length } }) := by
      unfold bn.jE; rw [if_pos hy]
    have gL : s.aV.jE.c.L = A := by rw [eY]; show (s.aV.wz s.aV.top).c.L = A; rw [hI, eH, h.pt] at *; exact r1.trans hL2
    have gP : s.aV.jE.c.pt = b := by rw [eY]; show (s.aV.wz s.aV.top).c.pt = b; rw [hI]; exact r2.trans hP2
    have gI : s.aV.jE.inn = true := by rw [eY]; show (s.aV.wz s.aV.top).inn = true; exact r6
    have gM : s.aV.jE.c.mark = a := by
      have gL' : (s.aV.wz s.aV.top).c.L = A := by have := gL; rw [eY] at this; exact this
      rw [eY]
      show smM (s.aV.wz s.aV.top).c.L (s.aV.wz s.aV.top).c.mark s.aV.c.pt = a
      rw [gL', eH, h.pt]
      unfold smM; rw [if_neg (by omega)]
    rw [hy]
    refine ⟨fun _ => by rw [zA _ gI, gL], fun _ => ⟨rfl, (zA _ gI).trans gL, (Xi _ gI).trans gM, (Af _ gI).trans gP⟩⟩
end
section
variable {P : Program} {L : List (Nat × Value)} {w0 w : World} {F : HP} {ty : TypeId} {α : Type} {K : Key α} {f : α → Option Value} {a : α} {b : Nat} {x y z : Operand}
theorem Bl [DecidableEq α] {t kt et : TypeId} {v : Value} (H : V w0 w (gY K b f • F)) (ht : P.underlying t = some (.map kt et)) (hk : P.underlying kt = some K.d)
    (hx : ev L x = some (.map (some b))) (hy : ev L y = some (K.mk a)) (hz : ev L z = some v) : xk P L (.insert t x y z) ty w fun _ w' => V w0 w' (gY K b (upd f a v) • F) := xK (ty := ty) (y := y) (z := z) H ht hk hx hy hz
theorem Xu {t t' kt et : TypeId} {a : Option Nat} (ht : P.underlying t = some (.map kt et)) (hx : ev L x = some (.map a)) (hy : ev L y = some (.map none)) : Val P L (.binOp .eql t x y t') ty w (.bool a.isNone) w := fun ρ hρ _ _ _ _ => by
  simp only [execOp, hρ _ _ hx, hρ _ _ hy]
  have h1 : (eqGuard .eql t x y (.map a) (.map none)).run P w = .ok () w := by unfold eqGuard; rfl
  have h2 : (Op.equal t (.map a) (.map none)).run P w = .ok a.isNone w := Eh fun d => by cases a <;> simp [Op.equalIn, run_underlying ht]
  have h3 : binOp .eql t (.map a) (.map none) = (do pure (.bool (← Op.equal t (.map a) (.map none)))) := by rfl
  simp only [Sem.run_bind, h1, Result.andThen, h3, h2]
  simp
end
def ends (T : List (Int × Int)) : List Int := T.flatMap fun x => [x.1, x.2]
section
variable {w0 w : World} {F : HP} {r : Int}
abbrev age : List (Int × Int) := [(48, 57), (65, 90), (97, 122)]
abbrev ahs : List (Int × Int) := [(215, 215), (247, 247), (8192, 8303), (12288, 12351), (65280, 65295), (65533, 65533)]
end
def lG (P : Int → Bool) (l : List Int) (x : Int) : Int := x + (((l.drop x.toNat).takeWhile P).length : Nat)
def yj (P : Int → Bool) (l : List Int) (x : Int) : Int := x - (((l.take x.toNat).reverse.takeWhile P).length : Nat)
section
variable {P : Int → Bool} {l : List Int} {x : Int}
theorem kN (h : (l.length : Int) ≤ x) : lG P l x = x := by
  unfold lG
  rw [List.drop_of_length_le (by omega)]
  simp
theorem uy (h0 : 0 ≤ x) (h1 : x < l.length) (h : P (l.getD x.toNat 0) = true) : lG P l x = lG P l (x + 1) := by
  unfold lG
  rw [List.getD_eq_getElem?_getD, List.getElem?_eq_getElem (by omega), Option.getD_some] at h
  rw [List.drop_eq_getElem_cons (by omega), List.takeWhile_cons, if_pos h, show (x + 1).toNat = x.toNat + 1 from by omega, List.length_cons]
  omega
theorem mP (h0 : 0 ≤ x) (h1 : x < l.length) (h : ¬ P (l.getD x.toNat 0) = true) : lG P l x = x := by
  unfold lG
  rw [List.getD_eq_getElem?_getD, List.getElem?_eq_getElem (by omega), Option.getD_some] at h
  rw [List.drop_eq_getElem_cons (by omega), List.takeWhile_cons, if_neg h]
  simp
theorem uO (h0 : 0 ≤ x) (h1 : x ≤ l.length) : x ≤ lG P l x ∧ lG P l x ≤ l.length := by
  unfold lG
  have h2 := (List.takeWhile_sublist P (l := l.drop x.toNat)).length_le
  rw [List.length_drop] at h2
  omega
theorem xP (h : x ≤ 0) : yj P l x = x := by
  unfold yj
  rw [show x.toNat = 0 from by omega]
  simp
theorem Ru (h0 : 0 < x) (h1 : x ≤ l.length) : (l.take x.toNat).reverse = l.getD (x - 1).toNat 0 :: (l.take (x - 1).toNat).reverse := by
  rw [show x.toNat = (x - 1).toNat + 1 from by omega, List.take_succ_eq_append_getElem (by omega), List.reverse_append, List.getD_eq_getElem?_getD, List.getElem?_eq_getElem (by omega)]
  rfl
theorem KT (h0 : 0 < x) (h1 : x ≤ l.length) (h : P (l.getD (x - 1).toNat 0) = true) : yj P l x = yj P l (x - 1) := by
  unfold yj
  rw [Ru h0 h1, List.takeWhile_cons, if_pos h, List.length_cons]
  omega
theorem Ah (h0 : 0 < x) (h1 : x ≤ l.length) (h : ¬ P (l.getD (x - 1).toNat 0) = true) : yj P l x = x := by
  unfold yj
  rw [Ru h0 h1, List.takeWhile_cons, if_neg h]
  simp
theorem KU (h0 : 0 ≤ x) (h1 : x ≤ l.length) : 0 ≤ yj P l x ∧ yj P l x ≤ x := by
  unfold yj
  have h2 := (List.takeWhile_sublist P (l := (l.take x.toNat).reverse)).length_le
  rw [List.length_reverse, List.length_take] at h2
  omega
end
end Go.Proofs.YtpdeedplgmbopaaGreatDoor
end
section
namespace Go.Proofs.YtpdeedplgmbopaaGreatDoor
open Go.RowKit
open _root_.Go.Proofs.Tryz
def fV (r : Int) : Int := if r = 32 ∨ r = 9 ∨ r = 10 then 0 else if r = 95 ∨ eG r = true then 1 else 2
def dH (r : Int) (big : Bool) : Int := if big then min (fV r) 1 else fV r
def Ai (l : List Int) (x : Int) (big : Bool) : Int :=
  lG (fun r => fV r == 0) l (if x < l.length then (if dH (l.getD x.toNat 0) big = 0 then x else lG (fun r => dH r big == dH (l.getD x.toNat 0) big) l x) else x)
section
variable {w0 w : World} {F : HP} {r x : Int} {big : Bool} {l : List Int} {v : Value}
theorem qJ (H : V w0 w F) (hT : Aq w0) : iE prog 14 #[.int .i32 r] w fun v' w' => v' = .int .i64 (fV r) ∧ V w0 w' F := by
  refine iZ func14 ntmps14 ?_
  refine jQ O (aN (aY (bQ O (Z (dX O O) (jG O (fun h1 => ?_) (fun h1 => ?_))))))
  · (try simp only [aA] at h1)
    refine bF (bF (iU O O (bT O (bF (bF (iU O O (fG O (CP (jM O (aT (aB (dL results14 O ?_))))))))))))
    exact ⟨by unfold fV; rw [if_pos (by omega)], H⟩
  · (try simp only [aA] at h1)
    refine bg (bT O (bg (Z (dX O O) (iH O O (jG O (fun h2 => ?_) (fun h2 => ?_))))))
    · (try simp only [aA] at h2)
      refine bF (bF (iU O O (fG O (CP (jM O (aT (aB (dL results14 O ?_))))))))
      exact ⟨by unfold fV; rw [if_pos (by omega)], H⟩
    · (try simp only [aA] at h2)
      refine bg (bT O (bg (Z (dX O O) (iH O O (fG O (bD O (fun h3 => ?_) (fun h3 => ?_)))))))
      · (try simp only [aA] at h3)
        refine jM O (aT (aB (dL results14 O ?_)))
        exact ⟨by unfold fV; rw [if_pos (by omega)], H⟩
      · (try simp only [aA] at h3)
        refine bQ O (Z (dX O O) (jG O (fun h4 => ?_) (fun h4 => ?_)))
        · (try simp only [aA] at h4)
          refine bF (bF (iU O O (fG O (CP (jM O (aT (aB (dL results14 O ?_))))))))
          exact ⟨by unfold fV; rw [if_neg (by omega), if_pos (by first | (left; omega) | (right; assumption))], H⟩
        · (try simp only [aA] at h4)
          refine bg (bT O (bg (dS O func47 (TQ H hT) ?_)))
          rintro _ w1 ⟨rfl, H1⟩
          refine iH O O (fG O (bD O (fun h5 => ?_) (fun h5 => ?_)))
          · (try simp only [aA] at h5)
            refine jM O (aT (aB (dL results14 O ?_)))
            exact ⟨by unfold fV; rw [if_neg (by omega), if_pos (by first | (left; omega) | (right; assumption))], H1⟩
          · (try simp only [aA] at h5)
            refine cZ (aK (aX (jM O (dL results14 O ?_))))
            exact ⟨by unfold fV; rw [if_neg (by omega), if_neg (by intro c; rcases c with c | c; omega; simp_all)], H1⟩
theorem nT (H : V w0 w F) (hT : Aq w0) : iE prog 142 #[.int .i32 r, .bool big] w fun v' w' => v' = .int .i64 (dH r big) ∧ V w0 w' F := by
  refine oV func142 ntmps142 ?_
  refine jQ O (aN (bQ O (jB O (fun h1 => ?_) (fun h1 => ?_))))
  · (try simp only [aA] at h1)
    have hb : big = true := h1
    refine bQ O (dS O func14 (qJ H hT) ?_)
    rintro _ w1 ⟨rfl, H1⟩
    refine Z (zZ O O) (fB O (aB (dL results142 O ?_)))
    exact ⟨by unfold dH; rw [if_pos hb], H1⟩
  · (try simp only [aA] at h1)
    have hb : big = false := h1
    refine gG (bQ O (dS O func14 (qJ H hT) ?_))
    rintro _ w2 ⟨rfl, H2⟩
    refine fB O (dL results142 O ?_)
    exact ⟨by unfold dH; rw [if_neg (by rw [hb]; decide)], H2⟩
end
end Go.Proofs.YtpdeedplgmbopaaGreatDoor
end
