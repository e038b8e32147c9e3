import Derived.Test.YtpdeedplgmbopaaGreatDoorZ4
import Derived.Test.YtpdeedplgmbopaaGreatDoorZ11
import Derived.Test.YtpdeedplgmbopaaGreatDoorZ3
set_option linter.unusedSimpArgs false
set_option linter.unusedVariables false
/- Texts of mine, joined, their names in short: EdB EdC EdMv EdR EdK. -/
section
namespace Go.Proofs.YtpdeedplgmbopaaGreatDoor
open Go.RowKit
open _root_.Go.Proofs.Tryz
section
variable {w0 w : World} {F : HP} {e p h pr : Nat} {s : dG} {hl : List pR} {base most m : Int} {v : Value} {l : List Int}
theorem V.uj {b : Nat} (H : V w0 w (fG qI b (fun _ => none) • F)) : V w0 w (wV b (fun _ => []) • F) :=
  V.Az (D := []) (P := fun _ => 0) List.nodup_nil (fun _ _ => rfl) (by rw [QX]; exact H.of_eq (by show _ = (_ • emp • _); rw [YtpdeedplgmbopaaGreatDoor.nG]))
set_option maxHeartbeats 1000000 in
theorem Bq {x0 x2 x3 x5 x6 x7 x8 x9 x10 x11 x12 uS x14 x15 x16 x17 x18 x19 x20 x21 vJ x23 x24 x25 wz x27 x28 x29 x30 x31 x32 wZ : Value} {E : List (List Int)} {a : Nat} (H : V w0 w (dL e (.cells (x0 :: .pointer (some ⟨pr, 0, none⟩) :: x2 :: x3 :: .int .i64 m :: x5 :: x6 :: x7 :: x8 :: x9 :: x10 :: x11 :: x12 :: uS :: x14 :: x15 :: x16 :: x17 :: x18 :: x19 :: x20 :: x21 :: vJ :: x23 :: x24 :: x25 :: wz :: x27 :: x28 :: x29 :: x30 :: x31 :: x32 :: wZ :: []).toArray 82 (0, 0)) • gK h hl base most • F)) (hr : jq w0 F .i32 v l) (hshort : l.length ≤ 1024) :
  gJ prog 111 #[.pointer (some ⟨e, 0, none⟩), .pointer (some ⟨h, 0, none⟩), v] w fun _ w' => ∃ pb pw pt pm ph, V w0 w' (dL e (.cells (.pointer (some ⟨pb, 0, none⟩) :: .pointer (some ⟨pr, 0, none⟩) :: .pointer (some ⟨pw, 0, none⟩) :: .map (some pm) :: .int .i64 m :: .bool false :: .int .i64 0 :: .int .i64 0 :: .int .i64 0 :: .int .i64 0 :: .bool false :: .pointer (some ⟨ph, 0, none⟩) :: x12 :: .bool false :: .bool false :: .int .i64 (-1) :: x16 :: x17 :: x18 :: x19 :: x20 :: x21 :: vJ :: x23 :: x24 :: x25 :: wz :: x27 :: x28 :: x29 :: x30 :: x31 :: x32 :: wZ :: []).toArray 82 (0, 0)) •
   iZ pb l l.length (-1) • dL pw (.cells #[.int .i64 hl.length, .map (some pt)] 122 (0, 0)) • fG qI pt (fun _ => none) • wV pm (fun _ => []) • gK ph hl base most • gK h hl base most • F) := by
 refine CQ func111 ntmps111 ?_
 refine bT O (dY O func151 (Mc H (fun W HW => hr _ (HW.right.right)) hshort) ?_)
 rintro _ w1 ⟨p1, rfl, H1⟩
 refine bP O (qQ O O (qQ O O (fV O (gI O (bT O (bP O (dY O func109 (rG H1.f3) ?_)))))))
 rintro _ w2 ⟨q2, rfl, H2⟩
 refine dJ O (bD 11 ah O sizeOf78 O (aH (eF 11 H2.f4 sizeOf78) ?_))
 rintro _ w3 H3
 refine pK ?_
 have Ya := H3.drew
 have xB := V.kp (Ya.f3.right.f3.f3.f3)
 refine yw [6, 17] xB O (jB 0 O xB O (jB 1 O xB O (jB 2 O xB O (kJ 3 O xB O (gU 4 O xB 0 ah O aQ O (gU 5 O xB 1 aG O sizeOf73 O (jT 6 O xB (fun W hW => kC tq O ((Kp.h hW)).get.2 O) (jB 7 O xB O (jB 13 O xB O (kJ 14 O xB O (gU 15 O xB 0 ah O aQ O (gU 16 O xB 4 aG O aj O (jT 17 O xB (fun W hW => kC aK O ((Kp.h hW)).get.2 O) ?_)))))))))))))
 refine Uj (i := 8) (j := 9) (k := 12) (by kernel_rfl) ?_ ?_ ?_
 ·skip
  refine jO 8 O (by kernel_rfl) (uF (vW O func117 O O) (nX Ya.f3)) (jW O) ?_
  rintro _ w4 ⟨rfl, H4⟩
  have xI := V.kp (H4.f4.f4.f4.f4)
  refine dV xI (fun W hW => (Kp.h hW).right.f3.f3.f3) ?_
  refine xG (i := 9) (j := 12) (by kernel_rfl) ?_ ?_
  ·skip
   refine jO 9 O (by kernel_rfl) (jH (wF .i64) H4) (jW O) ?_
   rintro _ w5 ⟨b5, rfl, H5⟩
   have BH := V.kp (H5.f5.f5.f5.f5.f5)
   refine dV BH (fun W hW => (Kp.h hW).right.f4.f4.f4.f4) ?_
   refine ji 10 O BH (fun _ => dS (zl := [.int .i64 0, .map none]) (pl := [(0, 1), (1, 1)]) [_, _] eX mY O (fun w => by kernel_rfl) O (.on (.on .nil)) O) ?_
   refine xG (i := 11) (j := 12) (by kernel_rfl) ?_ ?_
   ·skip
    refine jO 11 O (by kernel_rfl) (iM (l := [_, _]) H5 O O) (jW O) ?_
    rintro _ w6 ⟨b6, rfl, H6⟩
    have IG := V.kp (H6.f6.f6.f6.f6.f6.f6)
    refine dV IG (fun W hW => (Kp.h hW).right.f5.f5.f5.f5.f5) ?_
    refine oq 12 O (jH (wF .i64) H6) ?_
    rintro _ w7 ⟨b7, rfl, H7⟩
    have Iz := V.kp (H7.f7.f7.f7.f7.f7.f7.f7)
    refine dV Iz (fun W hW => (Kp.h hW).right.f6.f6.f6.f6.f6.f6) ?_
    refine ji 18 O Iz (fun _ => dS (zl := [.pointer none, .pointer none, .pointer none, .map none, .int .i64 0, .bool false, .int .i64 0, .int .i64 0, .int .i64 0, .int .i64 0, .bool false]) (pl := [(0, 1), (1, 1), (2, 1), (3, 1), (4, 1), (5, 1), (6, 1), (7, 1), (8, 1), (9, 1), (10, 1)]) [_, _, _, _, _, _, _, _, _, _, _] aG lJ O (fun w => by kernel_rfl) O (.on (.on (.on (.on (.on (.zero (zs := [.bool false]) O (.zero (zs := [.int .i64 0]) O (.zero (zs := [.int .i64 0]) O (.zero (zs := [.int .i64 0]) O (.zero (zs := [.int .i64 0]) O (.zero (zs := [.bool false]) O .nil))))))))))) O) ?_
    refine kJ 19 O Iz O (gU 20 O Iz 0 ah O aQ O ?_)
    refine fO 21 O (by kernel_rfl) (bU 0 (l' := [_, _, _, _, _, _, _, _, _, _, _, _, _, _, _, _, _, _, _, _, _, _, _, _, _, _, _, _, _, _, _, _, _, _]) (us := [_, _, _, _, _, _, _, _, _, _, _]) H7.f5 aQ O O O (aA (aA (aA (aA (aA (aA (aA (aA (aA (aA (aA bF))))))))))) O O) ?_
    rintro _ w8 H8
    have Pe := V.kp (H8.f7.f7.f7.f7.f7.f7.f7)
    refine gV Pe (by kernel_rfl) ?_
    refine qU (aX (aC (jG O O (nD O O (bD 13 ah O aO O (aH (eF 13 H8 aO) ?_))))))
    rintro _ w9 H9
    refine dJ O (bD 14 ah O aO O (aH (eF 14 H9 aO) ?_))
    rintro _ w10 ql
    refine dJ O (bD 15 ah O aj O (aH (eF 15 ql aj) ?_))
    rintro _ EH rF
    refine bM (lY (.inr O) results111 ?_)
    have PX := rF.f2
    have PY := PX.uj
    exact ⟨_, _, _, _, _, PY.f5.f6.f3.f6.f6.f7.f7⟩
   ·skip
    refine jO 12 O (by kernel_rfl) (jH (wF .i64) H5) (jW O) ?_
    rintro _ RZ ⟨b14, rfl, Ar⟩
    have Df := V.kp (Ar.f6.f6.f6.f6.f6.f6)
    refine dV Df (fun W hW => (Kp.h hW).right.f5.f5.f5.f5.f5) ?_
    refine oq 11 O (iM (l := [_, _]) Ar O O) ?_
    rintro _ Sz ⟨b15, rfl, yT⟩
    have uU := V.kp (yT.f7.f7.f7.f7.f7.f7.f7)
    refine dV uU (fun W hW => (Kp.h hW).right.f6.f6.f6.f6.f6.f6) ?_
    refine ji 18 O uU (fun _ => dS (zl := [.pointer none, .pointer none, .pointer none, .map none, .int .i64 0, .bool false, .int .i64 0, .int .i64 0, .int .i64 0, .int .i64 0, .bool false]) (pl := [(0, 1), (1, 1), (2, 1), (3, 1), (4, 1), (5, 1), (6, 1), (7, 1), (8, 1), (9, 1), (10, 1)]) [_, _, _, _, _, _, _, _, _, _, _] aG lJ O (fun w => by kernel_rfl) O (.on (.on (.on (.on (.on (.zero (zs := [.bool false]) O (.zero (zs := [.int .i64 0]) O (.zero (zs := [.int .i64 0]) O (.zero (zs := [.int .i64 0]) O (.zero (zs := [.int .i64 0]) O (.zero (zs := [.bool false]) O .nil))))))))))) O) ?_
    refine kJ 19 O uU O (gU 20 O uU 0 ah O aQ O ?_)
    refine fO 21 O (by kernel_rfl) (bU 0 (l' := [_, _, _, _, _, _, _, _, _, _, _, _, _, _, _, _, _, _, _, _, _, _, _, _, _, _, _, _, _, _, _, _, _, _]) (us := [_, _, _, _, _, _, _, _, _, _, _]) yT.f5 aQ O O O (aA (aA (aA (aA (aA (aA (aA (aA (aA (aA (aA bF))))))))))) O O) ?_
    rintro _ w16 yO
    have Di := V.kp (yO.f7.f7.f7.f7.f7.f7.f7)
    refine gV Di (by kernel_rfl) ?_
    refine qU (aX (aC (jG O O (nD O O (bD 13 ah O aO O (aH (eF 13 yO aO) ?_))))))
    rintro _ Za Io
    refine dJ O (bD 14 ah O aO O (aH (eF 14 Io aO) ?_))
    rintro _ XF CV
    refine dJ O (bD 15 ah O aj O (aH (eF 15 CV aj) ?_))
    rintro _ w19 D8
    refine bM (lY (.inr O) results111 ?_)
    have VH := D8.f3
    have PZ := VH.uj
    exact ⟨_, _, _, _, _, PZ.f5.f6.f3.f6.f6.f7.f7⟩
  ·skip
   refine jO 12 O (by kernel_rfl) (jH (wF .i64) H4) (jW O) ?_
   rintro _ w22 ⟨b22, rfl, OY⟩
   have MX := V.kp (OY.f5.f5.f5.f5.f5)
   refine dV MX (fun W hW => (Kp.h hW).right.f4.f4.f4.f4) ?_
   refine oq 9 O (jH (wF .i64) OY) ?_
   rintro _ w23 ⟨b23, rfl, IE⟩
   have Jw := V.kp (IE.f6.f6.f6.f6.f6.f6)
   refine dV Jw (fun W hW => (Kp.h hW).right.f5.f5.f5.f5.f5) ?_
   refine ji 10 O Jw (fun _ => dS (zl := [.int .i64 0, .map none]) (pl := [(0, 1), (1, 1)]) [_, _] eX mY O (fun w => by kernel_rfl) O (.on (.on .nil)) O) ?_
   refine oq 11 O (iM (l := [_, _]) IE O O) ?_
   rintro _ w24 ⟨b24, rfl, Xj⟩
   have GX := V.kp (Xj.f7.f7.f7.f7.f7.f7.f7)
   refine dV GX (fun W hW => (Kp.h hW).right.f6.f6.f6.f6.f6.f6) ?_
   refine ji 18 O GX (fun _ => dS (zl := [.pointer none, .pointer none, .pointer none, .map none, .int .i64 0, .bool false, .int .i64 0, .int .i64 0, .int .i64 0, .int .i64 0, .bool false]) (pl := [(0, 1), (1, 1), (2, 1), (3, 1), (4, 1), (5, 1), (6, 1), (7, 1), (8, 1), (9, 1), (10, 1)]) [_, _, _, _, _, _, _, _, _, _, _] aG lJ O (fun w => by kernel_rfl) O (.on (.on (.on (.on (.on (.zero (zs := [.bool false]) O (.zero (zs := [.int .i64 0]) O (.zero (zs := [.int .i64 0]) O (.zero (zs := [.int .i64 0]) O (.zero (zs := [.int .i64 0]) O (.zero (zs := [.bool false]) O .nil))))))))))) O) ?_
   refine kJ 19 O GX O (gU 20 O GX 0 ah O aQ O ?_)
   refine fO 21 O (by kernel_rfl) (bU 0 (l' := [_, _, _, _, _, _, _, _, _, _, _, _, _, _, _, _, _, _, _, _, _, _, _, _, _, _, _, _, _, _, _, _, _, _]) (us := [_, _, _, _, _, _, _, _, _, _, _]) Xj.f5 aQ O O O (aA (aA (aA (aA (aA (aA (aA (aA (aA (aA (aA bF))))))))))) O O) ?_
   rintro _ w25 Ub
   have VN := V.kp (Ub.f7.f7.f7.f7.f7.f7.f7)
   refine gV VN (by kernel_rfl) ?_
   refine qU (aX (aC (jG O O (nD O O (bD 13 ah O aO O (aH (eF 13 Ub aO) ?_))))))
   rintro _ w26 VO
   refine dJ O (bD 14 ah O aO O (aH (eF 14 VO aO) ?_))
   rintro _ w27 NG
   refine dJ O (bD 15 ah O aj O (aH (eF 15 NG aj) ?_))
   rintro _ w28 H28
   refine bM (lY (.inr O) results111 ?_)
   have aav := H28.f4
   have aaw := aav.uj
   exact ⟨_, _, _, _, _, aaw.f5.f6.f3.f6.f6.f7.f7⟩
 ·skip
  refine jO 9 O (by kernel_rfl) (jH (wF .i64) Ya) (jW O) ?_
  rintro _ w31 ⟨b31, rfl, SL⟩
  have VP := V.kp (SL.f4.right.f4.f4.f4.f4)
  refine dV VP (fun W hW => (Kp.h hW).right.f3.f3.f3) ?_
  refine xG (i := 8) (j := 12) (by kernel_rfl) ?_ ?_
  ·skip
   refine jO 8 O (by kernel_rfl) (uF (vW O func117 O O) (nX SL.f4)) (jW O) ?_
   rintro _ w32 ⟨rfl, NH⟩
   have Rf := V.kp (NH.f5.f5.f5.f5.f5)
   refine dV Rf (fun W hW => (Kp.h hW).right.f4.f4.f4.f4) ?_
   refine ji 10 O Rf (fun _ => dS (zl := [.int .i64 0, .map none]) (pl := [(0, 1), (1, 1)]) [_, _] eX mY O (fun w => by kernel_rfl) O (.on (.on .nil)) O) ?_
   refine xG (i := 11) (j := 12) (by kernel_rfl) ?_ ?_
   ·skip
    refine jO 11 O (by kernel_rfl) (iM (l := [_, _]) NH O O) (jW O) ?_
    rintro _ w33 ⟨b33, rfl, Xk⟩
    have Rh := V.kp (Xk.f6.f6.f6.f6.f6.f6)
    refine dV Rh (fun W hW => (Kp.h hW).right.f5.f5.f5.f5.f5) ?_
    refine oq 12 O (jH (wF .i64) Xk) ?_
    rintro _ w34 ⟨b34, rfl, VQ⟩
    have JD := V.kp (VQ.f7.f7.f7.f7.f7.f7.f7)
    refine dV JD (fun W hW => (Kp.h hW).right.f6.f6.f6.f6.f6.f6) ?_
    refine ji 18 O JD (fun _ => dS (zl := [.pointer none, .pointer none, .pointer none, .map none, .int .i64 0, .bool false, .int .i64 0, .int .i64 0, .int .i64 0, .int .i64 0, .bool false]) (pl := [(0, 1), (1, 1), (2, 1), (3, 1), (4, 1), (5, 1), (6, 1), (7, 1), (8, 1), (9, 1), (10, 1)]) [_, _, _, _, _, _, _, _, _, _, _] aG lJ O (fun w => by kernel_rfl) O (.on (.on (.on (.on (.on (.zero (zs := [.bool false]) O (.zero (zs := [.int .i64 0]) O (.zero (zs := [.int .i64 0]) O (.zero (zs := [.int .i64 0]) O (.zero (zs := [.int .i64 0]) O (.zero (zs := [.bool false]) O .nil))))))))))) O) ?_
    refine kJ 19 O JD O (gU 20 O JD 0 ah O aQ O ?_)
    refine fO 21 O (by kernel_rfl) (bU 0 (l' := [_, _, _, _, _, _, _, _, _, _, _, _, _, _, _, _, _, _, _, _, _, _, _, _, _, _, _, _, _, _, _, _, _, _]) (us := [_, _, _, _, _, _, _, _, _, _, _]) VQ.f5 aQ O O O (aA (aA (aA (aA (aA (aA (aA (aA (aA (aA (aA bF))))))))))) O O) ?_
    rintro _ w35 H35
    have VR := V.kp (H35.f7.f7.f7.f7.f7.f7.f7)
    refine gV VR (by kernel_rfl) ?_
    refine qU (aX (aC (jG O O (nD O O (bD 13 ah O aO O (aH (eF 13 H35 aO) ?_))))))
    rintro _ w36 H36
    refine dJ O (bD 14 ah O aO O (aH (eF 14 H36 aO) ?_))
    rintro _ w37 H37
    refine dJ O (bD 15 ah O aj O (aH (eF 15 H37 aj) ?_))
    rintro _ w38 P7
    refine bM (lY (.inr O) results111 ?_)
    have adx := P7.f2
    have ady := adx.uj
    exact ⟨_, _, _, _, _, ady.f4.f6.f3.f6.f6.f7.f7⟩
   ·skip
    refine jO 12 O (by kernel_rfl) (jH (wF .i64) NH) (jW O) ?_
    rintro _ w41 ⟨b41, rfl, Yb⟩
    have VT := V.kp (Yb.f6.f6.f6.f6.f6.f6)
    refine dV VT (fun W hW => (Kp.h hW).right.f5.f5.f5.f5.f5) ?_
    refine oq 11 O (iM (l := [_, _]) Yb O O) ?_
    rintro _ w42 ⟨b42, rfl, H42⟩
    have JE := V.kp (H42.f7.f7.f7.f7.f7.f7.f7)
    refine dV JE (fun W hW => (Kp.h hW).right.f6.f6.f6.f6.f6.f6) ?_
    refine ji 18 O JE (fun _ => dS (zl := [.pointer none, .pointer none, .pointer none, .map none, .int .i64 0, .bool false, .int .i64 0, .int .i64 0, .int .i64 0, .int .i64 0, .bool false]) (pl := [(0, 1), (1, 1), (2, 1), (3, 1), (4, 1), (5, 1), (6, 1), (7, 1), (8, 1), (9, 1), (10, 1)]) [_, _, _, _, _, _, _, _, _, _, _] aG lJ O (fun w => by kernel_rfl) O (.on (.on (.on (.on (.on (.zero (zs := [.bool false]) O (.zero (zs := [.int .i64 0]) O (.zero (zs := [.int .i64 0]) O (.zero (zs := [.int .i64 0]) O (.zero (zs := [.int .i64 0]) O (.zero (zs := [.bool false]) O .nil))))))))))) O) ?_
    refine kJ 19 O JE O (gU 20 O JE 0 ah O aQ O ?_)
    refine fO 21 O (by kernel_rfl) (bU 0 (l' := [_, _, _, _, _, _, _, _, _, _, _, _, _, _, _, _, _, _, _, _, _, _, _, _, _, _, _, _, _, _, _, _, _, _]) (us := [_, _, _, _, _, _, _, _, _, _, _]) H42.f5 aQ O O O (aA (aA (aA (aA (aA (aA (aA (aA (aA (aA (aA bF))))))))))) O O) ?_
    rintro _ w43 H43
    have VU := V.kp (H43.f7.f7.f7.f7.f7.f7.f7)
    refine gV VU (by kernel_rfl) ?_
    refine qU (aX (aC (jG O O (nD O O (bD 13 ah O aO O (aH (eF 13 H43 aO) ?_))))))
    rintro _ w44 Zf
    refine dJ O (bD 14 ah O aO O (aH (eF 14 Zf aO) ?_))
    rintro _ w45 OD
    refine dJ O (bD 15 ah O aj O (aH (eF 15 OD aj) ?_))
    rintro _ w46 H46
    refine bM (lY (.inr O) results111 ?_)
    have adz := H46.f3
    have adA := adz.uj
    exact ⟨_, _, _, _, _, adA.f4.f6.f3.f6.f6.f7.f7⟩
  ·skip
   refine jO 12 O (by kernel_rfl) (jH (wF .i64) SL) (jW O) ?_
   rintro _ w49 ⟨b49, rfl, H49⟩
   have ab1 := V.kp (H49.f5.right.f5.f5.f5.f5.f5)
   refine dV ab1 (fun W hW => (Kp.h hW).right.f4.f4.f4.f4) ?_
   refine oq 8 O (yN O func117 (nX H49.f5)) ?_
   rintro _ w50 ⟨rfl, H50⟩
   have Zg := V.kp (H50.f6.f6.f6.f6.f6.f6)
   refine dV Zg (fun W hW => (Kp.h hW).right.f5.f5.f5.f5.f5) ?_
   refine ji 10 O Zg (fun _ => dS (zl := [.int .i64 0, .map none]) (pl := [(0, 1), (1, 1)]) [_, _] eX mY O (fun w => by kernel_rfl) O (.on (.on .nil)) O) ?_
   refine oq 11 O (iM (l := [_, _]) H50 O O) ?_
   rintro _ w51 ⟨b51, rfl, H51⟩
   have Ri := V.kp (H51.f7.f7.f7.f7.f7.f7.f7)
   refine dV Ri (fun W hW => (Kp.h hW).right.f6.f6.f6.f6.f6.f6) ?_
   refine ji 18 O Ri (fun _ => dS (zl := [.pointer none, .pointer none, .pointer none, .map none, .int .i64 0, .bool false, .int .i64 0, .int .i64 0, .int .i64 0, .int .i64 0, .bool false]) (pl := [(0, 1), (1, 1), (2, 1), (3, 1), (4, 1), (5, 1), (6, 1), (7, 1), (8, 1), (9, 1), (10, 1)]) [_, _, _, _, _, _, _, _, _, _, _] aG lJ O (fun w => by kernel_rfl) O (.on (.on (.on (.on (.on (.zero (zs := [.bool false]) O (.zero (zs := [.int .i64 0]) O (.zero (zs := [.int .i64 0]) O (.zero (zs := [.int .i64 0]) O (.zero (zs := [.int .i64 0]) O (.zero (zs := [.bool false]) O .nil))))))))))) O) ?_
   refine kJ 19 O Ri O (gU 20 O Ri 0 ah O aQ O ?_)
   refine fO 21 O (by kernel_rfl) (bU 0 (l' := [_, _, _, _, _, _, _, _, _, _, _, _, _, _, _, _, _, _, _, _, _, _, _, _, _, _, _, _, _, _, _, _, _, _]) (us := [_, _, _, _, _, _, _, _, _, _, _]) H51.f5 aQ O O O (aA (aA (aA (aA (aA (aA (aA (aA (aA (aA (aA bF))))))))))) O O) ?_
   rintro _ w52 Zh
   have ab2 := V.kp (Zh.f7.f7.f7.f7.f7.f7.f7)
   refine gV ab2 (by kernel_rfl) ?_
   refine qU (aX (aC (jG O O (nD O O (bD 13 ah O aO O (aH (eF 13 Zh aO) ?_))))))
   rintro _ w53 H53
   refine dJ O (bD 14 ah O aO O (aH (eF 14 H53 aO) ?_))
   rintro _ w54 H54
   refine dJ O (bD 15 ah O aj O (aH (eF 15 H54 aj) ?_))
   rintro _ w55 H55
   refine bM (lY (.inr O) results111 ?_)
   have adB := H55.f4
   have adC := adB.uj
   exact ⟨_, _, _, _, _, adC.f4.f6.f3.f6.f6.f7.f7⟩
 ·skip
  refine jO 12 O (by kernel_rfl) (jH (wF .i64) Ya) (jW O) ?_
  rintro _ w58 ⟨b58, rfl, Yc⟩
  have ab3 := V.kp (Yc.f4.right.f4.f4.f4.f4)
  refine dV ab3 (fun W hW => (Kp.h hW).right.f3.f3.f3) ?_
  refine xG (i := 8) (j := 9) (by kernel_rfl) ?_ ?_
  ·skip
   refine jO 8 O (by kernel_rfl) (uF (vW O func117 O O) (nX Yc.f4)) (jW O) ?_
   rintro _ w59 ⟨rfl, H59⟩
   have ab4 := V.kp (H59.f5.f5.f5.f5.f5)
   refine dV ab4 (fun W hW => (Kp.h hW).right.f4.f4.f4.f4) ?_
   refine oq 9 O (jH (wF .i64) H59) ?_
   rintro _ w60 ⟨b60, rfl, H60⟩
   have Zi := V.kp (H60.f6.f6.f6.f6.f6.f6)
   refine dV Zi (fun W hW => (Kp.h hW).right.f5.f5.f5.f5.f5) ?_
   refine ji 10 O Zi (fun _ => dS (zl := [.int .i64 0, .map none]) (pl := [(0, 1), (1, 1)]) [_, _] eX mY O (fun w => by kernel_rfl) O (.on (.on .nil)) O) ?_
   refine oq 11 O (iM (l := [_, _]) H60 O O) ?_
   rintro _ w61 ⟨b61, rfl, H61⟩
   have Rj := V.kp (H61.f7.f7.f7.f7.f7.f7.f7)
   refine dV Rj (fun W hW => (Kp.h hW).right.f6.f6.f6.f6.f6.f6) ?_
   refine ji 18 O Rj (fun _ => dS (zl := [.pointer none, .pointer none, .pointer none, .map none, .int .i64 0, .bool false, .int .i64 0, .int .i64 0, .int .i64 0, .int .i64 0, .bool false]) (pl := [(0, 1), (1, 1), (2, 1), (3, 1), (4, 1), (5, 1), (6, 1), (7, 1), (8, 1), (9, 1), (10, 1)]) [_, _, _, _, _, _, _, _, _, _, _] aG lJ O (fun w => by kernel_rfl) O (.on (.on (.on (.on (.on (.zero (zs := [.bool false]) O (.zero (zs := [.int .i64 0]) O (.zero (zs := [.int .i64 0]) O (.zero (zs := [.int .i64 0]) O (.zero (zs := [.int .i64 0]) O (.zero (zs := [.bool false]) O .nil))))))))))) O) ?_
   refine kJ 19 O Rj O (gU 20 O Rj 0 ah O aQ O ?_)
   refine fO 21 O (by kernel_rfl) (bU 0 (l' := [_, _, _, _, _, _, _, _, _, _, _, _, _, _, _, _, _, _, _, _, _, _, _, _, _, _, _, _, _, _, _, _, _, _]) (us := [_, _, _, _, _, _, _, _, _, _, _]) H61.f5 aQ O O O (aA (aA (aA (aA (aA (aA (aA (aA (aA (aA (aA bF))))))))))) O O) ?_
   rintro _ w62 H62
   have ab5 := V.kp (H62.f7.f7.f7.f7.f7.f7.f7)
   refine gV ab5 (by kernel_rfl) ?_
   refine qU (aX (aC (jG O O (nD O O (bD 13 ah O aO O (aH (eF 13 H62 aO) ?_))))))
   rintro _ w63 H63
   refine dJ O (bD 14 ah O aO O (aH (eF 14 H63 aO) ?_))
   rintro _ w64 H64
   refine dJ O (bD 15 ah O aj O (aH (eF 15 H64 aj) ?_))
   rintro _ w65 H65
   refine bM (lY (.inr O) results111 ?_)
   have adD := H65.f5
   have adE := adD.uj
   exact ⟨_, _, _, _, _, adE.f5.f6.f3.f6.f6.f7.f7⟩
  ·skip
   refine jO 9 O (by kernel_rfl) (jH (wF .i64) Yc) (jW O) ?_
   rintro _ w68 ⟨b68, rfl, H68⟩
   have ab6 := V.kp (H68.f5.right.f5.f5.f5.f5.f5)
   refine dV ab6 (fun W hW => (Kp.h hW).right.f4.f4.f4.f4) ?_
   refine oq 8 O (yN O func117 (nX H68.f5)) ?_
   rintro _ w69 ⟨rfl, H69⟩
   have Zj := V.kp (H69.f6.f6.f6.f6.f6.f6)
   refine dV Zj (fun W hW => (Kp.h hW).right.f5.f5.f5.f5.f5) ?_
   refine ji 10 O Zj (fun _ => dS (zl := [.int .i64 0, .map none]) (pl := [(0, 1), (1, 1)]) [_, _] eX mY O (fun w => by kernel_rfl) O (.on (.on .nil)) O) ?_
   refine oq 11 O (iM (l := [_, _]) H69 O O) ?_
   rintro _ w70 ⟨b70, rfl, H70⟩
   have Rk := V.kp (H70.f7.f7.f7.f7.f7.f7.f7)
   refine dV Rk (fun W hW => (Kp.h hW).right.f6.f6.f6.f6.f6.f6) ?_
   refine ji 18 O Rk (fun _ => dS (zl := [.pointer none, .pointer none, .pointer none, .map none, .int .i64 0, .bool false, .int .i64 0, .int .i64 0, .int .i64 0, .int .i64 0, .bool false]) (pl := [(0, 1), (1, 1), (2, 1), (3, 1), (4, 1), (5, 1), (6, 1), (7, 1), (8, 1), (9, 1), (10, 1)]) [_, _, _, _, _, _, _, _, _, _, _] aG lJ O (fun w => by kernel_rfl) O (.on (.on (.on (.on (.on (.zero (zs := [.bool false]) O (.zero (zs := [.int .i64 0]) O (.zero (zs := [.int .i64 0]) O (.zero (zs := [.int .i64 0]) O (.zero (zs := [.int .i64 0]) O (.zero (zs := [.bool false]) O .nil))))))))))) O) ?_
   refine kJ 19 O Rk O (gU 20 O Rk 0 ah O aQ O ?_)
   refine fO 21 O (by kernel_rfl) (bU 0 (l' := [_, _, _, _, _, _, _, _, _, _, _, _, _, _, _, _, _, _, _, _, _, _, _, _, _, _, _, _, _, _, _, _, _, _]) (us := [_, _, _, _, _, _, _, _, _, _, _]) H70.f5 aQ O O O (aA (aA (aA (aA (aA (aA (aA (aA (aA (aA (aA bF))))))))))) O O) ?_
   rintro _ w71 H71
   have ab7 := V.kp (H71.f7.f7.f7.f7.f7.f7.f7)
   refine gV ab7 (by kernel_rfl) ?_
   refine qU (aX (aC (jG O O (nD O O (bD 13 ah O aO O (aH (eF 13 H71 aO) ?_))))))
   rintro _ w72 H72
   refine dJ O (bD 14 ah O aO O (aH (eF 14 H72 aO) ?_))
   rintro _ w73 H73
   refine dJ O (bD 15 ah O aj O (aH (eF 15 H73 aj) ?_))
   rintro _ w74 H74
   refine bM (lY (.inr O) results111 ?_)
   have adF := H74.f5
   have adG := adF.uj
   exact ⟨_, _, _, _, _, adG.f4.f6.f3.f6.f6.f7.f7⟩
theorem V.BR {c : mD} {u : List Value} (H : V w0 w F) (hu : (u.all fun x => x.oneCell') = true) : V w0 w (uV false c u • F) := by
  unfold uV
  rw [if_neg (by decide)]
  exact H.kD hu
theorem wO {inn : Bool} {c : mD} {u : List Value} (H : V w0 w (uV inn c u • F)) : (u.all fun x => x.oneCell') = true := by
  unfold uV at H
  cases inn with
  | true =>
    rw [if_pos rfl] at H
    obtain ⟨⟨pb, pr, pw, pt, pm⟩, H⟩ := H.lQ
    obtain ⟨h, _⟩ := H.flat.fact
    rw [h]; rfl
  | false =>
    rw [if_neg (by decide)] at H
    exact H.fact.1
theorem V.aax {pb pr pw pt pm : Nat} {c : mD} (H : V w0 w (iZ pb c.L c.pt c.mark • iD pr c.E c.at_ • dL pw (.cells #[.int .i64 c.place, .map (some pt)] 122 (0, 0)) • fG qI pt (rP c.tx) • wV pm c.un • F)) : V w0 w (uV true c (Nc pb pr pw pm c) • F) := by
  unfold uV
  rw [if_pos rfl]
  exact V.iy (pb, pr, pw, pt, pm) (V.deep (V.kD rfl (H.of_eq (by unfold PI; simp only [bW]))))
theorem V.was {c : mD} {u : List Value} (H : V w0 w (uV true c u • F)) : ∃ pb pr pw pt pm, u = Nc pb pr pw pm c ∧ V w0 w (iZ pb c.L c.pt c.mark • iD pr c.E c.at_ • dL pw (.cells #[.int .i64 c.place, .map (some pt)] 122 (0, 0)) • fG qI pt (rP c.tx) • wV pm c.un • F) := by
  unfold uV at H
  rw [if_pos rfl] at H
  obtain ⟨⟨pb, pr, pw, pt, pm⟩, H⟩ := H.lQ
  obtain ⟨h, H⟩ := H.flat.fact
  exact ⟨pb, pr, pw, pt, pm, h, H.of_eq (by unfold PI; simp only [bW])⟩
theorem V.GY {pb pr pw pt pm ph bl : Nat} {u0 u1 u2 u3 u4 u5 u6 u7 u8 u9 ua : Value} (h1 : lT s) (hp : s.put = []) (H : V w0 w (dL e (.cells (.pointer (some ⟨pb, 0, none⟩) :: .pointer (some ⟨pr, 0, none⟩) :: .pointer (some ⟨pw, 0, none⟩) :: .map (some pm) :: .int .i64 s.c.mode :: .bool s.c.over :: .int .i64 s.c.last :: .int .i64 s.c.fr :: .int .i64 s.c.to :: .int .i64 s.c.res :: .bool s.c.run :: .pointer (some ⟨ph, 0, none⟩) :: .pointer (some ⟨bl, 0, none⟩) :: .bool s.given :: .bool s.minus :: .int .i64 s.arg :: .bool s.inn :: u0 :: u1 :: u2 :: u3 :: u4 :: u5 :: u6 :: u7 :: u8 :: u9 :: ua :: .int .i64 s.cls :: .bool s.killed :: .bool s.lI :: .bool s.argues :: .bool s.whole :: .slice none 0 0 :: []).toArray 82 (0, 0)) • iZ pb s.c.L s.c.pt s.c.mark • iD pr s.c.E s.c.at_ • dL pw (.cells #[.int .i64 s.c.place, .map (some pt)] 122 (0, 0)) • fG qI pt (rP s.c.tx) • wV pm s.c.un • gK ph s.hl s.base s.most • dL bl (.cells #[.int .i64 s.qO] 161 (0, 0)) • uV s.inn s.was [u0, u1, u2, u3, u4, u5, u6, u7, u8, u9, ua] • F)) : V w0 w (gB e s • F) := by
  refine V.iF (pb := pb) (pr := pr) (pw := pw) (pt := pt) (pm := pm) (ph := ph) (bl := bl) (u0 := u0) (u1 := u1) (u2 := u2) (u3 := u3) (u4 := u4) (u5 := u5) (u6 := u6) (u7 := u7) (u8 := u8) (u9 := u9) (ua := ua) (pv := .slice none 0 0) (es := []) h1 (by rw [hp]; rfl) ?_
  rw [hp]
  exact (H.rE none).of_eq (by unfold Js; ac_rfl)
theorem V.P8 {pb pr pw pt pm ph bl : Nat} {u0 u1 u2 u3 u4 u5 u6 u7 u8 u9 ua : Value} (h1 : lT s) (hp : s.put = []) (hi : s.inn = false) (H : V w0 w (dL e (.cells (.pointer (some ⟨pb, 0, none⟩) :: .pointer (some ⟨pr, 0, none⟩) :: .pointer (some ⟨pw, 0, none⟩) :: .map (some pm) :: .int .i64 s.c.mode :: .bool s.c.over :: .int .i64 s.c.last :: .int .i64 s.c.fr :: .int .i64 s.c.to :: .int .i64 s.c.res :: .bool s.c.run :: .pointer (some ⟨ph, 0, none⟩) :: .pointer (some ⟨bl, 0, none⟩) :: .bool s.given :: .bool s.minus :: .int .i64 s.arg :: .bool false :: u0 :: u1 :: u2 :: u3 :: u4 :: u5 :: u6 :: u7 :: u8 :: u9 :: ua :: .int .i64 s.cls :: .bool s.killed :: .bool s.lI :: .bool s.argues :: .bool s.whole :: .slice none 0 0 :: []).toArray 82 (0, 0)) • iZ pb s.c.L s.c.pt s.c.mark • iD pr s.c.E s.c.at_ • dL pw (.cells #[.int .i64 s.c.place, .map (some pt)] 122 (0, 0)) • fG qI pt (rP s.c.tx) • wV pm s.c.un • gK ph s.hl s.base s.most • dL bl (.cells #[.int .i64 s.qO] 161 (0, 0)) • F)) (hu : ([u0, u1, u2, u3, u4, u5, u6, u7, u8, u9, ua].all fun x => x.oneCell') = true := by rfl) : V w0 w (gB e s • F) := by
  refine V.GY (pb := pb) (pr := pr) (pw := pw) (pt := pt) (pm := pm) (ph := ph) (bl := bl) (u0 := u0) (u1 := u1) (u2 := u2) (u3 := u3) (u4 := u4) (u5 := u5) (u6 := u6) (u7 := u7) (u8 := u8) (u9 := u9) (ua := ua) h1 hp ?_
  rw [hi]
  exact (H.BR (c := s.was) (u := [u0, u1, u2, u3, u4, u5, u6, u7, u8, u9, ua]) hu).of_eq (by ac_rfl)
theorem VW : iE [] [] = 0 := rfl
theorem NI (hl : List pR) (l : List Int) (E : List (List Int)) (a : Nat) (m : Int) : PK hl (mD.fresh l E a hl.length m) := ⟨by simp [mD.fresh], by simp [mD.fresh], by simp [mD.fresh]⟩
theorem KP (hl : List pR) (base most : Int) : lT (dG.new hl base most) :=
  ⟨NI _ _ _ _ _, by simp [dG.new], by simp [dG.new], by simp [dG.new], by simp [dG.new, dG.here, mD.fresh, iE], by simp [dG.new, mD.fresh]⟩
theorem P9 (H : V w0 w (gK h hl base most • F)) : gJ prog 57 #[.pointer (some ⟨h, 0, none⟩)] w fun v w' => ∃ e, v = .tuple #[.pointer (some ⟨e, 0, none⟩), .int .i64 0] ∧ V w0 w' (gB e (dG.new hl base most) • gK h hl base most • F) := by
  refine iG func57 ntmps57 ?_
  refine iH (fV O (wu O (bT O (dY O func109 (rG H) ?_))))
  rintro _ w1 ⟨q1, rfl, H1⟩
  refine aV (iR jM O O) (iJ (Jp O (fun h1 => ?_)))
  (try simp only [Z] at h1)
  refine gq (iH (aV (dS (zl := [.int .i64 0]) (pl := [(0, 0), (0, 0), (0, 1)]) [_] underlying161 zeroValue161 O (fun w => by kernel_rfl) O (.zero (zs := []) O (.zero (zs := []) O (.zero (zs := [.int .i64 0]) O .nil))) O) (jv (iM (l := [_]) H1 O O) ?_)))
  rintro _ w2 ⟨b2, rfl, H2⟩
  refine aV (dS (zl := [.pointer none, .pointer none, .pointer none, .map none, .int .i64 0, .bool false, .int .i64 0, .int .i64 0, .int .i64 0, .int .i64 0, .bool false, .pointer none, .pointer none, .bool false, .bool false, .int .i64 0, .bool false, .pointer none, .pointer none, .pointer none, .map none, .int .i64 0, .bool false, .int .i64 0, .int .i64 0, .int .i64 0, .int .i64 0, .bool false, .int .i64 0, .bool false, .bool false, .bool false, .bool false, .slice none 0 0]) (pl := [(0, 11), (11, 1), (12, 1), (13, 1), (14, 1), (15, 1), (16, 1), (17, 11), (28, 1), (29, 1), (30, 1), (31, 1), (32, 1), (33, 1)]) [_, _, _, _, _, _, _, _, _, _, _, _, _, _, _, _, _, _, _, _, _, _, _, _, _, _, _, _, _, _, _, _, _, _] ah zeroValue82 O (fun w => by kernel_rfl) O (.zero (zs := [.pointer none, .pointer none, .pointer none, .map none, .int .i64 0, .bool false, .int .i64 0, .int .i64 0, .int .i64 0, .int .i64 0, .bool false]) O (.zero (zs := [.pointer none]) O (.on (.zero (zs := [.bool false]) O (.zero (zs := [.bool false]) O (.zero (zs := [.int .i64 0]) O (.zero (zs := [.bool false]) O (.zero (zs := [.pointer none, .pointer none, .pointer none, .map none, .int .i64 0, .bool false, .int .i64 0, .int .i64 0, .int .i64 0, .int .i64 0, .bool false]) O (.zero (zs := [.int .i64 0]) O (.zero (zs := [.bool false]) O (.zero (zs := [.bool false]) O (.zero (zs := [.bool false]) O (.zero (zs := [.bool false]) O (.zero (zs := [.slice none 0 0]) O .nil)))))))))))))) O) ?_
  refine jv (iM (l := [_, _, _, _, _, _, _, _, _, _, _, _, _, _, _, _, _, _, _, _, _, _, _, _, _, _, _, _, _, _, _, _, _, _]) H2 O O) ?_
  rintro _ w3 ⟨b3, rfl, H3⟩
  refine gI O (bT O (dY O func110 (Kt H3) ?_))
  rintro _ w4 ⟨p4, rfl, H4⟩
  refine dJ O (bD 0 ah O aQ O (bD 1 aG O sizeOf73 O (aH (eF 1 H4.f2 sizeOf73) ?_)))
  rintro _ w5 H5
  refine qR O (bP O (dY O func111 (Bq (E := []) (a := 0) H5.f4.right.f3.f3.f4.f4 (l := []) (fun W _ => fB.nil W _ none 0 (by decide)) (by decide)) ?_))
  rintro _ w6 ⟨qb, qw, qt, qm, qh, H6⟩
  refine qR O (fV O (fC O (LC results57 O O ?_)))
  exact ⟨_, O, V.P8 (s := dG.new hl base most) (KP _ _ _) O O H6.f7.f9.f8.f8.f8.f8.f9.f9.f9⟩
end
section
variable {w0 w : World} {F : HP} {e p h pr : Nat} {s : dG} {hl : List pR} {base most m : Int} {v : Value} {l : List Int}
theorem vN (h : s.inn = false) : s.jZ = { s with inn := true, was := s.c, cls := 0, killed := false, lI := false, argues := false, whole := true, put := [] } := by unfold dG.jZ; rw [if_neg (by simp [h])]
theorem GZ (h : s.inn = true) : s.jZ = s := by unfold dG.jZ; rw [if_pos h]
theorem Rl {G : List (List iT)} {N : List iT} (h : iE G N ≤ 16384) : iE G [] ≤ 16384 := by unfold iE at *; simp at *; omega
theorem NJ (h : lT s) (hi : s.inn = false) : lT s.jZ := by
  rw [vN hi]
  obtain ⟨h1, h2, h3, h4, h5, h6⟩ := h
  exact ⟨h1, fun _ => ⟨h1, Rl h5, h6⟩, h3, by simp, Rl h5, h6⟩
theorem Du (H : V w0 w (gB e s • F)) : gJ prog 29 #[.pointer (some ⟨e, 0, none⟩)] w fun v w' => v = .int .i64 s.BJ ∧ V w0 w' (gB e s.jZ • F) := by
 refine iG func29 ntmps29 ?_
 refine jr O (aP (aY (bT O (dY O func65 (oZ H) ?_))))
 rintro _ _ ⟨rfl, rfl⟩
 refine gI O (qF (aP ?_))
 obtain ⟨xQ, xR, xU, xW, xX, xY, xZ, yc, uN, su, sD, sF, sG, sH, sJ, sK, sN, sO, sQ, sS, iw, dF, lu, iI⟩ := (H).Gu
 refine aC (nD O O (bD 16 ah O aO O (fZ bK O (iI).get.2 O (gI O (bI O (fun h1 => ?_) (fun h1 => ?_))))))
 ·(try simp only [Z] at h1)
  have hin := h1
  refine jL O (aT (aF (dH results29 O ?_)))
  exact ⟨by unfold dG.BJ; rw [if_pos hin], by rw [GZ hin]; exact V.iF iw dF iI.f11.f11.f11.f11.f11.f11.f11.f11.f11.f11.f11⟩
 ·(try simp only [Z] at h1)
  have hin := h1
  refine bZ (aJ (aX (bT O (jG O O (dJ O (bD 0 ah O aQ O (aV (nU 0 (xs := [_, _, _, _, _, _, _, _, _, _, _]) aG O aQ O O (iI).get.2 O) (dY O func80 (Nl iI.f6.f6.f6.f6.f6) ?_))))))))
  rintro _ w3 ⟨qb3, qr3, qw3, qt3, qm3, rfl, H3⟩
  refine dJ O (bD 16 ah O aO O (aH (eF 16 H3.f11 aO) ?_))
  rintro _ w4 H4
  refine dJ O (bD 17 ah O aQ O (aH (bU 17 (l' := [_, _, _, _, _, _, _, _, _, _, _, _, _, _, _, _, _, _, _, _, _, _, _, _, _, _, _, _, _, _, _, _, _, _]) (us := [_, _, _, _, _, _, _, _, _, _, _]) H4 aQ O O O (aA (aA (aA (aA (aA (aA (aA (aA (aA (aA (aA bF))))))))))) O O) ?_))
  rintro _ w5 H5
  refine qR O (jG O O (jG O O (nD O O (bD 28 ah O aj O (aH (eF 28 H5 aj) ?_)))))
  rintro _ w6 H6
  refine dJ O (bD 29 ah O aO O (aH (eF 29 H6 aO) ?_))
  rintro _ w7 H7
  refine dJ O (bD 30 ah O aO O (aH (eF 30 H7 aO) ?_))
  rintro _ w8 H8
  refine dJ O (bD 31 ah O aO O (aH (eF 31 H8 aO) ?_))
  rintro _ w9 H9
  refine dJ O (bD 32 ah O aO O (aH (eF 32 H9 aO) ?_))
  rintro _ w10 ql
  refine dJ O (bD 33 ah O bH O (aH (eF 33 ql bH) ?_))
  rintro _ EH rF
  refine iJ (jL O (dH results29 O ?_))
  have PX := rF.f6.f6.f6.f6.f6
  have PY := V.aax (c := s.c) PX
  exact ⟨by unfold dG.BJ; rw [if_neg (by simp [hin])], by rw [vN hin]; exact V.GY (vN hin ▸ NJ iw hin) O PY.f10.right.f10.right.f10.right.f9.f9.f9.f9.f9.f9.f9.f9⟩
end
section
variable {w0 w : World} {F : HP} {e p h pr : Nat} {s : dG} {x : Int} {b : Bool}
theorem JF (h : lT s) (L : List Int) (pt mk : Int) : lT (s.yZ L pt mk) := h
theorem EL (H : V w0 w (gB e s • F)) : gJ prog 30 #[.pointer (some ⟨e, 0, none⟩), .int .i64 x] w fun v w' => v = .int .i64 (s.Jv x) ∧ V w0 w' (gB e (s.EI x) • F) := by
 refine nT func30 ntmps30 ?_
 refine jr O (aP (bT O (dY O func81 (uh H) ?_)))
 rintro _ _ ⟨rfl, rfl⟩
 refine gI O (bT O (aV (iU O O) (je O (fun h1 => ?_) (fun h1 => ?_))))
 ·(try simp only [Z] at h1)
  obtain ⟨hin, hpe⟩ := Q9 h1
  refine bT O (fC O (aF (dH results30 O ?_)))
  rw [hpe]
  exact ⟨by simp [dG.Jv, dG.EI, hin], by rw [show s.EI x = s from by simp [dG.Jv, dG.EI, hin]]; exact H⟩
 ·(try simp only [Z] at h1)
  have hin := NC h1
  refine gq (aP ?_)
  obtain ⟨xQ, xR, xU, xW, xX, xY, xZ, yc, uN, su, sD, sF, sG, sH, sJ, sK, sN, sO, sQ, sS, iw, dF, lu, iI⟩ := (H).Gu
  refine aC (nD O O (bD 0 ah O aQ O (bD 0 aG O vM O (fZ qo O (iI).get.2 O (bP O (dY O func82 (Kq iI.f2) ?_))))))
  rintro _ w3 ⟨rfl, H3⟩
  refine fC O (dH results30 O ?_)
  exact ⟨by simp [dG.Jv, hin], by rw [show s.EI x = s.yZ s.c.L (mvP s.c.L.length s.c.pt x) s.c.mark from by simp [dG.EI, hin]]; exact V.iF (JF iw _ _ _) dF H3.f11.f11.f11.f11.f11.f11.f11.f11.f11.f10.f11⟩
theorem NK (H : V w0 w (gB e s • F)) : gJ prog 62 #[.pointer (some ⟨e, 0, none⟩), .int .i64 x] w fun v w' => v = .int .i64 (s.rH x) ∧ V w0 w' (gB e (s.yC x) • F) := by
 refine nT func62 ntmps62 ?_
 refine jr O (aP (bT O (dY O func81 (uh H) ?_)))
 rintro _ _ ⟨rfl, rfl⟩
 refine gI O (bT O (aV (iU O O) (je O (fun h1 => ?_) (fun h1 => ?_))))
 ·(try simp only [Z] at h1)
  obtain ⟨hin, hpe⟩ := Q9 h1
  refine bT O (fC O (aF (dH results62 O ?_)))
  rw [hpe]
  exact ⟨by simp [dG.rH, dG.yC, hin], by rw [show s.yC x = s from by simp [dG.rH, dG.yC, hin]]; exact H⟩
 ·(try simp only [Z] at h1)
  have hin := NC h1
  refine gq (aP (bT O (aV (gY O O) (jF O (fun h2 => ?_) (fun h2 => ?_)))))
  ·(try simp only [Z] at h2)
   refine bJ (bJ (jE O O (iJ (Il (jL O (aF (dH results62 O ?_)))))))
   have hd : s.rH x = 1 := by unfold dG.rH; rw [if_pos hin, if_pos (by omega)]
   exact ⟨by rw [hd], by unfold dG.yC; rw [hd, if_neg (by decide)]; exact H⟩
  ·(try simp only [Z] at h2)
   refine bC (bP O (bC (aV (iV O O) (iL O O (je O (fun h3 => ?_) (fun h3 => ?_))))))
   ·(try simp only [Z] at h3)
    refine jL O (aF (dH results62 O ?_))
    have hd : s.rH x = 1 := by unfold dG.rH; rw [if_pos hin, if_pos (by omega)]
    exact ⟨by rw [hd], by unfold dG.yC; rw [hd, if_neg (by decide)]; exact H⟩
   ·(try simp only [Z] at h3)
    refine gq (aP ?_)
    have hd : s.rH x = 0 := by unfold dG.rH; rw [if_pos hin, if_neg (by omega)]
    obtain ⟨xQ, xR, xU, xW, xX, xY, xZ, yc, uN, su, sD, sF, sG, sH, sJ, sK, sN, sO, sQ, sS, iw, dF, lu, iI⟩ := (H).Gu
    refine aC (jG O O (dJ O (bD 0 ah O aQ O (bD 4 aG O aj O (aH (eF 4 iI aj) ?_)))))
    rintro _ w3 H3
    refine iJ (jL O (dH results62 O ?_))
    rw [hd]
    refine ⟨O, ?_⟩
    unfold dG.yC
    rw [if_pos hd]
    exact V.iF (s := { s with c := { s.c with mode := x } }) iw dF H3.f11.f11.f11.f11.f11.f11.f11.f11.f11.f11.f11
theorem KR (H : V w0 w (gB e s • F)) : gJ prog 72 #[.pointer (some ⟨e, 0, none⟩)] w fun v w' => v = .int .i64 s.count ∧ V w0 w' (gB e s • F) := by
 refine iG func72 ntmps72 ?_
 refine jr O (aP (aY (bT O (dY O func65 (oZ H) ?_))))
 rintro _ _ ⟨rfl, rfl⟩
 refine gI O (qF (aP ?_))
 obtain ⟨xQ, xR, xU, xW, xX, xY, xZ, yc, uN, su, sD, sF, sG, sH, sJ, sK, sN, sO, sQ, sS, iw, dF, lu, iI⟩ := (H).Gu
 have harg := iw.2.2.1
 refine aC (nD O O (bD 13 ah O aO O (fZ bK O (iI).get.2 O (aV (kT O) (gI O (bI O (fun h1 => ?_) (fun h1 => ?_)))))))
 ·(try simp only [Z] at h1)
  have hg := h1
  refine jL O (aT (aF (dH results72 O ?_)))
  have O7 := iI.f11.f11.f11.f11.f11.f11.f11.f11.f11.f11.f11
  have OB := V.iF (s := s) iw dF O7
  exact ⟨by unfold dG.count; simp only [*]; first | rfl | (split <;> simp_all <;> omega) | simp_all, OB⟩
 ·(try simp only [Z] at h1)
  have hg := h1
  refine bZ (aJ (aX (bT O (dJ O (bD 15 ah O aj O (fZ aK O (iI).get.2 O (wu O (bT O (aV (gY O O) (je O (fun h2 => ?_) (fun h2 => ?_)))))))))))
  ·(try simp only [Z] at h2)
   refine aC (wu O (bT O (dJ O (bD 14 ah O aO O (fZ bK O (iI).get.2 O (je O (fun h3 => ?_) (fun h3 => ?_)))))))
   ·(try simp only [Z] at h3)
    refine bT O (aV (YN O (by omega)) (fC O (aF (dH results72 O ?_))))
    have U1 := iI.f11.f11.f11.f11.f11.f11.f11.f11.f11.f11.f11
    have U2 := V.iF (s := s) iw dF U1
    exact ⟨by unfold dG.count; simp only [*]; first | rfl | (split <;> simp_all <;> omega) | simp_all, U2⟩
   ·(try simp only [Z] at h3)
    refine gq (bT O (fC O (dH results72 O ?_)))
    have U6 := iI.f11.f11.f11.f11.f11.f11.f11.f11.f11.f11.f11
    have U7 := V.iF (s := s) iw dF U6
    exact ⟨by unfold dG.count; simp only [*]; first | rfl | (split <;> simp_all <;> omega) | simp_all, U7⟩
  ·(try simp only [Z] at h2)
   refine gq (aP (bT O (dJ O (bD 14 ah O aO O (fZ bK O (iI).get.2 O (je O (fun h4 => ?_) (fun h4 => ?_)))))))
   ·(try simp only [Z] at h4)
    refine bT O (aV (YN O (by omega)) (fC O (aF (dH results72 O ?_))))
    have aay := iI.f11.f11.f11.f11.f11.f11.f11.f11.f11.f11.f11
    have aaz := V.iF (s := s) iw dF aay
    exact ⟨by unfold dG.count; simp only [*]; first | rfl | (split <;> simp_all <;> omega) | simp_all, aaz⟩
   ·(try simp only [Z] at h4)
    refine gq (bT O (fC O (dH results72 O ?_)))
    have adH := iI.f11.f11.f11.f11.f11.f11.f11.f11.f11.f11.f11
    have adI := V.iF (s := s) iw dF adH
    exact ⟨by unfold dG.count; simp only [*]; first | rfl | (split <;> simp_all <;> omega) | simp_all, adI⟩
theorem KT (H : V w0 w (gB e s • F)) : gJ prog 73 #[.pointer (some ⟨e, 0, none⟩)] w fun v w' => v = .bool s.given ∧ V w0 w' (gB e s • F) := by
  refine iG func73 ntmps73 ?_
  refine jr O (bT O (dY O func65 (oZ H) ?_))
  rintro _ _ ⟨rfl, rfl⟩
  refine aV (kT O) ?_
  obtain ⟨xQ, xR, xU, xW, xX, xY, xZ, yc, uN, su, sD, sF, sG, sH, sJ, sK, sN, sO, sQ, sS, iw, dF, lu, iI⟩ := (H).Gu
  refine xsE O (fun h1 => ?_)
  (try simp only [Z] at h1)
  refine bC (bP O (bC (dJ O (bC (bD 13 ah O aO O (bC (fZ bK O (iI).get.2 O (jE O O (fC O (dH results73 O ?_))))))))))
  have O7 := iI.f11.f11.f11.f11.f11.f11.f11.f11.f11.f11.f11
  have OB := V.iF (s := s) iw dF O7
  exact ⟨O, OB⟩
theorem Ad (H : V w0 w (gB e s • F)) : gJ prog 28 #[.pointer (some ⟨e, 0, none⟩)] w fun v w' => ∃ u, v = .agg (rW u s.c.pt s.c.mark) ∧ V w0 w' (kW 21 .i32 u s.c.L • gB e s • F) := by
 refine iG func28 ntmps28 ?_
 refine iH (jv (fJ (l := [_, _, _]) H zeroValue46 O) ?_)
 rintro _ w1 ⟨b1, rfl, H1⟩
 refine pK (bT O (dY O func65 (oZ H1.f2) ?_))
 rintro _ _ ⟨rfl, rfl⟩
 refine iJ (qF (gq (aP ?_)))
 obtain ⟨xQ, xR, xU, xW, xX, xY, xZ, yc, uN, su, sD, sF, sG, sH, sJ, sK, sN, sO, sQ, sS, iw, dF, lu, iI⟩ := (H1.f2).Gu
 refine aC (nD O O (bD 0 ah O aQ O (bD 0 aG O vM O (fZ qo O (iI).get.2 O (dY O func79 (CY iI.f2) ?_)))))
 rintro _ w4 ⟨u4, rfl, H4⟩
 refine aH (bU 0 (l' := [_, _, _]) (us := [_, _, _]) H4.f13 sizeOf46 O O O (aW (by first | rfl | exact Rd.one ((H4).aS)) (aA (aA bF))) O O) ?_
 rintro _ w5 H5
 refine YU ?_
 refine pX (.inl O) (J3 results28 O jk O (by rw [Uw]; rfl) (H5).get.2) ?_
 have U1 := H5.f13.f13.f13.f13.f13.f13.f13.f13.f13.f12.f13
 have U2 := V.iF (s := s) iw dF U1
 exact ⟨_, O, U2.f2.right.f2⟩
end
end Go.Proofs.YtpdeedplgmbopaaGreatDoor
end
section
namespace Go.Proofs.YtpdeedplgmbopaaGreatDoor
open Go.RowKit
theorem VX {s : dG} {x : iT} (h : x.2.1.length + x.2.2.length = 0) : s.QS x = s := by unfold dG.QS; rw [if_pos h]
theorem og (G : List (List iT)) (N : List iT) : iE G N = iE G [] + N.length := by unfold iE; simp
section
variable {w0 w : World} {F : HP} {e p h pr : Nat} {s : dG} {i j x : Int} {b : Bool} {v : Value} {l : List Int}
end
section
variable {w0 w : World} {F : HP} {e p h pr : Nat} {s : dG} {i j x : Int} {back : Bool} {v : Value} {l : List Int}
theorem VY {E : List (List Int)} (h : ∀ x ∈ E, x.length ≤ 1024) (k : Nat) : (E.getD k []).length ≤ 1024 := by
  rw [List.getD_eq_getElem?_getD]
  cases hk : E[k]? with
  | none => simp
  | some x => exact h x (List.mem_of_getElem? hk)
end
end Go.Proofs.YtpdeedplgmbopaaGreatDoor
end
