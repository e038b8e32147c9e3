import Derived.Test.YtpdeedplgmbopaaGreatDoorZ4
import Derived.Test.YtpdeedplgmbopaaGreatDoorZ12
import Derived.Test.YtpdeedplgmbopaaGreatDoorZ3
set_option linter.unusedSimpArgs false
set_option linter.unusedVariables false
/- Texts of mine, joined, their names in short: EdB EdC EdMv EdR EdK. -/
section
namespace Go.Proofs.YtpdeedplgmbopaaGreatDoor
open Go.RowKit
open _root_.Go.Proofs.Tryz
section
variable {w0 w : World} {F : HP} {e p h pr : Nat} {s : dN} {hl : List qQ} {base most m : Int} {v : Value} {l : List Int}
theorem V.vN {b : Nat} (H : V w0 w (gy rQ b (fun _ => none) • F)) : V w0 w (xR b (fun _ => []) • F) :=
  V.BM (D := []) (P := fun _ => 0) List.nodup_nil (fun _ _ => rfl) (by rw [SA]; exact H.of_eq (by show _ = (_ • emp • _); rw [YtpdeedplgmbopaaGreatDoor.og]))
set_option maxHeartbeats 1000000 in
theorem CS {x0 x2 x3 x5 x6 x7 x8 x9 x10 x11 x12 wC x14 x15 x16 x17 x18 x19 x20 x21 wQ x23 x24 x25 xq x27 x28 x29 x30 x31 x32 yc : Value} {E : List (List Int)} {a : Nat} (H : V w0 w (dS e (.cells (x0 :: .pointer (some ⟨pr, 0, none⟩) :: x2 :: x3 :: .int .i64 m :: x5 :: x6 :: x7 :: x8 :: x9 :: x10 :: x11 :: x12 :: wC :: x14 :: x15 :: x16 :: x17 :: x18 :: x19 :: x20 :: x21 :: wQ :: x23 :: x24 :: x25 :: xq :: x27 :: x28 :: x29 :: x30 :: x31 :: x32 :: yc :: []).toArray 82 (0, 0)) • iH h hl base most • F)) (hr : jE w0 F .i32 v l) (hshort : l.length ≤ 1024) :
  ig prog 111 #[.pointer (some ⟨e, 0, none⟩), .pointer (some ⟨h, 0, none⟩), v] w fun _ w' => ∃ pb pw pt pm ph, V w0 w' (dS e (.cells (.pointer (some ⟨pb, 0, none⟩) :: .pointer (some ⟨pr, 0, none⟩) :: .pointer (some ⟨pw, 0, none⟩) :: .map (some pm) :: .int .i64 m :: .bool false :: .int .i64 0 :: .int .i64 0 :: .int .i64 0 :: .int .i64 0 :: .bool false :: .pointer (some ⟨ph, 0, none⟩) :: x12 :: .bool false :: .bool false :: .int .i64 (-1) :: x16 :: x17 :: x18 :: x19 :: x20 :: x21 :: wQ :: x23 :: x24 :: x25 :: xq :: x27 :: x28 :: x29 :: x30 :: x31 :: x32 :: yc :: []).toArray 82 (0, 0)) •
   jH pb l l.length (-1) • dS pw (.cells #[.int .i64 hl.length, .map (some pt)] 122 (0, 0)) • gy rQ pt (fun _ => none) • xR pm (fun _ => []) • iH ph hl base most • iH h hl base most • F) := by
 refine DL func111 ntmps111 ?_
 refine bM O (dX O func151 (NQ H (fun W HW => hr _ (HW.right.right)) hshort) ?_)
 rintro _ w1 ⟨p1, rfl, H1⟩
 refine bG O (rW O O (rW O O (dL O (fV O (bM O (bG O (dX O func109 (tC H1.f3) ?_)))))))
 rintro _ w2 ⟨q2, rfl, H2⟩
 refine dQ O (bK 11 ah O sizeOf78 O (aO (fE 11 H2.f4 sizeOf78) ?_))
 rintro _ w3 H3
 refine qW ?_
 have Y4 := H3.drew
 have yu := V.kp (Y4.f3.right.f3.f3.f3)
 refine yY [6, 17] yu O (jW 0 O yu O (jW 1 O yu O (jW 2 O yu O (kV 3 O yu O (iJ 4 O yu 0 ah O aX O (iJ 5 O yu 1 aJ O sizeOf73 O (kK 6 O yu (fun W hW => kQ uX O ((Kp.h hW)).get.2 O) (jW 7 O yu O (jW 13 O yu O (kV 14 O yu O (iJ 15 O yu 0 ah O aX O (iJ 16 O yu 4 aJ O aF O (kK 17 O yu (fun W hW => kQ aP O ((Kp.h hW)).get.2 O) ?_)))))))))))))
 refine Vj (i := 8) (j := 9) (k := 12) (by kernel_rfl) ?_ ?_ ?_
 ·skip
  refine kE 8 O (by kernel_rfl) (sQ (um O func117 O O) (oW Y4.f3)) (kM O) ?_
  rintro _ w4 ⟨rfl, H4⟩
  have nK := V.kp (H4.f4.f4.f4.f4)
  refine eU nK (fun W hW => (Kp.h hW).right.f3.f3.f3) ?_
  refine yB (i := 9) (j := 12) (by kernel_rfl) ?_ ?_
  ·skip
   refine kE 9 O (by kernel_rfl) (jX (xB .i64) H4) (kM O) ?_
   rintro _ w5 ⟨b5, rfl, H5⟩
   have AQ := V.kp (H5.f5.f5.f5.f5.f5)
   refine eU AQ (fun W hW => (Kp.h hW).right.f4.f4.f4.f4) ?_
   refine jQ 10 O AQ (fun _ => eX (zl := [.int .i64 0, .map none]) (pl := [(0, 1), (1, 1)]) [_, _] fK nN O (fun w => by kernel_rfl) O (.on (.on .nil)) O) ?_
   refine yB (i := 11) (j := 12) (by kernel_rfl) ?_ ?_
   ·skip
    refine kE 11 O (by kernel_rfl) (jf (l := [_, _]) H5 O O) (kM O) ?_
    rintro _ w6 ⟨b6, rfl, H6⟩
    have Dj := V.kp (H6.f6.f6.f6.f6.f6.f6)
    refine eU Dj (fun W hW => (Kp.h hW).right.f5.f5.f5.f5.f5) ?_
    refine oV 12 O (jX (xB .i64) H6) ?_
    rintro _ w7 ⟨b7, rfl, H7⟩
    have Jw := V.kp (H7.f7.f7.f7.f7.f7.f7.f7)
    refine eU Jw (fun W hW => (Kp.h hW).right.f6.f6.f6.f6.f6.f6) ?_
    refine jQ 18 O Jw (fun _ => eX (zl := [.pointer none, .pointer none, .pointer none, .map none, .int .i64 0, .bool false, .int .i64 0, .int .i64 0, .int .i64 0, .int .i64 0, .bool false]) (pl := [(0, 1), (1, 1), (2, 1), (3, 1), (4, 1), (5, 1), (6, 1), (7, 1), (8, 1), (9, 1), (10, 1)]) [_, _, _, _, _, _, _, _, _, _, _] aJ lU O (fun w => by kernel_rfl) O (.on (.on (.on (.on (.on (.zero (zs := [.bool false]) O (.zero (zs := [.int .i64 0]) O (.zero (zs := [.int .i64 0]) O (.zero (zs := [.int .i64 0]) O (.zero (zs := [.int .i64 0]) O (.zero (zs := [.bool false]) O .nil))))))))))) O) ?_
    refine kV 19 O Jw O (iJ 20 O Jw 0 ah O aX O ?_)
    refine gX 21 O (by kernel_rfl) (dw 0 (l' := [_, _, _, _, _, _, _, _, _, _, _, _, _, _, _, _, _, _, _, _, _, _, _, _, _, _, _, _, _, _, _, _, _, _]) (us := [_, _, _, _, _, _, _, _, _, _, _]) H7.f5 aX O O O (aH (aH (aH (aH (aH (aH (aH (aH (aH (aH (aH bP))))))))))) O O) ?_
    rintro _ w8 H8
    have Qn := V.kp (H8.f7.f7.f7.f7.f7.f7.f7)
    refine iD Qn (by kernel_rfl) ?_
    refine sK (aW (aA (jr O O (nZ O O (bK 13 ah O aT O (aO (fE 13 H8 aT) ?_))))))
    rintro _ w9 H9
    refine dQ O (bK 14 ah O aT O (aO (fE 14 H9 aT) ?_))
    rintro _ w10 rD
    refine dQ O (bK 15 ah O aF O (aO (fE 15 rD aF) ?_))
    rintro _ ED rM
    refine bD (mO (.inr O) results111 ?_)
    have QK := rM.f2
    have QL := QK.vN
    exact ⟨_, _, _, _, _, QL.f5.f6.f3.f6.f6.f7.f7⟩
   ·skip
    refine kE 12 O (by kernel_rfl) (jX (xB .i64) H5) (kM O) ?_
    rintro _ TN ⟨b14, rfl, BJ⟩
    have D5 := V.kp (BJ.f6.f6.f6.f6.f6.f6)
    refine eU D5 (fun W hW => (Kp.h hW).right.f5.f5.f5.f5.f5) ?_
    refine oV 11 O (jf (l := [_, _]) BJ O O) ?_
    rintro _ TV ⟨b15, rfl, zH⟩
    have wF := V.kp (zH.f7.f7.f7.f7.f7.f7.f7)
    refine eU wF (fun W hW => (Kp.h hW).right.f6.f6.f6.f6.f6.f6) ?_
    refine jQ 18 O wF (fun _ => eX (zl := [.pointer none, .pointer none, .pointer none, .map none, .int .i64 0, .bool false, .int .i64 0, .int .i64 0, .int .i64 0, .int .i64 0, .bool false]) (pl := [(0, 1), (1, 1), (2, 1), (3, 1), (4, 1), (5, 1), (6, 1), (7, 1), (8, 1), (9, 1), (10, 1)]) [_, _, _, _, _, _, _, _, _, _, _] aJ lU O (fun w => by kernel_rfl) O (.on (.on (.on (.on (.on (.zero (zs := [.bool false]) O (.zero (zs := [.int .i64 0]) O (.zero (zs := [.int .i64 0]) O (.zero (zs := [.int .i64 0]) O (.zero (zs := [.int .i64 0]) O (.zero (zs := [.bool false]) O .nil))))))))))) O) ?_
    refine kV 19 O wF O (iJ 20 O wF 0 ah O aX O ?_)
    refine gX 21 O (by kernel_rfl) (dw 0 (l' := [_, _, _, _, _, _, _, _, _, _, _, _, _, _, _, _, _, _, _, _, _, _, _, _, _, _, _, _, _, _, _, _, _, _]) (us := [_, _, _, _, _, _, _, _, _, _, _]) zH.f5 aX O O O (aH (aH (aH (aH (aH (aH (aH (aH (aH (aH (aH bP))))))))))) O O) ?_
    rintro _ w16 zB
    have D7 := V.kp (zB.f7.f7.f7.f7.f7.f7.f7)
    refine iD D7 (by kernel_rfl) ?_
    refine sK (aW (aA (jr O O (nZ O O (bK 13 ah O aT O (aO (fE 13 zB aT) ?_))))))
    rintro _ ZY Jo
    refine dQ O (bK 14 ah O aT O (aO (fE 14 Jo aT) ?_))
    rintro _ YE DT
    refine dQ O (bK 15 ah O aF O (aO (fE 15 DT aF) ?_))
    rintro _ w19 EO
    refine bD (mO (.inr O) results111 ?_)
    have W9 := EO.f3
    have QM := W9.vN
    exact ⟨_, _, _, _, _, QM.f5.f6.f3.f6.f6.f7.f7⟩
  ·skip
   refine kE 12 O (by kernel_rfl) (jX (xB .i64) H4) (kM O) ?_
   rintro _ w22 ⟨b22, rfl, Qe⟩
   have Oj := V.kp (Qe.f5.f5.f5.f5.f5)
   refine eU Oj (fun W hW => (Kp.h hW).right.f4.f4.f4.f4) ?_
   refine oV 9 O (jX (xB .i64) Qe) ?_
   rintro _ w23 ⟨b23, rfl, JA⟩
   have KC := V.kp (JA.f6.f6.f6.f6.f6.f6)
   refine eU KC (fun W hW => (Kp.h hW).right.f5.f5.f5.f5.f5) ?_
   refine jQ 10 O KC (fun _ => eX (zl := [.int .i64 0, .map none]) (pl := [(0, 1), (1, 1)]) [_, _] fK nN O (fun w => by kernel_rfl) O (.on (.on .nil)) O) ?_
   refine oV 11 O (jf (l := [_, _]) JA O O) ?_
   rintro _ w24 ⟨b24, rfl, Yi⟩
   have IK := V.kp (Yi.f7.f7.f7.f7.f7.f7.f7)
   refine eU IK (fun W hW => (Kp.h hW).right.f6.f6.f6.f6.f6.f6) ?_
   refine jQ 18 O IK (fun _ => eX (zl := [.pointer none, .pointer none, .pointer none, .map none, .int .i64 0, .bool false, .int .i64 0, .int .i64 0, .int .i64 0, .int .i64 0, .bool false]) (pl := [(0, 1), (1, 1), (2, 1), (3, 1), (4, 1), (5, 1), (6, 1), (7, 1), (8, 1), (9, 1), (10, 1)]) [_, _, _, _, _, _, _, _, _, _, _] aJ lU O (fun w => by kernel_rfl) O (.on (.on (.on (.on (.on (.zero (zs := [.bool false]) O (.zero (zs := [.int .i64 0]) O (.zero (zs := [.int .i64 0]) O (.zero (zs := [.int .i64 0]) O (.zero (zs := [.int .i64 0]) O (.zero (zs := [.bool false]) O .nil))))))))))) O) ?_
   refine kV 19 O IK O (iJ 20 O IK 0 ah O aX O ?_)
   refine gX 21 O (by kernel_rfl) (dw 0 (l' := [_, _, _, _, _, _, _, _, _, _, _, _, _, _, _, _, _, _, _, _, _, _, _, _, _, _, _, _, _, _, _, _, _, _]) (us := [_, _, _, _, _, _, _, _, _, _, _]) Yi.f5 aX O O O (aH (aH (aH (aH (aH (aH (aH (aH (aH (aH (aH bP))))))))))) O O) ?_
   rintro _ w25 Vb
   have Xf := V.kp (Vb.f7.f7.f7.f7.f7.f7.f7)
   refine iD Xf (by kernel_rfl) ?_
   refine sK (aW (aA (jr O O (nZ O O (bK 13 ah O aT O (aO (fE 13 Vb aT) ?_))))))
   rintro _ w26 Xg
   refine dQ O (bK 14 ah O aT O (aO (fE 14 Xg aT) ?_))
   rintro _ w27 OM
   refine dQ O (bK 15 ah O aF O (aO (fE 15 OM aF) ?_))
   rintro _ w28 H28
   refine bD (mO (.inr O) results111 ?_)
   have aa9 := H28.f4
   have abb := aa9.vN
   exact ⟨_, _, _, _, _, abb.f5.f6.f3.f6.f6.f7.f7⟩
 ·skip
  refine kE 9 O (by kernel_rfl) (jX (xB .i64) Y4) (kM O) ?_
  rintro _ w31 ⟨b31, rfl, Ug⟩
  have Xh := V.kp (Ug.f4.right.f4.f4.f4.f4)
  refine eU Xh (fun W hW => (Kp.h hW).right.f3.f3.f3) ?_
  refine yB (i := 8) (j := 12) (by kernel_rfl) ?_ ?_
  ·skip
   refine kE 8 O (by kernel_rfl) (sQ (um O func117 O O) (oW Ug.f4)) (kM O) ?_
   rintro _ w32 ⟨rfl, OO⟩
   have SN := V.kp (OO.f5.f5.f5.f5.f5)
   refine eU SN (fun W hW => (Kp.h hW).right.f4.f4.f4.f4) ?_
   refine jQ 10 O SN (fun _ => eX (zl := [.int .i64 0, .map none]) (pl := [(0, 1), (1, 1)]) [_, _] fK nN O (fun w => by kernel_rfl) O (.on (.on .nil)) O) ?_
   refine yB (i := 11) (j := 12) (by kernel_rfl) ?_ ?_
   ·skip
    refine kE 11 O (by kernel_rfl) (jf (l := [_, _]) OO O O) (kM O) ?_
    rintro _ w33 ⟨b33, rfl, Yj⟩
    have SQ := V.kp (Yj.f6.f6.f6.f6.f6.f6)
    refine eU SQ (fun W hW => (Kp.h hW).right.f5.f5.f5.f5.f5) ?_
    refine oV 12 O (jX (xB .i64) Yj) ?_
    rintro _ w34 ⟨b34, rfl, Xi⟩
    have KI := V.kp (Xi.f7.f7.f7.f7.f7.f7.f7)
    refine eU KI (fun W hW => (Kp.h hW).right.f6.f6.f6.f6.f6.f6) ?_
    refine jQ 18 O KI (fun _ => eX (zl := [.pointer none, .pointer none, .pointer none, .map none, .int .i64 0, .bool false, .int .i64 0, .int .i64 0, .int .i64 0, .int .i64 0, .bool false]) (pl := [(0, 1), (1, 1), (2, 1), (3, 1), (4, 1), (5, 1), (6, 1), (7, 1), (8, 1), (9, 1), (10, 1)]) [_, _, _, _, _, _, _, _, _, _, _] aJ lU O (fun w => by kernel_rfl) O (.on (.on (.on (.on (.on (.zero (zs := [.bool false]) O (.zero (zs := [.int .i64 0]) O (.zero (zs := [.int .i64 0]) O (.zero (zs := [.int .i64 0]) O (.zero (zs := [.int .i64 0]) O (.zero (zs := [.bool false]) O .nil))))))))))) O) ?_
    refine kV 19 O KI O (iJ 20 O KI 0 ah O aX O ?_)
    refine gX 21 O (by kernel_rfl) (dw 0 (l' := [_, _, _, _, _, _, _, _, _, _, _, _, _, _, _, _, _, _, _, _, _, _, _, _, _, _, _, _, _, _, _, _, _, _]) (us := [_, _, _, _, _, _, _, _, _, _, _]) Xi.f5 aX O O O (aH (aH (aH (aH (aH (aH (aH (aH (aH (aH (aH bP))))))))))) O O) ?_
    rintro _ w35 H35
    have Xj := V.kp (H35.f7.f7.f7.f7.f7.f7.f7)
    refine iD Xj (by kernel_rfl) ?_
    refine sK (aW (aA (jr O O (nZ O O (bK 13 ah O aT O (aO (fE 13 H35 aT) ?_))))))
    rintro _ w36 H36
    refine dQ O (bK 14 ah O aT O (aO (fE 14 H36 aT) ?_))
    rintro _ w37 H37
    refine dQ O (bK 15 ah O aF O (aO (fE 15 H37 aF) ?_))
    rintro _ w38 QS
    refine bD (mO (.inr O) results111 ?_)
    have ad7 := QS.f2
    have ad8 := ad7.vN
    exact ⟨_, _, _, _, _, ad8.f4.f6.f3.f6.f6.f7.f7⟩
   ·skip
    refine kE 12 O (by kernel_rfl) (jX (xB .i64) OO) (kM O) ?_
    rintro _ w41 ⟨b41, rfl, Y5⟩
    have Xk := V.kp (Y5.f6.f6.f6.f6.f6.f6)
    refine eU Xk (fun W hW => (Kp.h hW).right.f5.f5.f5.f5.f5) ?_
    refine oV 11 O (jf (l := [_, _]) Y5 O O) ?_
    rintro _ w42 ⟨b42, rfl, H42⟩
    have KJ := V.kp (H42.f7.f7.f7.f7.f7.f7.f7)
    refine eU KJ (fun W hW => (Kp.h hW).right.f6.f6.f6.f6.f6.f6) ?_
    refine jQ 18 O KJ (fun _ => eX (zl := [.pointer none, .pointer none, .pointer none, .map none, .int .i64 0, .bool false, .int .i64 0, .int .i64 0, .int .i64 0, .int .i64 0, .bool false]) (pl := [(0, 1), (1, 1), (2, 1), (3, 1), (4, 1), (5, 1), (6, 1), (7, 1), (8, 1), (9, 1), (10, 1)]) [_, _, _, _, _, _, _, _, _, _, _] aJ lU O (fun w => by kernel_rfl) O (.on (.on (.on (.on (.on (.zero (zs := [.bool false]) O (.zero (zs := [.int .i64 0]) O (.zero (zs := [.int .i64 0]) O (.zero (zs := [.int .i64 0]) O (.zero (zs := [.int .i64 0]) O (.zero (zs := [.bool false]) O .nil))))))))))) O) ?_
    refine kV 19 O KJ O (iJ 20 O KJ 0 ah O aX O ?_)
    refine gX 21 O (by kernel_rfl) (dw 0 (l' := [_, _, _, _, _, _, _, _, _, _, _, _, _, _, _, _, _, _, _, _, _, _, _, _, _, _, _, _, _, _, _, _, _, _]) (us := [_, _, _, _, _, _, _, _, _, _, _]) H42.f5 aX O O O (aH (aH (aH (aH (aH (aH (aH (aH (aH (aH (aH bP))))))))))) O O) ?_
    rintro _ w43 H43
    have Xl := V.kp (H43.f7.f7.f7.f7.f7.f7.f7)
    refine iD Xl (by kernel_rfl) ?_
    refine sK (aW (aA (jr O O (nZ O O (bK 13 ah O aT O (aO (fE 13 H43 aT) ?_))))))
    rintro _ w44 Z9
    refine dQ O (bK 14 ah O aT O (aO (fE 14 Z9 aT) ?_))
    rintro _ w45 PU
    refine dQ O (bK 15 ah O aF O (aO (fE 15 PU aF) ?_))
    rintro _ w46 H46
    refine bD (mO (.inr O) results111 ?_)
    have ad9 := H46.f3
    have aea := ad9.vN
    exact ⟨_, _, _, _, _, aea.f4.f6.f3.f6.f6.f7.f7⟩
  ·skip
   refine kE 12 O (by kernel_rfl) (jX (xB .i64) Ug) (kM O) ?_
   rintro _ w49 ⟨b49, rfl, H49⟩
   have acH := V.kp (H49.f5.right.f5.f5.f5.f5.f5)
   refine eU acH (fun W hW => (Kp.h hW).right.f4.f4.f4.f4) ?_
   refine oV 8 O (zx O func117 (oW H49.f5)) ?_
   rintro _ w50 ⟨rfl, H50⟩
   have aac := V.kp (H50.f6.f6.f6.f6.f6.f6)
   refine eU aac (fun W hW => (Kp.h hW).right.f5.f5.f5.f5.f5) ?_
   refine jQ 10 O aac (fun _ => eX (zl := [.int .i64 0, .map none]) (pl := [(0, 1), (1, 1)]) [_, _] fK nN O (fun w => by kernel_rfl) O (.on (.on .nil)) O) ?_
   refine oV 11 O (jf (l := [_, _]) H50 O O) ?_
   rintro _ w51 ⟨b51, rfl, H51⟩
   have SS := V.kp (H51.f7.f7.f7.f7.f7.f7.f7)
   refine eU SS (fun W hW => (Kp.h hW).right.f6.f6.f6.f6.f6.f6) ?_
   refine jQ 18 O SS (fun _ => eX (zl := [.pointer none, .pointer none, .pointer none, .map none, .int .i64 0, .bool false, .int .i64 0, .int .i64 0, .int .i64 0, .int .i64 0, .bool false]) (pl := [(0, 1), (1, 1), (2, 1), (3, 1), (4, 1), (5, 1), (6, 1), (7, 1), (8, 1), (9, 1), (10, 1)]) [_, _, _, _, _, _, _, _, _, _, _] aJ lU O (fun w => by kernel_rfl) O (.on (.on (.on (.on (.on (.zero (zs := [.bool false]) O (.zero (zs := [.int .i64 0]) O (.zero (zs := [.int .i64 0]) O (.zero (zs := [.int .i64 0]) O (.zero (zs := [.int .i64 0]) O (.zero (zs := [.bool false]) O .nil))))))))))) O) ?_
   refine kV 19 O SS O (iJ 20 O SS 0 ah O aX O ?_)
   refine gX 21 O (by kernel_rfl) (dw 0 (l' := [_, _, _, _, _, _, _, _, _, _, _, _, _, _, _, _, _, _, _, _, _, _, _, _, _, _, _, _, _, _, _, _, _, _]) (us := [_, _, _, _, _, _, _, _, _, _, _]) H51.f5 aX O O O (aH (aH (aH (aH (aH (aH (aH (aH (aH (aH (aH bP))))))))))) O O) ?_
   rintro _ w52 H52
   have acI := V.kp (H52.f7.f7.f7.f7.f7.f7.f7)
   refine iD acI (by kernel_rfl) ?_
   refine sK (aW (aA (jr O O (nZ O O (bK 13 ah O aT O (aO (fE 13 H52 aT) ?_))))))
   rintro _ w53 H53
   refine dQ O (bK 14 ah O aT O (aO (fE 14 H53 aT) ?_))
   rintro _ w54 H54
   refine dQ O (bK 15 ah O aF O (aO (fE 15 H54 aF) ?_))
   rintro _ w55 H55
   refine bD (mO (.inr O) results111 ?_)
   have aeb := H55.f4
   have aec := aeb.vN
   exact ⟨_, _, _, _, _, aec.f4.f6.f3.f6.f6.f7.f7⟩
 ·skip
  refine kE 12 O (by kernel_rfl) (jX (xB .i64) Y4) (kM O) ?_
  rintro _ w58 ⟨b58, rfl, Y6⟩
  have acJ := V.kp (Y6.f4.right.f4.f4.f4.f4)
  refine eU acJ (fun W hW => (Kp.h hW).right.f3.f3.f3) ?_
  refine yB (i := 8) (j := 9) (by kernel_rfl) ?_ ?_
  ·skip
   refine kE 8 O (by kernel_rfl) (sQ (um O func117 O O) (oW Y6.f4)) (kM O) ?_
   rintro _ w59 ⟨rfl, H59⟩
   have acK := V.kp (H59.f5.f5.f5.f5.f5)
   refine eU acK (fun W hW => (Kp.h hW).right.f4.f4.f4.f4) ?_
   refine oV 9 O (jX (xB .i64) H59) ?_
   rintro _ w60 ⟨b60, rfl, H60⟩
   have aad := V.kp (H60.f6.f6.f6.f6.f6.f6)
   refine eU aad (fun W hW => (Kp.h hW).right.f5.f5.f5.f5.f5) ?_
   refine jQ 10 O aad (fun _ => eX (zl := [.int .i64 0, .map none]) (pl := [(0, 1), (1, 1)]) [_, _] fK nN O (fun w => by kernel_rfl) O (.on (.on .nil)) O) ?_
   refine oV 11 O (jf (l := [_, _]) H60 O O) ?_
   rintro _ w61 ⟨b61, rfl, H61⟩
   have SV := V.kp (H61.f7.f7.f7.f7.f7.f7.f7)
   refine eU SV (fun W hW => (Kp.h hW).right.f6.f6.f6.f6.f6.f6) ?_
   refine jQ 18 O SV (fun _ => eX (zl := [.pointer none, .pointer none, .pointer none, .map none, .int .i64 0, .bool false, .int .i64 0, .int .i64 0, .int .i64 0, .int .i64 0, .bool false]) (pl := [(0, 1), (1, 1), (2, 1), (3, 1), (4, 1), (5, 1), (6, 1), (7, 1), (8, 1), (9, 1), (10, 1)]) [_, _, _, _, _, _, _, _, _, _, _] aJ lU O (fun w => by kernel_rfl) O (.on (.on (.on (.on (.on (.zero (zs := [.bool false]) O (.zero (zs := [.int .i64 0]) O (.zero (zs := [.int .i64 0]) O (.zero (zs := [.int .i64 0]) O (.zero (zs := [.int .i64 0]) O (.zero (zs := [.bool false]) O .nil))))))))))) O) ?_
   refine kV 19 O SV O (iJ 20 O SV 0 ah O aX O ?_)
   refine gX 21 O (by kernel_rfl) (dw 0 (l' := [_, _, _, _, _, _, _, _, _, _, _, _, _, _, _, _, _, _, _, _, _, _, _, _, _, _, _, _, _, _, _, _, _, _]) (us := [_, _, _, _, _, _, _, _, _, _, _]) H61.f5 aX O O O (aH (aH (aH (aH (aH (aH (aH (aH (aH (aH (aH bP))))))))))) O O) ?_
   rintro _ w62 H62
   have acL := V.kp (H62.f7.f7.f7.f7.f7.f7.f7)
   refine iD acL (by kernel_rfl) ?_
   refine sK (aW (aA (jr O O (nZ O O (bK 13 ah O aT O (aO (fE 13 H62 aT) ?_))))))
   rintro _ w63 H63
   refine dQ O (bK 14 ah O aT O (aO (fE 14 H63 aT) ?_))
   rintro _ w64 H64
   refine dQ O (bK 15 ah O aF O (aO (fE 15 H64 aF) ?_))
   rintro _ w65 H65
   refine bD (mO (.inr O) results111 ?_)
   have aed := H65.f5
   have aee := aed.vN
   exact ⟨_, _, _, _, _, aee.f5.f6.f3.f6.f6.f7.f7⟩
  ·skip
   refine kE 9 O (by kernel_rfl) (jX (xB .i64) Y6) (kM O) ?_
   rintro _ w68 ⟨b68, rfl, H68⟩
   have acM := V.kp (H68.f5.right.f5.f5.f5.f5.f5)
   refine eU acM (fun W hW => (Kp.h hW).right.f4.f4.f4.f4) ?_
   refine oV 8 O (zx O func117 (oW H68.f5)) ?_
   rintro _ w69 ⟨rfl, H69⟩
   have aae := V.kp (H69.f6.f6.f6.f6.f6.f6)
   refine eU aae (fun W hW => (Kp.h hW).right.f5.f5.f5.f5.f5) ?_
   refine jQ 10 O aae (fun _ => eX (zl := [.int .i64 0, .map none]) (pl := [(0, 1), (1, 1)]) [_, _] fK nN O (fun w => by kernel_rfl) O (.on (.on .nil)) O) ?_
   refine oV 11 O (jf (l := [_, _]) H69 O O) ?_
   rintro _ w70 ⟨b70, rfl, H70⟩
   have SX := V.kp (H70.f7.f7.f7.f7.f7.f7.f7)
   refine eU SX (fun W hW => (Kp.h hW).right.f6.f6.f6.f6.f6.f6) ?_
   refine jQ 18 O SX (fun _ => eX (zl := [.pointer none, .pointer none, .pointer none, .map none, .int .i64 0, .bool false, .int .i64 0, .int .i64 0, .int .i64 0, .int .i64 0, .bool false]) (pl := [(0, 1), (1, 1), (2, 1), (3, 1), (4, 1), (5, 1), (6, 1), (7, 1), (8, 1), (9, 1), (10, 1)]) [_, _, _, _, _, _, _, _, _, _, _] aJ lU O (fun w => by kernel_rfl) O (.on (.on (.on (.on (.on (.zero (zs := [.bool false]) O (.zero (zs := [.int .i64 0]) O (.zero (zs := [.int .i64 0]) O (.zero (zs := [.int .i64 0]) O (.zero (zs := [.int .i64 0]) O (.zero (zs := [.bool false]) O .nil))))))))))) O) ?_
   refine kV 19 O SX O (iJ 20 O SX 0 ah O aX O ?_)
   refine gX 21 O (by kernel_rfl) (dw 0 (l' := [_, _, _, _, _, _, _, _, _, _, _, _, _, _, _, _, _, _, _, _, _, _, _, _, _, _, _, _, _, _, _, _, _, _]) (us := [_, _, _, _, _, _, _, _, _, _, _]) H70.f5 aX O O O (aH (aH (aH (aH (aH (aH (aH (aH (aH (aH (aH bP))))))))))) O O) ?_
   rintro _ w71 H71
   have acN := V.kp (H71.f7.f7.f7.f7.f7.f7.f7)
   refine iD acN (by kernel_rfl) ?_
   refine sK (aW (aA (jr O O (nZ O O (bK 13 ah O aT O (aO (fE 13 H71 aT) ?_))))))
   rintro _ w72 H72
   refine dQ O (bK 14 ah O aT O (aO (fE 14 H72 aT) ?_))
   rintro _ w73 H73
   refine dQ O (bK 15 ah O aF O (aO (fE 15 H73 aF) ?_))
   rintro _ w74 H74
   refine bD (mO (.inr O) results111 ?_)
   have aef := H74.f5
   have aeg := aef.vN
   exact ⟨_, _, _, _, _, aeg.f4.f6.f3.f6.f6.f7.f7⟩
theorem V.Dp {c : mX} {u : List Value} (H : V w0 w F) (hu : (u.all fun x => x.oneCell') = true) : V w0 w (wG false c u • F) := by
  unfold wG
  rw [if_neg (by decide)]
  exact H.kR hu
theorem xK {inn : Bool} {c : mX} {u : List Value} (H : V w0 w (wG inn c u • F)) : (u.all fun x => x.oneCell') = true := by
  unfold wG at H
  cases inn with
  | true =>
    rw [if_pos rfl] at H
    obtain ⟨⟨pb, pr, pw, pt, pm⟩, H⟩ := H.lZ
    obtain ⟨h, _⟩ := H.flat.fact
    rw [h]; rfl
  | false =>
    rw [if_neg (by decide)] at H
    exact H.fact.1
theorem V.abd {pb pr pw pt pm : Nat} {c : mX} (H : V w0 w (jH pb c.L c.pt c.mark • jc pr c.E c.at_ • dS pw (.cells #[.int .i64 c.place, .map (some pt)] 122 (0, 0)) • gy rQ pt (tZ c.tx) • xR pm c.un • F)) : V w0 w (wG true c (Oq pb pr pw pm c) • F) := by
  unfold wG
  rw [if_pos rfl]
  exact V.iV (pb, pr, pw, pt, pm) (V.deep (V.kR rfl (H.of_eq (by unfold QC; simp only [dB]))))
theorem V.was {c : mX} {u : List Value} (H : V w0 w (wG true c u • F)) : ∃ pb pr pw pt pm, u = Oq pb pr pw pm c ∧ V w0 w (jH pb c.L c.pt c.mark • jc pr c.E c.at_ • dS pw (.cells #[.int .i64 c.place, .map (some pt)] 122 (0, 0)) • gy rQ pt (tZ c.tx) • xR pm c.un • F) := by
  unfold wG at H
  rw [if_pos rfl] at H
  obtain ⟨⟨pb, pr, pw, pt, pm⟩, H⟩ := H.lZ
  obtain ⟨h, H⟩ := H.flat.fact
  exact ⟨pb, pr, pw, pt, pm, h, H.of_eq (by unfold QC; simp only [dB])⟩
theorem V.IL {pb pr pw pt pm ph bl : Nat} {u0 u1 u2 u3 u4 u5 u6 u7 u8 u9 ua : Value} (h1 : mF s) (hp : s.put = []) (H : V w0 w (dS e (.cells (.pointer (some ⟨pb, 0, none⟩) :: .pointer (some ⟨pr, 0, none⟩) :: .pointer (some ⟨pw, 0, none⟩) :: .map (some pm) :: .int .i64 s.c.mode :: .bool s.c.over :: .int .i64 s.c.last :: .int .i64 s.c.fr :: .int .i64 s.c.to :: .int .i64 s.c.res :: .bool s.c.run :: .pointer (some ⟨ph, 0, none⟩) :: .pointer (some ⟨bl, 0, none⟩) :: .bool s.given :: .bool s.minus :: .int .i64 s.arg :: .bool s.inn :: u0 :: u1 :: u2 :: u3 :: u4 :: u5 :: u6 :: u7 :: u8 :: u9 :: ua :: .int .i64 s.cls :: .bool s.killed :: .bool s.lT :: .bool s.argues :: .bool s.whole :: .slice none 0 0 :: []).toArray 82 (0, 0)) • jH pb s.c.L s.c.pt s.c.mark • jc pr s.c.E s.c.at_ • dS pw (.cells #[.int .i64 s.c.place, .map (some pt)] 122 (0, 0)) • gy rQ pt (tZ s.c.tx) • xR pm s.c.un • iH ph s.hl s.base s.most • dS bl (.cells #[.int .i64 s.su] 161 (0, 0)) • wG s.inn s.was [u0, u1, u2, u3, u4, u5, u6, u7, u8, u9, ua] • F)) : V w0 w (iC e s • F) := by
  refine V.je (pb := pb) (pr := pr) (pw := pw) (pt := pt) (pm := pm) (ph := ph) (bl := bl) (u0 := u0) (u1 := u1) (u2 := u2) (u3 := u3) (u4 := u4) (u5 := u5) (u6 := u6) (u7 := u7) (u8 := u8) (u9 := u9) (ua := ua) (pv := .slice none 0 0) (es := []) h1 (by rw [hp]; rfl) ?_
  rw [hp]
  exact (H.tu none).of_eq (by unfold Kw; ac_rfl)
theorem V.QT {pb pr pw pt pm ph bl : Nat} {u0 u1 u2 u3 u4 u5 u6 u7 u8 u9 ua : Value} (h1 : mF s) (hp : s.put = []) (hi : s.inn = false) (H : V w0 w (dS e (.cells (.pointer (some ⟨pb, 0, none⟩) :: .pointer (some ⟨pr, 0, none⟩) :: .pointer (some ⟨pw, 0, none⟩) :: .map (some pm) :: .int .i64 s.c.mode :: .bool s.c.over :: .int .i64 s.c.last :: .int .i64 s.c.fr :: .int .i64 s.c.to :: .int .i64 s.c.res :: .bool s.c.run :: .pointer (some ⟨ph, 0, none⟩) :: .pointer (some ⟨bl, 0, none⟩) :: .bool s.given :: .bool s.minus :: .int .i64 s.arg :: .bool false :: u0 :: u1 :: u2 :: u3 :: u4 :: u5 :: u6 :: u7 :: u8 :: u9 :: ua :: .int .i64 s.cls :: .bool s.killed :: .bool s.lT :: .bool s.argues :: .bool s.whole :: .slice none 0 0 :: []).toArray 82 (0, 0)) • jH pb s.c.L s.c.pt s.c.mark • jc pr s.c.E s.c.at_ • dS pw (.cells #[.int .i64 s.c.place, .map (some pt)] 122 (0, 0)) • gy rQ pt (tZ s.c.tx) • xR pm s.c.un • iH ph s.hl s.base s.most • dS bl (.cells #[.int .i64 s.su] 161 (0, 0)) • F)) (hu : ([u0, u1, u2, u3, u4, u5, u6, u7, u8, u9, ua].all fun x => x.oneCell') = true := by rfl) : V w0 w (iC e s • F) := by
  refine V.IL (pb := pb) (pr := pr) (pw := pw) (pt := pt) (pm := pm) (ph := ph) (bl := bl) (u0 := u0) (u1 := u1) (u2 := u2) (u3 := u3) (u4 := u4) (u5 := u5) (u6 := u6) (u7 := u7) (u8 := u8) (u9 := u9) (ua := ua) h1 hp ?_
  rw [hi]
  exact (H.Dp (c := s.was) (u := [u0, u1, u2, u3, u4, u5, u6, u7, u8, u9, ua]) hu).of_eq (by ac_rfl)
theorem Xm : jd [] [] = 0 := rfl
theorem OQ (hl : List qQ) (l : List Int) (E : List (List Int)) (a : Nat) (m : Int) : QD hl (mX.fresh l E a hl.length m) := ⟨by simp [mX.fresh], by simp [mX.fresh], by simp [mX.fresh]⟩
theorem Md (hl : List qQ) (base most : Int) : mF (dN.new hl base most) :=
  ⟨OQ _ _ _ _ _, by simp [dN.new], by simp [dN.new], by simp [dN.new], by simp [dN.new, dN.here, mX.fresh, jd], by simp [dN.new, mX.fresh]⟩
theorem QU (H : V w0 w (iH h hl base most • F)) : ig prog 57 #[.pointer (some ⟨h, 0, none⟩)] w fun v w' => ∃ e, v = .tuple #[.pointer (some ⟨e, 0, none⟩), .int .i64 0] ∧ V w0 w' (iC e (dN.new hl base most) • iH h hl base most • F) := by
  refine iK func57 ntmps57 ?_
  refine gW (dL O (tX O (bM O (dX O func109 (tC H) ?_))))
  rintro _ w1 ⟨q1, rfl, H1⟩
  refine Z (jm kC O O) (iy (NC O (fun h1 => ?_)))
  (try simp only [aC] at h1)
  refine fG (gW (Z (eX (zl := [.int .i64 0]) (pl := [(0, 0), (0, 0), (0, 1)]) [_] underlying161 zeroValue161 O (fun w => by kernel_rfl) O (.zero (zs := []) O (.zero (zs := []) O (.zero (zs := [.int .i64 0]) O .nil))) O) (jL (jf (l := [_]) H1 O O) ?_)))
  rintro _ w2 ⟨b2, rfl, H2⟩
  refine Z (eX (zl := [.pointer none, .pointer none, .pointer none, .map none, .int .i64 0, .bool false, .int .i64 0, .int .i64 0, .int .i64 0, .int .i64 0, .bool false, .pointer none, .pointer none, .bool false, .bool false, .int .i64 0, .bool false, .pointer none, .pointer none, .pointer none, .map none, .int .i64 0, .bool false, .int .i64 0, .int .i64 0, .int .i64 0, .int .i64 0, .bool false, .int .i64 0, .bool false, .bool false, .bool false, .bool false, .slice none 0 0]) (pl := [(0, 11), (11, 1), (12, 1), (13, 1), (14, 1), (15, 1), (16, 1), (17, 11), (28, 1), (29, 1), (30, 1), (31, 1), (32, 1), (33, 1)]) [_, _, _, _, _, _, _, _, _, _, _, _, _, _, _, _, _, _, _, _, _, _, _, _, _, _, _, _, _, _, _, _, _, _] ah zeroValue82 O (fun w => by kernel_rfl) O (.zero (zs := [.pointer none, .pointer none, .pointer none, .map none, .int .i64 0, .bool false, .int .i64 0, .int .i64 0, .int .i64 0, .int .i64 0, .bool false]) O (.zero (zs := [.pointer none]) O (.on (.zero (zs := [.bool false]) O (.zero (zs := [.bool false]) O (.zero (zs := [.int .i64 0]) O (.zero (zs := [.bool false]) O (.zero (zs := [.pointer none, .pointer none, .pointer none, .map none, .int .i64 0, .bool false, .int .i64 0, .int .i64 0, .int .i64 0, .int .i64 0, .bool false]) O (.zero (zs := [.int .i64 0]) O (.zero (zs := [.bool false]) O (.zero (zs := [.bool false]) O (.zero (zs := [.bool false]) O (.zero (zs := [.bool false]) O (.zero (zs := [.slice none 0 0]) O .nil)))))))))))))) O) ?_
  refine jL (jf (l := [_, _, _, _, _, _, _, _, _, _, _, _, _, _, _, _, _, _, _, _, _, _, _, _, _, _, _, _, _, _, _, _, _, _]) H2 O O) ?_
  rintro _ w3 ⟨b3, rfl, H3⟩
  refine fV O (bM O (dX O func110 (LD H3) ?_))
  rintro _ w4 ⟨p4, rfl, H4⟩
  refine dQ O (bK 0 ah O aX O (bK 1 aJ O sizeOf73 O (aO (fE 1 H4.f2 sizeOf73) ?_)))
  rintro _ w5 H5
  refine sH O (bG O (dX O func111 (CS (E := []) (a := 0) H5.f4.right.f3.f3.f4.f4 (l := []) (fun W _ => dR.nil W _ none 0 (by decide)) (by decide)) ?_))
  rintro _ w6 ⟨qb, qw, qt, qm, qh, H6⟩
  refine sH O (dL O (dU O (Az results57 O O ?_)))
  exact ⟨_, O, V.QT (s := dN.new hl base most) (Md _ _ _) O O H6.f7.f9.f8.f8.f8.f8.f9.f9.f9⟩
end
section
variable {w0 w : World} {F : HP} {e p h pr : Nat} {s : dN} {hl : List qQ} {base most m : Int} {v : Value} {l : List Int}
theorem wU (h : s.inn = false) : s.kN = { s with inn := true, was := s.c, cls := 0, killed := false, lT := false, argues := false, whole := true, put := [] } := by unfold dN.kN; rw [if_neg (by simp [h])]
theorem IQ (h : s.inn = true) : s.kN = s := by unfold dN.kN; rw [if_pos h]
theorem SY {G : List (List jq)} {N : List jq} (h : jd G N ≤ 16384) : jd G [] ≤ 16384 := by unfold jd at *; simp at *; omega
theorem OT (h : mF s) (hi : s.inn = false) : mF s.kN := by
  rw [wU hi]
  obtain ⟨h1, h2, h3, h4, h5, h6⟩ := h
  exact ⟨h1, fun _ => ⟨h1, SY h5, h6⟩, h3, by simp, SY h5, h6⟩
theorem Eh (H : V w0 w (iC e s • F)) : ig prog 29 #[.pointer (some ⟨e, 0, none⟩)] w fun v w' => v = .int .i64 s.Dc ∧ V w0 w' (iC e s.kN • F) := by
 refine iK func29 ntmps29 ?_
 refine jy O (aK (aV (bM O (dX O func65 (qJ H) ?_))))
 rintro _ _ ⟨rfl, rfl⟩
 refine fV O (oD (aK ?_))
 obtain ⟨yI, yJ, yK, yL, yM, yN, yO, yP, wu, uF, uG, uH, uI, uJ, uK, uM, uN, uO, uP, uQ, iR, dM, lJ, jg⟩ := (H).Ik
 refine aA (nZ O O (bK 16 ah O aT O (gJ bW O (jg).get.2 O (fV O (bI O (fun h1 => ?_) (fun h1 => ?_))))))
 ·(try simp only [aC] at h1)
  have hin := h1
  refine jB O (aN (ay (dF results29 O ?_)))
  exact ⟨by unfold dN.Dc; rw [if_pos hin], by rw [IQ hin]; exact V.je iR dM jg.f11.f11.f11.f11.f11.f11.f11.f11.f11.f11.f11⟩
 ·(try simp only [aC] at h1)
  have hin := h1
  refine bY (aG (aW (bM O (jr O O (dQ O (bK 0 ah O aX O (Z (oP 0 (xs := [_, _, _, _, _, _, _, _, _, _, _]) aJ O aX O O (jg).get.2 O) (dX O func80 (Ox jg.f6.f6.f6.f6.f6) ?_))))))))
  rintro _ w3 ⟨qb3, qr3, qw3, qt3, qm3, rfl, H3⟩
  refine dQ O (bK 16 ah O aT O (aO (fE 16 H3.f11 aT) ?_))
  rintro _ w4 H4
  refine dQ O (bK 17 ah O aX O (aO (dw 17 (l' := [_, _, _, _, _, _, _, _, _, _, _, _, _, _, _, _, _, _, _, _, _, _, _, _, _, _, _, _, _, _, _, _, _, _]) (us := [_, _, _, _, _, _, _, _, _, _, _]) H4 aX O O O (aH (aH (aH (aH (aH (aH (aH (aH (aH (aH (aH bP))))))))))) O O) ?_))
  rintro _ w5 H5
  refine sH O (jr O O (jr O O (nZ O O (bK 28 ah O aF O (aO (fE 28 H5 aF) ?_)))))
  rintro _ w6 H6
  refine dQ O (bK 29 ah O aT O (aO (fE 29 H6 aT) ?_))
  rintro _ w7 H7
  refine dQ O (bK 30 ah O aT O (aO (fE 30 H7 aT) ?_))
  rintro _ w8 H8
  refine dQ O (bK 31 ah O aT O (aO (fE 31 H8 aT) ?_))
  rintro _ w9 H9
  refine dQ O (bK 32 ah O aT O (aO (fE 32 H9 aT) ?_))
  rintro _ w10 rD
  refine dQ O (bK 33 ah O bV O (aO (fE 33 rD bV) ?_))
  rintro _ ED rM
  refine iy (jB O (dF results29 O ?_))
  have QK := rM.f6.f6.f6.f6.f6
  have QL := V.abd (c := s.c) QK
  exact ⟨by unfold dN.Dc; rw [if_neg (by simp [hin])], by rw [wU hin]; exact V.IL (wU hin ▸ OT iR hin) O QL.f10.right.f10.right.f10.right.f9.f9.f9.f9.f9.f9.f9.f9⟩
end
section
variable {w0 w : World} {F : HP} {e p h pr : Nat} {s : dN} {x : Int} {b : Bool}
theorem KL (h : mF s) (L : List Int) (pt mk : Int) : mF (s.zM L pt mk) := h
theorem FM (H : V w0 w (iC e s • F)) : ig prog 30 #[.pointer (some ⟨e, 0, none⟩), .int .i64 x] w fun v w' => v = .int .i64 (s.KA x) ∧ V w0 w' (iC e (s.FI x) • F) := by
 refine nC func30 ntmps30 ?_
 refine jy O (aK (bM O (dX O func81 (vM H) ?_)))
 rintro _ _ ⟨rfl, rfl⟩
 refine fV O (bM O (Z (jv O O) (gQ O (fun h1 => ?_) (fun h1 => ?_))))
 ·(try simp only [aC] at h1)
  obtain ⟨hin, hpe⟩ := SL h1
  refine bM O (dU O (ay (dF results30 O ?_)))
  rw [hpe]
  exact ⟨by simp [dN.KA, dN.FI, hin], by rw [show s.FI x = s from by simp [dN.KA, dN.FI, hin]]; exact H⟩
 ·(try simp only [aC] at h1)
  have hin := OJ h1
  refine fG (aK ?_)
  obtain ⟨yI, yJ, yK, yL, yM, yN, yO, yP, wu, uF, uG, uH, uI, uJ, uK, uM, uN, uO, uP, uQ, iR, dM, lJ, jg⟩ := (H).Ik
  refine aA (nZ O O (bK 0 ah O aX O (bK 0 aJ O wS O (gJ rE O (jg).get.2 O (bG O (dX O func82 (Lu jg.f2) ?_))))))
  rintro _ w3 ⟨rfl, H3⟩
  refine dU O (dF results30 O ?_)
  exact ⟨by simp [dN.KA, hin], by rw [show s.FI x = s.zM s.c.L (mvP s.c.L.length s.c.pt x) s.c.mark from by simp [dN.FI, hin]]; exact V.je (KL iR _ _ _) dM H3.f11.f11.f11.f11.f11.f11.f11.f11.f11.f10.f11⟩
theorem OU (H : V w0 w (iC e s • F)) : ig prog 62 #[.pointer (some ⟨e, 0, none⟩), .int .i64 x] w fun v w' => v = .int .i64 (s.tH x) ∧ V w0 w' (iC e (s.zf x) • F) := by
 refine nC func62 ntmps62 ?_
 refine jy O (aK (bM O (dX O func81 (vM H) ?_)))
 rintro _ _ ⟨rfl, rfl⟩
 refine fV O (bM O (Z (jv O O) (gQ O (fun h1 => ?_) (fun h1 => ?_))))
 ·(try simp only [aC] at h1)
  obtain ⟨hin, hpe⟩ := SL h1
  refine bM O (dU O (ay (dF results62 O ?_)))
  rw [hpe]
  exact ⟨by simp [dN.tH, dN.zf, hin], by rw [show s.zf x = s from by simp [dN.tH, dN.zf, hin]]; exact H⟩
 ·(try simp only [aC] at h1)
  have hin := OJ h1
  refine fG (aK (bM O (Z (fF O O) (iZ O (fun h2 => ?_) (fun h2 => ?_)))))
  ·(try simp only [aC] at h2)
   refine bn (bn (iM O O (iy (DC (jB O (ay (dF results62 O ?_)))))))
   have hd : s.tH x = 1 := by unfold dN.tH; rw [if_pos hin, if_pos (by omega)]
   exact ⟨by rw [hd], by unfold dN.zf; rw [hd, if_neg (by decide)]; exact H⟩
  ·(try simp only [aC] at h2)
   refine bg (bG O (bg (Z (iw O O) (gI O O (gQ O (fun h3 => ?_) (fun h3 => ?_))))))
   ·(try simp only [aC] at h3)
    refine jB O (ay (dF results62 O ?_))
    have hd : s.tH x = 1 := by unfold dN.tH; rw [if_pos hin, if_pos (by omega)]
    exact ⟨by rw [hd], by unfold dN.zf; rw [hd, if_neg (by decide)]; exact H⟩
   ·(try simp only [aC] at h3)
    refine fG (aK ?_)
    have hd : s.tH x = 0 := by unfold dN.tH; rw [if_pos hin, if_neg (by omega)]
    obtain ⟨yI, yJ, yK, yL, yM, yN, yO, yP, wu, uF, uG, uH, uI, uJ, uK, uM, uN, uO, uP, uQ, iR, dM, lJ, jg⟩ := (H).Ik
    refine aA (jr O O (dQ O (bK 0 ah O aX O (bK 4 aJ O aF O (aO (fE 4 jg aF) ?_)))))
    rintro _ w3 H3
    refine iy (jB O (dF results62 O ?_))
    rw [hd]
    refine ⟨O, ?_⟩
    unfold dN.zf
    rw [if_pos hd]
    exact V.je (s := { s with c := { s.c with mode := x } }) iR dM H3.f11.f11.f11.f11.f11.f11.f11.f11.f11.f11.f11
theorem MB (H : V w0 w (iC e s • F)) : ig prog 72 #[.pointer (some ⟨e, 0, none⟩)] w fun v w' => v = .int .i64 s.count ∧ V w0 w' (iC e s • F) := by
 refine iK func72 ntmps72 ?_
 refine jy O (aK (aV (bM O (dX O func65 (qJ H) ?_))))
 rintro _ _ ⟨rfl, rfl⟩
 refine fV O (oD (aK ?_))
 obtain ⟨yI, yJ, yK, yL, yM, yN, yO, yP, wu, uF, uG, uH, uI, uJ, uK, uM, uN, uO, uP, uQ, iR, dM, lJ, jg⟩ := (H).Ik
 have harg := iR.2.2.1
 refine aA (nZ O O (bK 13 ah O aT O (gJ bW O (jg).get.2 O (Z (mD O) (fV O (bI O (fun h1 => ?_) (fun h1 => ?_)))))))
 ·(try simp only [aC] at h1)
  have hg := h1
  refine jB O (aN (ay (dF results72 O ?_)))
  have Qk := jg.f11.f11.f11.f11.f11.f11.f11.f11.f11.f11.f11
  have PN := V.je (s := s) iR dM Qk
  exact ⟨by unfold dN.count; simp only [*]; first | rfl | (split <;> simp_all <;> omega) | simp_all, PN⟩
 ·(try simp only [aC] at h1)
  have hg := h1
  refine bY (aG (aW (bM O (dQ O (bK 15 ah O aF O (gJ aP O (jg).get.2 O (tX O (bM O (Z (fF O O) (gQ O (fun h2 => ?_) (fun h2 => ?_)))))))))))
  ·(try simp only [aC] at h2)
   refine aA (tX O (bM O (dQ O (bK 14 ah O aT O (gJ bW O (jg).get.2 O (gQ O (fun h3 => ?_) (fun h3 => ?_)))))))
   ·(try simp only [aC] at h3)
    refine bM O (Z (ZA O (by omega)) (dU O (ay (dF results72 O ?_))))
    have VX := jg.f11.f11.f11.f11.f11.f11.f11.f11.f11.f11.f11
    have VY := V.je (s := s) iR dM VX
    exact ⟨by unfold dN.count; simp only [*]; first | rfl | (split <;> simp_all <;> omega) | simp_all, VY⟩
   ·(try simp only [aC] at h3)
    refine fG (bM O (dU O (dF results72 O ?_)))
    have V5 := jg.f11.f11.f11.f11.f11.f11.f11.f11.f11.f11.f11
    have V6 := V.je (s := s) iR dM V5
    exact ⟨by unfold dN.count; simp only [*]; first | rfl | (split <;> simp_all <;> omega) | simp_all, V6⟩
  ·(try simp only [aC] at h2)
   refine fG (aK (bM O (dQ O (bK 14 ah O aT O (gJ bW O (jg).get.2 O (gQ O (fun h4 => ?_) (fun h4 => ?_)))))))
   ·(try simp only [aC] at h4)
    refine bM O (Z (ZA O (by omega)) (dU O (ay (dF results72 O ?_))))
    have abe := jg.f11.f11.f11.f11.f11.f11.f11.f11.f11.f11.f11
    have abf := V.je (s := s) iR dM abe
    exact ⟨by unfold dN.count; simp only [*]; first | rfl | (split <;> simp_all <;> omega) | simp_all, abf⟩
   ·(try simp only [aC] at h4)
    refine fG (bM O (dU O (dF results72 O ?_)))
    have aeh := jg.f11.f11.f11.f11.f11.f11.f11.f11.f11.f11.f11
    have aei := V.je (s := s) iR dM aeh
    exact ⟨by unfold dN.count; simp only [*]; first | rfl | (split <;> simp_all <;> omega) | simp_all, aei⟩
theorem MC (H : V w0 w (iC e s • F)) : ig prog 73 #[.pointer (some ⟨e, 0, none⟩)] w fun v w' => v = .bool s.given ∧ V w0 w' (iC e s • F) := by
  refine iK func73 ntmps73 ?_
  refine jy O (bM O (dX O func65 (qJ H) ?_))
  rintro _ _ ⟨rfl, rfl⟩
  refine Z (mD O) ?_
  obtain ⟨yI, yJ, yK, yL, yM, yN, yO, yP, wu, uF, uG, uH, uI, uJ, uK, uM, uN, uO, uP, uQ, iR, dM, lJ, jg⟩ := (H).Ik
  refine xsE O (fun h1 => ?_)
  (try simp only [aC] at h1)
  refine bg (bG O (bg (dQ O (bg (bK 13 ah O aT O (bg (gJ bW O (jg).get.2 O (iM O O (dU O (dF results73 O ?_))))))))))
  have Qk := jg.f11.f11.f11.f11.f11.f11.f11.f11.f11.f11.f11
  have PN := V.je (s := s) iR dM Qk
  exact ⟨O, PN⟩
theorem Bh (H : V w0 w (iC e s • F)) : ig prog 28 #[.pointer (some ⟨e, 0, none⟩)] w fun v w' => ∃ u, v = .agg (uq u s.c.pt s.c.mark) ∧ V w0 w' (lD 21 .i32 u s.c.L • iC e s • F) := by
 refine iK func28 ntmps28 ?_
 refine gW (jL (gK (l := [_, _, _]) H zeroValue46 O) ?_)
 rintro _ w1 ⟨b1, rfl, H1⟩
 refine qW (bM O (dX O func65 (qJ H1.f2) ?_))
 rintro _ _ ⟨rfl, rfl⟩
 refine iy (oD (fG (aK ?_)))
 obtain ⟨yI, yJ, yK, yL, yM, yN, yO, yP, wu, uF, uG, uH, uI, uJ, uK, uM, uN, uO, uP, uQ, iR, dM, lJ, jg⟩ := (H1.f2).Ik
 refine aA (nZ O O (bK 0 ah O aX O (bK 0 aJ O wS O (gJ rE O (jg).get.2 O (dX O func79 (DW jg.f2) ?_)))))
 rintro _ w4 ⟨u4, rfl, H4⟩
 refine aO (dw 0 (l' := [_, _, _]) (us := [_, _, _]) H4.f13 sizeOf46 O O O (bf (by first | rfl | exact Rd.one ((H4).aY)) (aH (aH bP))) O O) ?_
 rintro _ w5 H5
 refine ZH ?_
 refine qY (.inl O) (Lh results28 O jR O (by rw [Vu]; rfl) (H5).get.2) ?_
 have VX := H5.f13.f13.f13.f13.f13.f13.f13.f13.f13.f12.f13
 have VY := V.je (s := s) iR dM VX
 exact ⟨_, O, VY.f2.right.f2⟩
end
end Go.Proofs.YtpdeedplgmbopaaGreatDoor
end
section
namespace Go.Proofs.YtpdeedplgmbopaaGreatDoor
open Go.RowKit
theorem Xn {s : dN} {x : jq} (h : x.2.1.length + x.2.2.length = 0) : s.Sl x = s := by unfold dN.Sl; rw [if_pos h]
theorem pz (G : List (List jq)) (N : List jq) : jd G N = jd G [] + N.length := by unfold jd; simp
section
variable {w0 w : World} {F : HP} {e p h pr : Nat} {s : dN} {i j x : Int} {b : Bool} {v : Value} {l : List Int}
end
section
variable {w0 w : World} {F : HP} {e p h pr : Nat} {s : dN} {i j x : Int} {back : Bool} {v : Value} {l : List Int}
theorem Xo {E : List (List Int)} (h : ∀ x ∈ E, x.length ≤ 1024) (k : Nat) : (E.getD k []).length ≤ 1024 := by
  rw [List.getD_eq_getElem?_getD]
  cases hk : E[k]? with
  | none => simp
  | some x => exact h x (List.mem_of_getElem? hk)
end
end Go.Proofs.YtpdeedplgmbopaaGreatDoor
end
