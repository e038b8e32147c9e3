import Derived.Test.YtpdeedplgmbopaaGreatDoorZ4
import Derived.Test.YtpdeedplgmbopaaGreatDoorZ10
import Derived.Test.YtpdeedplgmbopaaGreatDoorZ3
import Derived.Test.YtpdeedplgmbopaaGreatDoorZ9
import Derived.Test.YtpdeedplgmbopaaGreatDoorZ5
import Derived.Test.YtpdeedplgmbopaaGreatDoorZ2
set_option linter.unusedSimpArgs false
set_option linter.unusedVariables false
/- Texts of mine, joined, their names in short: EdB EdC EdSt EKillM MapI RefTab VW VW2. -/
section
namespace Go.Proofs.YtpdeedplgmbopaaGreatDoor
open Go.RowKit
open _root_.Go.Proofs.Tryz
section
variable {w0 w : World} {F : HP} {e p h pr : Nat} {s : bC} {hl : List qN} {base most m : Int} {v : Value} {l : List Int}
theorem V.xB {b : Nat} (H : V w0 w (gX tK b (fun _ => none) • F)) : V w0 w (yF b (fun _ => []) • F) :=
  V.Eh (D := []) (P := fun _ => 0) List.nodup_nil (fun _ _ => rfl) (by rw [VF]; exact H.of_eq (by show _ = (_ • emp • _); rw [YtpdeedplgmbopaaGreatDoor.pz]))
set_option maxHeartbeats 1000000 in
theorem ET {x0 x2 x3 x5 x6 x7 x8 x9 x10 x11 x12 xY x14 x15 x16 x17 x18 x19 x20 x21 yT x23 x24 x25 zf x27 x28 x29 x30 x31 x32 zO : Value} {E : List (List Int)} {a : Nat} (H : V w0 w (dW e (.cells (x0 :: .pointer (some ⟨pr, 0, none⟩) :: x2 :: x3 :: .int .i64 m :: x5 :: x6 :: x7 :: x8 :: x9 :: x10 :: x11 :: x12 :: xY :: x14 :: x15 :: x16 :: x17 :: x18 :: x19 :: x20 :: x21 :: yT :: x23 :: x24 :: x25 :: zf :: x27 :: x28 :: x29 :: x30 :: x31 :: x32 :: zO :: []).toArray 82 (0, 0)) • iT h hl base most • F)) (hr : jE w0 F .i32 v l) (hshort : l.length ≤ 1024) :
  iI prog 111 #[.pointer (some ⟨e, 0, none⟩), .pointer (some ⟨h, 0, none⟩), v] w fun _ w' => ∃ pb pw pt pm ph, V w0 w' (dW e (.cells (.pointer (some ⟨pb, 0, none⟩) :: .pointer (some ⟨pr, 0, none⟩) :: .pointer (some ⟨pw, 0, none⟩) :: .map (some pm) :: .int .i64 m :: .bool false :: .int .i64 0 :: .int .i64 0 :: .int .i64 0 :: .int .i64 0 :: .bool false :: .pointer (some ⟨ph, 0, none⟩) :: x12 :: .bool false :: .bool false :: .int .i64 (-1) :: x16 :: x17 :: x18 :: x19 :: x20 :: x21 :: yT :: x23 :: x24 :: x25 :: zf :: x27 :: x28 :: x29 :: x30 :: x31 :: x32 :: zO :: []).toArray 82 (0, 0)) •
   iQ pb l l.length (-1) • dW pw (.cells #[.int .i64 hl.length, .map (some pt)] 122 (0, 0)) • gX tK pt (fun _ => none) • yF pm (fun _ => []) • iT ph hl base most • iT h hl base most • F) := by
 refine AB func111 ntmps111 ?_
 refine bT O (dS O func151 (Qo H (fun W HW => hr _ (HW.right.right)) hshort) ?_)
 rintro _ w1 ⟨p1, rfl, H1⟩
 refine bP O (uf O O (uf O O (iJ O (fP O (bT O (bP O (dS O func109 (vP H1.f3) ?_)))))))
 rintro _ w2 ⟨q2, rfl, H2⟩
 refine dL O (bJ 11 ah O sizeOf78 O (aI (eU 11 H2.f4 sizeOf78) ?_))
 rintro _ w3 H3
 refine qR ?_
 have aaZ := H3.drew
 have zV := V.kp (aaZ.f3.right.f3.f3.f3)
 refine y9 [6, 17] zV O (iU 0 O zV O (iU 1 O zV O (iU 2 O zV O (jY 3 O zV O (iq 4 O zV 0 ah O aU O (iq 5 O zV 1 aJ O sizeOf73 O (jQ 6 O zV (fun W hW => kF tu O ((Kp.h hW)).get.2 O) (iU 7 O zV O (iU 13 O zV O (jY 14 O zV O (iq 15 O zV 0 ah O aU O (iq 16 O zV 4 aJ O ay O (jQ 17 O zV (fun W hW => kF aH O ((Kp.h hW)).get.2 O) ?_)))))))))))))
 refine Yg (i := 8) (j := 9) (k := 12) (by kernel_rfl) ?_ ?_ ?_
 ·skip
  refine kS 8 O (by kernel_rfl) (qQ (rE O func117 O O) (qy aaZ.f3)) (kY O) ?_
  rintro _ w4 ⟨rfl, H4⟩
  have Ai := V.kp (H4.f4.f4.f4.f4)
  refine eG Ai (fun W hW => (Kp.h hW).right.f3.f3.f3) ?_
  refine Ac (i := 9) (j := 12) (by kernel_rfl) ?_ ?_
  ·skip
   refine kS 9 O (by kernel_rfl) (kP (zo .i64) H4) (kY O) ?_
   rintro _ w5 ⟨b5, rfl, H5⟩
   have Fj := V.kp (H5.f5.f5.f5.f5.f5)
   refine eG Fj (fun W hW => (Kp.h hW).right.f4.f4.f4.f4) ?_
   refine jB 10 O Fj (fun _ => eP (zl := [.int .i64 0, .map none]) (pl := [(0, 1), (1, 1)]) [_, _] gq oP O (fun w => by kernel_rfl) O (.on (.on .nil)) O) ?_
   refine Ac (i := 11) (j := 12) (by kernel_rfl) ?_ ?_
   ·skip
    refine kS 11 O (by kernel_rfl) (jH (l := [_, _]) H5 O O) (kY O) ?_
    rintro _ w6 ⟨b6, rfl, H6⟩
    have FC := V.kp (H6.f6.f6.f6.f6.f6.f6)
    refine eG FC (fun W hW => (Kp.h hW).right.f5.f5.f5.f5.f5) ?_
    refine nD 12 O (kP (zo .i64) H6) ?_
    rintro _ w7 ⟨b7, rfl, H7⟩
    have Dt := V.kp (H7.f7.f7.f7.f7.f7.f7.f7)
    refine eG Dt (fun W hW => (Kp.h hW).right.f6.f6.f6.f6.f6.f6) ?_
    refine jB 18 O Dt (fun _ => eP (zl := [.pointer none, .pointer none, .pointer none, .map none, .int .i64 0, .bool false, .int .i64 0, .int .i64 0, .int .i64 0, .int .i64 0, .bool false]) (pl := [(0, 1), (1, 1), (2, 1), (3, 1), (4, 1), (5, 1), (6, 1), (7, 1), (8, 1), (9, 1), (10, 1)]) [_, _, _, _, _, _, _, _, _, _, _] aJ nC O (fun w => by kernel_rfl) O (.on (.on (.on (.on (.on (.zero (zs := [.bool false]) O (.zero (zs := [.int .i64 0]) O (.zero (zs := [.int .i64 0]) O (.zero (zs := [.int .i64 0]) O (.zero (zs := [.int .i64 0]) O (.zero (zs := [.bool false]) O .nil))))))))))) O) ?_
    refine jY 19 O Dt O (iq 20 O Dt 0 ah O aU O ?_)
    refine gy 21 O (by kernel_rfl) (dw 0 (l' := [_, _, _, _, _, _, _, _, _, _, _, _, _, _, _, _, _, _, _, _, _, _, _, _, _, _, _, _, _, _, _, _, _, _]) (us := [_, _, _, _, _, _, _, _, _, _, _]) H7.f5 aU O O O (aG (aG (aG (aG (aG (aG (aG (aG (aG (aG (aG bQ))))))))))) O O) ?_
    rintro _ w8 H8
    have TQ := V.kp (H8.f7.f7.f7.f7.f7.f7.f7)
    refine gU TQ (by kernel_rfl) ?_
    refine ru (aW (aC (jO O O (nK O O (bJ 13 ah O aP O (aI (eU 13 H8 aP) ?_))))))
    rintro _ w9 H9
    refine dL O (bJ 14 ah O aP O (aI (eU 14 H9 aP) ?_))
    rintro _ w10 pW
    refine dL O (bJ 15 ah O ay O (aI (eU 15 pW ay) ?_))
    rintro _ FX sW
    refine bY (lK (.inr O) results111 ?_)
    have Ph := sW.f2
    have Pj := Ph.xB
    exact ⟨_, _, _, _, _, Pj.f5.f6.f3.f6.f6.f7.f7⟩
   ·skip
    refine kS 12 O (by kernel_rfl) (kP (zo .i64) H5) (kY O) ?_
    rintro _ P6 ⟨b14, rfl, Az⟩
    have Gn := V.kp (Az.f6.f6.f6.f6.f6.f6)
    refine eG Gn (fun W hW => (Kp.h hW).right.f5.f5.f5.f5.f5) ?_
    refine nD 11 O (jH (l := [_, _]) Az O O) ?_
    rintro _ Qu ⟨b15, rfl, zI⟩
    have yg := V.kp (zI.f7.f7.f7.f7.f7.f7.f7)
    refine eG yg (fun W hW => (Kp.h hW).right.f6.f6.f6.f6.f6.f6) ?_
    refine jB 18 O yg (fun _ => eP (zl := [.pointer none, .pointer none, .pointer none, .map none, .int .i64 0, .bool false, .int .i64 0, .int .i64 0, .int .i64 0, .int .i64 0, .bool false]) (pl := [(0, 1), (1, 1), (2, 1), (3, 1), (4, 1), (5, 1), (6, 1), (7, 1), (8, 1), (9, 1), (10, 1)]) [_, _, _, _, _, _, _, _, _, _, _] aJ nC O (fun w => by kernel_rfl) O (.on (.on (.on (.on (.on (.zero (zs := [.bool false]) O (.zero (zs := [.int .i64 0]) O (.zero (zs := [.int .i64 0]) O (.zero (zs := [.int .i64 0]) O (.zero (zs := [.int .i64 0]) O (.zero (zs := [.bool false]) O .nil))))))))))) O) ?_
    refine jY 19 O yg O (iq 20 O yg 0 ah O aU O ?_)
    refine gy 21 O (by kernel_rfl) (dw 0 (l' := [_, _, _, _, _, _, _, _, _, _, _, _, _, _, _, _, _, _, _, _, _, _, _, _, _, _, _, _, _, _, _, _, _, _]) (us := [_, _, _, _, _, _, _, _, _, _, _]) zI.f5 aU O O O (aG (aG (aG (aG (aG (aG (aG (aG (aG (aG (aG bQ))))))))))) O O) ?_
    rintro _ w16 uY
    have Dx := V.kp (uY.f7.f7.f7.f7.f7.f7.f7)
    refine gU Dx (by kernel_rfl) ?_
    refine ru (aW (aC (jO O O (nK O O (bJ 13 ah O aP O (aI (eU 13 uY aP) ?_))))))
    rintro _ Yr EH
    refine dL O (bJ 14 ah O aP O (aI (eU 14 EH aP) ?_))
    rintro _ Ym Eb
    refine dL O (bJ 15 ah O ay O (aI (eU 15 Eb ay) ?_))
    rintro _ w19 Dl
    refine bY (lK (.inr O) results111 ?_)
    have Y6 := Dl.f3
    have Ul := Y6.xB
    exact ⟨_, _, _, _, _, Ul.f5.f6.f3.f6.f6.f7.f7⟩
  ·skip
   refine kS 12 O (by kernel_rfl) (kP (zo .i64) H4) (kY O) ?_
   rintro _ w22 ⟨b22, rfl, Gg⟩
   have CJ := V.kp (Gg.f5.f5.f5.f5.f5)
   refine eG CJ (fun W hW => (Kp.h hW).right.f4.f4.f4.f4) ?_
   refine nD 9 O (kP (zo .i64) Gg) ?_
   rintro _ w23 ⟨b23, rfl, Ce⟩
   have yj := V.kp (Ce.f6.f6.f6.f6.f6.f6)
   refine eG yj (fun W hW => (Kp.h hW).right.f5.f5.f5.f5.f5) ?_
   refine jB 10 O yj (fun _ => eP (zl := [.int .i64 0, .map none]) (pl := [(0, 1), (1, 1)]) [_, _] gq oP O (fun w => by kernel_rfl) O (.on (.on .nil)) O) ?_
   refine nD 11 O (jH (l := [_, _]) Ce O O) ?_
   rintro _ w24 ⟨b24, rfl, JY⟩
   have DK := V.kp (JY.f7.f7.f7.f7.f7.f7.f7)
   refine eG DK (fun W hW => (Kp.h hW).right.f6.f6.f6.f6.f6.f6) ?_
   refine jB 18 O DK (fun _ => eP (zl := [.pointer none, .pointer none, .pointer none, .map none, .int .i64 0, .bool false, .int .i64 0, .int .i64 0, .int .i64 0, .int .i64 0, .bool false]) (pl := [(0, 1), (1, 1), (2, 1), (3, 1), (4, 1), (5, 1), (6, 1), (7, 1), (8, 1), (9, 1), (10, 1)]) [_, _, _, _, _, _, _, _, _, _, _] aJ nC O (fun w => by kernel_rfl) O (.on (.on (.on (.on (.on (.zero (zs := [.bool false]) O (.zero (zs := [.int .i64 0]) O (.zero (zs := [.int .i64 0]) O (.zero (zs := [.int .i64 0]) O (.zero (zs := [.int .i64 0]) O (.zero (zs := [.bool false]) O .nil))))))))))) O) ?_
   refine jY 19 O DK O (iq 20 O DK 0 ah O aU O ?_)
   refine gy 21 O (by kernel_rfl) (dw 0 (l' := [_, _, _, _, _, _, _, _, _, _, _, _, _, _, _, _, _, _, _, _, _, _, _, _, _, _, _, _, _, _, _, _, _, _]) (us := [_, _, _, _, _, _, _, _, _, _, _]) JY.f5 aU O O O (aG (aG (aG (aG (aG (aG (aG (aG (aG (aG (aG bQ))))))))))) O O) ?_
   rintro _ w25 TJ
   have Y7 := V.kp (TJ.f7.f7.f7.f7.f7.f7.f7)
   refine gU Y7 (by kernel_rfl) ?_
   refine ru (aW (aC (jO O O (nK O O (bJ 13 ah O aP O (aI (eU 13 TJ aP) ?_))))))
   rintro _ w26 Vo
   refine dL O (bJ 14 ah O aP O (aI (eU 14 Vo aP) ?_))
   rintro _ w27 IW
   refine dL O (bJ 15 ah O ay O (aI (eU 15 IW ay) ?_))
   rintro _ w28 H28
   refine bY (lK (.inr O) results111 ?_)
   have acM := H28.f4
   have acN := acM.xB
   exact ⟨_, _, _, _, _, acN.f5.f6.f3.f6.f6.f7.f7⟩
 ·skip
  refine kS 9 O (by kernel_rfl) (kP (zo .i64) aaZ) (kY O) ?_
  rintro _ w31 ⟨b31, rfl, SV⟩
  have Y8 := V.kp (SV.f4.right.f4.f4.f4.f4)
  refine eG Y8 (fun W hW => (Kp.h hW).right.f3.f3.f3) ?_
  refine Ac (i := 8) (j := 12) (by kernel_rfl) ?_ ?_
  ·skip
   refine kS 8 O (by kernel_rfl) (qQ (rE O func117 O O) (qy SV.f4)) (kY O) ?_
   rintro _ w32 ⟨rfl, NH⟩
   have VH := V.kp (NH.f5.f5.f5.f5.f5)
   refine eG VH (fun W hW => (Kp.h hW).right.f4.f4.f4.f4) ?_
   refine jB 10 O VH (fun _ => eP (zl := [.int .i64 0, .map none]) (pl := [(0, 1), (1, 1)]) [_, _] gq oP O (fun w => by kernel_rfl) O (.on (.on .nil)) O) ?_
   refine Ac (i := 11) (j := 12) (by kernel_rfl) ?_ ?_
   ·skip
    refine kS 11 O (by kernel_rfl) (jH (l := [_, _]) NH O O) (kY O) ?_
    rintro _ w33 ⟨b33, rfl, WI⟩
    have VI := V.kp (WI.f6.f6.f6.f6.f6.f6)
    refine eG VI (fun W hW => (Kp.h hW).right.f5.f5.f5.f5.f5) ?_
    refine nD 12 O (kP (zo .i64) WI) ?_
    rintro _ w34 ⟨b34, rfl, Y9⟩
    have NV := V.kp (Y9.f7.f7.f7.f7.f7.f7.f7)
    refine eG NV (fun W hW => (Kp.h hW).right.f6.f6.f6.f6.f6.f6) ?_
    refine jB 18 O NV (fun _ => eP (zl := [.pointer none, .pointer none, .pointer none, .map none, .int .i64 0, .bool false, .int .i64 0, .int .i64 0, .int .i64 0, .int .i64 0, .bool false]) (pl := [(0, 1), (1, 1), (2, 1), (3, 1), (4, 1), (5, 1), (6, 1), (7, 1), (8, 1), (9, 1), (10, 1)]) [_, _, _, _, _, _, _, _, _, _, _] aJ nC O (fun w => by kernel_rfl) O (.on (.on (.on (.on (.on (.zero (zs := [.bool false]) O (.zero (zs := [.int .i64 0]) O (.zero (zs := [.int .i64 0]) O (.zero (zs := [.int .i64 0]) O (.zero (zs := [.int .i64 0]) O (.zero (zs := [.bool false]) O .nil))))))))))) O) ?_
    refine jY 19 O NV O (iq 20 O NV 0 ah O aU O ?_)
    refine gy 21 O (by kernel_rfl) (dw 0 (l' := [_, _, _, _, _, _, _, _, _, _, _, _, _, _, _, _, _, _, _, _, _, _, _, _, _, _, _, _, _, _, _, _, _, _]) (us := [_, _, _, _, _, _, _, _, _, _, _]) Y9.f5 aU O O O (aG (aG (aG (aG (aG (aG (aG (aG (aG (aG (aG bQ))))))))))) O O) ?_
    rintro _ w35 H35
    have Za := V.kp (H35.f7.f7.f7.f7.f7.f7.f7)
    refine gU Za (by kernel_rfl) ?_
    refine ru (aW (aC (jO O O (nK O O (bJ 13 ah O aP O (aI (eU 13 H35 aP) ?_))))))
    rintro _ w36 H36
    refine dL O (bJ 14 ah O aP O (aI (eU 14 H36 aP) ?_))
    rintro _ w37 H37
    refine dL O (bJ 15 ah O ay O (aI (eU 15 H37 ay) ?_))
    rintro _ w38 Um
    refine bY (lK (.inr O) results111 ?_)
    have afT := Um.f2
    have afU := afT.xB
    exact ⟨_, _, _, _, _, afU.f4.f6.f3.f6.f6.f7.f7⟩
   ·skip
    refine kS 12 O (by kernel_rfl) (kP (zo .i64) NH) (kY O) ?_
    rintro _ w41 ⟨b41, rfl, H41⟩
    have Zb := V.kp (H41.f6.f6.f6.f6.f6.f6)
    refine eG Zb (fun W hW => (Kp.h hW).right.f5.f5.f5.f5.f5) ?_
    refine nD 11 O (jH (l := [_, _]) H41 O O) ?_
    rintro _ w42 ⟨b42, rfl, H42⟩
    have NW := V.kp (H42.f7.f7.f7.f7.f7.f7.f7)
    refine eG NW (fun W hW => (Kp.h hW).right.f6.f6.f6.f6.f6.f6) ?_
    refine jB 18 O NW (fun _ => eP (zl := [.pointer none, .pointer none, .pointer none, .map none, .int .i64 0, .bool false, .int .i64 0, .int .i64 0, .int .i64 0, .int .i64 0, .bool false]) (pl := [(0, 1), (1, 1), (2, 1), (3, 1), (4, 1), (5, 1), (6, 1), (7, 1), (8, 1), (9, 1), (10, 1)]) [_, _, _, _, _, _, _, _, _, _, _] aJ nC O (fun w => by kernel_rfl) O (.on (.on (.on (.on (.on (.zero (zs := [.bool false]) O (.zero (zs := [.int .i64 0]) O (.zero (zs := [.int .i64 0]) O (.zero (zs := [.int .i64 0]) O (.zero (zs := [.int .i64 0]) O (.zero (zs := [.bool false]) O .nil))))))))))) O) ?_
    refine jY 19 O NW O (iq 20 O NW 0 ah O aU O ?_)
    refine gy 21 O (by kernel_rfl) (dw 0 (l' := [_, _, _, _, _, _, _, _, _, _, _, _, _, _, _, _, _, _, _, _, _, _, _, _, _, _, _, _, _, _, _, _, _, _]) (us := [_, _, _, _, _, _, _, _, _, _, _]) H42.f5 aU O O O (aG (aG (aG (aG (aG (aG (aG (aG (aG (aG (aG bQ))))))))))) O O) ?_
    rintro _ w43 H43
    have Zc := V.kp (H43.f7.f7.f7.f7.f7.f7.f7)
    refine gU Zc (by kernel_rfl) ?_
    refine ru (aW (aC (jO O O (nK O O (bJ 13 ah O aP O (aI (eU 13 H43 aP) ?_))))))
    rintro _ w44 H44
    refine dL O (bJ 14 ah O aP O (aI (eU 14 H44 aP) ?_))
    rintro _ w45 SX
    refine dL O (bJ 15 ah O ay O (aI (eU 15 SX ay) ?_))
    rintro _ w46 H46
    refine bY (lK (.inr O) results111 ?_)
    have afV := H46.f3
    have afW := afV.xB
    exact ⟨_, _, _, _, _, afW.f4.f6.f3.f6.f6.f7.f7⟩
  ·skip
   refine kS 12 O (by kernel_rfl) (kP (zo .i64) SV) (kY O) ?_
   rintro _ w49 ⟨b49, rfl, H49⟩
   have aeo := V.kp (H49.f5.right.f5.f5.f5.f5.f5)
   refine eG aeo (fun W hW => (Kp.h hW).right.f4.f4.f4.f4) ?_
   refine nD 8 O (xW O func117 (qy H49.f5)) ?_
   rintro _ w50 ⟨rfl, H50⟩
   have abX := V.kp (H50.f6.f6.f6.f6.f6.f6)
   refine eG abX (fun W hW => (Kp.h hW).right.f5.f5.f5.f5.f5) ?_
   refine jB 10 O abX (fun _ => eP (zl := [.int .i64 0, .map none]) (pl := [(0, 1), (1, 1)]) [_, _] gq oP O (fun w => by kernel_rfl) O (.on (.on .nil)) O) ?_
   refine nD 11 O (jH (l := [_, _]) H50 O O) ?_
   rintro _ w51 ⟨b51, rfl, H51⟩
   have VJ := V.kp (H51.f7.f7.f7.f7.f7.f7.f7)
   refine eG VJ (fun W hW => (Kp.h hW).right.f6.f6.f6.f6.f6.f6) ?_
   refine jB 18 O VJ (fun _ => eP (zl := [.pointer none, .pointer none, .pointer none, .map none, .int .i64 0, .bool false, .int .i64 0, .int .i64 0, .int .i64 0, .int .i64 0, .bool false]) (pl := [(0, 1), (1, 1), (2, 1), (3, 1), (4, 1), (5, 1), (6, 1), (7, 1), (8, 1), (9, 1), (10, 1)]) [_, _, _, _, _, _, _, _, _, _, _] aJ nC O (fun w => by kernel_rfl) O (.on (.on (.on (.on (.on (.zero (zs := [.bool false]) O (.zero (zs := [.int .i64 0]) O (.zero (zs := [.int .i64 0]) O (.zero (zs := [.int .i64 0]) O (.zero (zs := [.int .i64 0]) O (.zero (zs := [.bool false]) O .nil))))))))))) O) ?_
   refine jY 19 O VJ O (iq 20 O VJ 0 ah O aU O ?_)
   refine gy 21 O (by kernel_rfl) (dw 0 (l' := [_, _, _, _, _, _, _, _, _, _, _, _, _, _, _, _, _, _, _, _, _, _, _, _, _, _, _, _, _, _, _, _, _, _]) (us := [_, _, _, _, _, _, _, _, _, _, _]) H51.f5 aU O O O (aG (aG (aG (aG (aG (aG (aG (aG (aG (aG (aG bQ))))))))))) O O) ?_
   rintro _ w52 H52
   have aep := V.kp (H52.f7.f7.f7.f7.f7.f7.f7)
   refine gU aep (by kernel_rfl) ?_
   refine ru (aW (aC (jO O O (nK O O (bJ 13 ah O aP O (aI (eU 13 H52 aP) ?_))))))
   rintro _ w53 H53
   refine dL O (bJ 14 ah O aP O (aI (eU 14 H53 aP) ?_))
   rintro _ w54 H54
   refine dL O (bJ 15 ah O ay O (aI (eU 15 H54 ay) ?_))
   rintro _ w55 H55
   refine bY (lK (.inr O) results111 ?_)
   have afX := H55.f4
   have afY := afX.xB
   exact ⟨_, _, _, _, _, afY.f4.f6.f3.f6.f6.f7.f7⟩
 ·skip
  refine kS 12 O (by kernel_rfl) (kP (zo .i64) aaZ) (kY O) ?_
  rintro _ w58 ⟨b58, rfl, H58⟩
  have aeq := V.kp (H58.f4.right.f4.f4.f4.f4)
  refine eG aeq (fun W hW => (Kp.h hW).right.f3.f3.f3) ?_
  refine Ac (i := 8) (j := 9) (by kernel_rfl) ?_ ?_
  ·skip
   refine kS 8 O (by kernel_rfl) (qQ (rE O func117 O O) (qy H58.f4)) (kY O) ?_
   rintro _ w59 ⟨rfl, H59⟩
   have aer := V.kp (H59.f5.f5.f5.f5.f5)
   refine eG aer (fun W hW => (Kp.h hW).right.f4.f4.f4.f4) ?_
   refine nD 9 O (kP (zo .i64) H59) ?_
   rintro _ w60 ⟨b60, rfl, H60⟩
   have abY := V.kp (H60.f6.f6.f6.f6.f6.f6)
   refine eG abY (fun W hW => (Kp.h hW).right.f5.f5.f5.f5.f5) ?_
   refine jB 10 O abY (fun _ => eP (zl := [.int .i64 0, .map none]) (pl := [(0, 1), (1, 1)]) [_, _] gq oP O (fun w => by kernel_rfl) O (.on (.on .nil)) O) ?_
   refine nD 11 O (jH (l := [_, _]) H60 O O) ?_
   rintro _ w61 ⟨b61, rfl, H61⟩
   have VL := V.kp (H61.f7.f7.f7.f7.f7.f7.f7)
   refine eG VL (fun W hW => (Kp.h hW).right.f6.f6.f6.f6.f6.f6) ?_
   refine jB 18 O VL (fun _ => eP (zl := [.pointer none, .pointer none, .pointer none, .map none, .int .i64 0, .bool false, .int .i64 0, .int .i64 0, .int .i64 0, .int .i64 0, .bool false]) (pl := [(0, 1), (1, 1), (2, 1), (3, 1), (4, 1), (5, 1), (6, 1), (7, 1), (8, 1), (9, 1), (10, 1)]) [_, _, _, _, _, _, _, _, _, _, _] aJ nC O (fun w => by kernel_rfl) O (.on (.on (.on (.on (.on (.zero (zs := [.bool false]) O (.zero (zs := [.int .i64 0]) O (.zero (zs := [.int .i64 0]) O (.zero (zs := [.int .i64 0]) O (.zero (zs := [.int .i64 0]) O (.zero (zs := [.bool false]) O .nil))))))))))) O) ?_
   refine jY 19 O VL O (iq 20 O VL 0 ah O aU O ?_)
   refine gy 21 O (by kernel_rfl) (dw 0 (l' := [_, _, _, _, _, _, _, _, _, _, _, _, _, _, _, _, _, _, _, _, _, _, _, _, _, _, _, _, _, _, _, _, _, _]) (us := [_, _, _, _, _, _, _, _, _, _, _]) H61.f5 aU O O O (aG (aG (aG (aG (aG (aG (aG (aG (aG (aG (aG bQ))))))))))) O O) ?_
   rintro _ w62 H62
   have aes := V.kp (H62.f7.f7.f7.f7.f7.f7.f7)
   refine gU aes (by kernel_rfl) ?_
   refine ru (aW (aC (jO O O (nK O O (bJ 13 ah O aP O (aI (eU 13 H62 aP) ?_))))))
   rintro _ w63 H63
   refine dL O (bJ 14 ah O aP O (aI (eU 14 H63 aP) ?_))
   rintro _ w64 H64
   refine dL O (bJ 15 ah O ay O (aI (eU 15 H64 ay) ?_))
   rintro _ w65 H65
   refine bY (lK (.inr O) results111 ?_)
   have afZ := H65.f5
   have af0 := afZ.xB
   exact ⟨_, _, _, _, _, af0.f5.f6.f3.f6.f6.f7.f7⟩
  ·skip
   refine kS 9 O (by kernel_rfl) (kP (zo .i64) H58) (kY O) ?_
   rintro _ w68 ⟨b68, rfl, H68⟩
   have aeu := V.kp (H68.f5.right.f5.f5.f5.f5.f5)
   refine eG aeu (fun W hW => (Kp.h hW).right.f4.f4.f4.f4) ?_
   refine nD 8 O (xW O func117 (qy H68.f5)) ?_
   rintro _ w69 ⟨rfl, H69⟩
   have abZ := V.kp (H69.f6.f6.f6.f6.f6.f6)
   refine eG abZ (fun W hW => (Kp.h hW).right.f5.f5.f5.f5.f5) ?_
   refine jB 10 O abZ (fun _ => eP (zl := [.int .i64 0, .map none]) (pl := [(0, 1), (1, 1)]) [_, _] gq oP O (fun w => by kernel_rfl) O (.on (.on .nil)) O) ?_
   refine nD 11 O (jH (l := [_, _]) H69 O O) ?_
   rintro _ w70 ⟨b70, rfl, H70⟩
   have VN := V.kp (H70.f7.f7.f7.f7.f7.f7.f7)
   refine eG VN (fun W hW => (Kp.h hW).right.f6.f6.f6.f6.f6.f6) ?_
   refine jB 18 O VN (fun _ => eP (zl := [.pointer none, .pointer none, .pointer none, .map none, .int .i64 0, .bool false, .int .i64 0, .int .i64 0, .int .i64 0, .int .i64 0, .bool false]) (pl := [(0, 1), (1, 1), (2, 1), (3, 1), (4, 1), (5, 1), (6, 1), (7, 1), (8, 1), (9, 1), (10, 1)]) [_, _, _, _, _, _, _, _, _, _, _] aJ nC O (fun w => by kernel_rfl) O (.on (.on (.on (.on (.on (.zero (zs := [.bool false]) O (.zero (zs := [.int .i64 0]) O (.zero (zs := [.int .i64 0]) O (.zero (zs := [.int .i64 0]) O (.zero (zs := [.int .i64 0]) O (.zero (zs := [.bool false]) O .nil))))))))))) O) ?_
   refine jY 19 O VN O (iq 20 O VN 0 ah O aU O ?_)
   refine gy 21 O (by kernel_rfl) (dw 0 (l' := [_, _, _, _, _, _, _, _, _, _, _, _, _, _, _, _, _, _, _, _, _, _, _, _, _, _, _, _, _, _, _, _, _, _]) (us := [_, _, _, _, _, _, _, _, _, _, _]) H70.f5 aU O O O (aG (aG (aG (aG (aG (aG (aG (aG (aG (aG (aG bQ))))))))))) O O) ?_
   rintro _ w71 H71
   have aev := V.kp (H71.f7.f7.f7.f7.f7.f7.f7)
   refine gU aev (by kernel_rfl) ?_
   refine ru (aW (aC (jO O O (nK O O (bJ 13 ah O aP O (aI (eU 13 H71 aP) ?_))))))
   rintro _ w72 H72
   refine dL O (bJ 14 ah O aP O (aI (eU 14 H72 aP) ?_))
   rintro _ w73 H73
   refine dL O (bJ 15 ah O ay O (aI (eU 15 H73 ay) ?_))
   rintro _ w74 H74
   refine bY (lK (.inr O) results111 ?_)
   have af1 := H74.f5
   have af2 := af1.xB
   exact ⟨_, _, _, _, _, af2.f4.f6.f3.f6.f6.f7.f7⟩
theorem V.FD {c : nY} {u : List Value} (H : V w0 w F) (hu : (u.all fun x => x.oneCell') = true) : V w0 w (xA false c u • F) := by
  unfold xA
  rw [if_neg (by decide)]
  exact H.lJ hu
theorem zx {inn : Bool} {c : nY} {u : List Value} (H : V w0 w (xA inn c u • F)) : (u.all fun x => x.oneCell') = true := by
  unfold xA at H
  cases inn with
  | true =>
    rw [if_pos rfl] at H
    obtain ⟨⟨pb, pr, pw, pt, pm⟩, H⟩ := H.nN
    obtain ⟨h, _⟩ := H.flat.fact
    rw [h]; rfl
  | false =>
    rw [if_neg (by decide)] at H
    exact H.fact.1
theorem V.acO {pb pr pw pt pm : Nat} {c : nY} (H : V w0 w (iQ pb c.L c.pt c.mark • fA pr c.E c.at_ • dW pw (.cells #[.int .i64 c.place, .map (some pt)] 122 (0, 0)) • gX tK pt (vU c.tx) • yF pm c.un • F)) : V w0 w (xA true c (QV pb pr pw pm c) • F) := by
  unfold xA
  rw [if_pos rfl]
  exact V.jv (pb, pr, pw, pt, pm) (V.deep (V.lJ rfl (H.of_eq (by unfold Uh; simp only [dD]))))
theorem V.was {c : nY} {u : List Value} (H : V w0 w (xA true c u • F)) : ∃ pb pr pw pt pm, u = QV pb pr pw pm c ∧ V w0 w (iQ pb c.L c.pt c.mark • fA pr c.E c.at_ • dW pw (.cells #[.int .i64 c.place, .map (some pt)] 122 (0, 0)) • gX tK pt (vU c.tx) • yF pm c.un • F) := by
  unfold xA at H
  rw [if_pos rfl] at H
  obtain ⟨⟨pb, pr, pw, pt, pm⟩, H⟩ := H.nN
  obtain ⟨h, H⟩ := H.flat.fact
  exact ⟨pb, pr, pw, pt, pm, h, H.of_eq (by unfold Uh; simp only [dD])⟩
theorem V.KL {pb pr pw pt pm ph bl : Nat} {u0 u1 u2 u3 u4 u5 u6 u7 u8 u9 ua : Value} (h1 : lI s) (hp : s.put = []) (H : V w0 w (dW e (.cells (.pointer (some ⟨pb, 0, none⟩) :: .pointer (some ⟨pr, 0, none⟩) :: .pointer (some ⟨pw, 0, none⟩) :: .map (some pm) :: .int .i64 s.c.mode :: .bool s.c.over :: .int .i64 s.c.last :: .int .i64 s.c.fr :: .int .i64 s.c.to :: .int .i64 s.c.res :: .bool s.c.run :: .pointer (some ⟨ph, 0, none⟩) :: .pointer (some ⟨bl, 0, none⟩) :: .bool s.given :: .bool s.minus :: .int .i64 s.arg :: .bool s.inn :: u0 :: u1 :: u2 :: u3 :: u4 :: u5 :: u6 :: u7 :: u8 :: u9 :: ua :: .int .i64 s.cls :: .bool s.kT :: .bool s.kU :: .bool s.argues :: .bool s.whole :: .slice none 0 0 :: []).toArray 82 (0, 0)) • iQ pb s.c.L s.c.pt s.c.mark • fA pr s.c.E s.c.at_ • dW pw (.cells #[.int .i64 s.c.place, .map (some pt)] 122 (0, 0)) • gX tK pt (vU s.c.tx) • yF pm s.c.un • iT ph s.hl s.base s.most • dW bl (.cells #[.int .i64 s.qW] 161 (0, 0)) • xA s.inn s.was [u0, u1, u2, u3, u4, u5, u6, u7, u8, u9, ua] • F)) : V w0 w (fF e s • F) := by
  refine V.iF (pb := pb) (pr := pr) (pw := pw) (pt := pt) (pm := pm) (ph := ph) (bl := bl) (u0 := u0) (u1 := u1) (u2 := u2) (u3 := u3) (u4 := u4) (u5 := u5) (u6 := u6) (u7 := u7) (u8 := u8) (u9 := u9) (ua := ua) (pv := .slice none 0 0) (es := []) h1 (by rw [hp]; rfl) ?_
  rw [hp]
  exact (H.tY none).of_eq (by unfold LX; ac_rfl)
theorem V.Un {pb pr pw pt pm ph bl : Nat} {u0 u1 u2 u3 u4 u5 u6 u7 u8 u9 ua : Value} (h1 : lI s) (hp : s.put = []) (hi : s.inn = false) (H : V w0 w (dW e (.cells (.pointer (some ⟨pb, 0, none⟩) :: .pointer (some ⟨pr, 0, none⟩) :: .pointer (some ⟨pw, 0, none⟩) :: .map (some pm) :: .int .i64 s.c.mode :: .bool s.c.over :: .int .i64 s.c.last :: .int .i64 s.c.fr :: .int .i64 s.c.to :: .int .i64 s.c.res :: .bool s.c.run :: .pointer (some ⟨ph, 0, none⟩) :: .pointer (some ⟨bl, 0, none⟩) :: .bool s.given :: .bool s.minus :: .int .i64 s.arg :: .bool false :: u0 :: u1 :: u2 :: u3 :: u4 :: u5 :: u6 :: u7 :: u8 :: u9 :: ua :: .int .i64 s.cls :: .bool s.kT :: .bool s.kU :: .bool s.argues :: .bool s.whole :: .slice none 0 0 :: []).toArray 82 (0, 0)) • iQ pb s.c.L s.c.pt s.c.mark • fA pr s.c.E s.c.at_ • dW pw (.cells #[.int .i64 s.c.place, .map (some pt)] 122 (0, 0)) • gX tK pt (vU s.c.tx) • yF pm s.c.un • iT ph s.hl s.base s.most • dW bl (.cells #[.int .i64 s.qW] 161 (0, 0)) • F)) (hu : ([u0, u1, u2, u3, u4, u5, u6, u7, u8, u9, ua].all fun x => x.oneCell') = true := by rfl) : V w0 w (fF e s • F) := by
  refine V.KL (pb := pb) (pr := pr) (pw := pw) (pt := pt) (pm := pm) (ph := ph) (bl := bl) (u0 := u0) (u1 := u1) (u2 := u2) (u3 := u3) (u4 := u4) (u5 := u5) (u6 := u6) (u7 := u7) (u8 := u8) (u9 := u9) (ua := ua) h1 hp ?_
  rw [hi]
  exact (H.FD (c := s.was) (u := [u0, u1, u2, u3, u4, u5, u6, u7, u8, u9, ua]) hu).of_eq (by ac_rfl)
theorem V.Zd {pb pr pw pt pm ph bl : Nat} {u0 u1 u2 u3 u4 u5 u6 u7 u8 u9 ua : Value} {pv : Value} {es : List eF} (h1 : lI s) (h2 : es.map eF.says = s.put) (H : V w0 w (LX pv es • dW e (.cells (.pointer (some ⟨pb, 0, none⟩) :: .pointer (some ⟨pr, 0, none⟩) :: .pointer (some ⟨pw, 0, none⟩) :: .map (some pm) :: .int .i64 s.c.mode :: .bool s.c.over :: .int .i64 s.c.last :: .int .i64 s.c.fr :: .int .i64 s.c.to :: .int .i64 s.c.res :: .bool s.c.run :: .pointer (some ⟨ph, 0, none⟩) :: .pointer (some ⟨bl, 0, none⟩) :: .bool s.given :: .bool s.minus :: .int .i64 s.arg :: .bool s.inn :: u0 :: u1 :: u2 :: u3 :: u4 :: u5 :: u6 :: u7 :: u8 :: u9 :: ua :: .int .i64 s.cls :: .bool s.kT :: .bool s.kU :: .bool s.argues :: .bool s.whole :: pv :: []).toArray 82 (0, 0)) • iQ pb s.c.L s.c.pt s.c.mark • fA pr s.c.E s.c.at_ • dW pw (.cells #[.int .i64 s.c.place, .map (some pt)] 122 (0, 0)) • gX tK pt (vU s.c.tx) • yF pm s.c.un • iT ph s.hl s.base s.most • dW bl (.cells #[.int .i64 s.qW] 161 (0, 0)) • xA s.inn s.was [u0, u1, u2, u3, u4, u5, u6, u7, u8, u9, ua] • F)) : V w0 w (fF e s • F) := by
  refine V.iF (pb := pb) (pr := pr) (pw := pw) (pt := pt) (pm := pm) (ph := ph) (bl := bl) (u0 := u0) (u1 := u1) (u2 := u2) (u3 := u3) (u4 := u4) (u5 := u5) (u6 := u6) (u7 := u7) (u8 := u8) (u9 := u9) (ua := ua) (pv := pv) (es := es) h1 h2 ?_
  have hl : s.put.length = es.length := by rw [← h2]; simp
  rw [hl]
  exact H.of_eq (by unfold LX; ac_rfl)
theorem Ze : gG [] [] = 0 := rfl
theorem Q7 (hl : List qN) (l : List Int) (E : List (List Int)) (a : Nat) (m : Int) : Ui hl (nY.fresh l E a hl.length m) := ⟨by simp [nY.fresh], by simp [nY.fresh], by simp [nY.fresh]⟩
theorem Pm (hl : List qN) (base most : Int) : lI (bC.new hl base most) :=
  ⟨Q7 _ _ _ _ _, by simp [bC.new], by simp [bC.new], by simp [bC.new], by simp [bC.new, bC.here, nY.fresh, gG], by simp [bC.new, nY.fresh]⟩
theorem Uo (H : V w0 w (iT h hl base most • F)) : iI prog 57 #[.pointer (some ⟨h, 0, none⟩)] w fun v w' => ∃ e, v = .tuple #[.pointer (some ⟨e, 0, none⟩), .int .i64 0] ∧ V w0 w' (fF e (bC.new hl base most) • iT h hl base most • F) := by
  refine jr func57 ntmps57 ?_
  refine iV (iJ O (vY O (bT O (dS O func109 (vP H) ?_))))
  rintro _ w1 ⟨q1, rfl, H1⟩
  refine Z (iR kR O O) (iL (PZ O (fun h1 => ?_)))
  (try simp only [aA] at h1)
  refine gQ (iV (Z (eP (zl := [.int .i64 0]) (pl := [(0, 0), (0, 0), (0, 1)]) [_] underlying161 zeroValue161 O (fun w => by kernel_rfl) O (.zero (zs := []) O (.zero (zs := []) O (.zero (zs := [.int .i64 0]) O .nil))) O) (jV (jH (l := [_]) H1 O O) ?_)))
  rintro _ w2 ⟨b2, rfl, H2⟩
  refine Z (eP (zl := [.pointer none, .pointer none, .pointer none, .map none, .int .i64 0, .bool false, .int .i64 0, .int .i64 0, .int .i64 0, .int .i64 0, .bool false, .pointer none, .pointer none, .bool false, .bool false, .int .i64 0, .bool false, .pointer none, .pointer none, .pointer none, .map none, .int .i64 0, .bool false, .int .i64 0, .int .i64 0, .int .i64 0, .int .i64 0, .bool false, .int .i64 0, .bool false, .bool false, .bool false, .bool false, .slice none 0 0]) (pl := [(0, 11), (11, 1), (12, 1), (13, 1), (14, 1), (15, 1), (16, 1), (17, 11), (28, 1), (29, 1), (30, 1), (31, 1), (32, 1), (33, 1)]) [_, _, _, _, _, _, _, _, _, _, _, _, _, _, _, _, _, _, _, _, _, _, _, _, _, _, _, _, _, _, _, _, _, _] ah zeroValue82 O (fun w => by kernel_rfl) O (.zero (zs := [.pointer none, .pointer none, .pointer none, .map none, .int .i64 0, .bool false, .int .i64 0, .int .i64 0, .int .i64 0, .int .i64 0, .bool false]) O (.zero (zs := [.pointer none]) O (.on (.zero (zs := [.bool false]) O (.zero (zs := [.bool false]) O (.zero (zs := [.int .i64 0]) O (.zero (zs := [.bool false]) O (.zero (zs := [.pointer none, .pointer none, .pointer none, .map none, .int .i64 0, .bool false, .int .i64 0, .int .i64 0, .int .i64 0, .int .i64 0, .bool false]) O (.zero (zs := [.int .i64 0]) O (.zero (zs := [.bool false]) O (.zero (zs := [.bool false]) O (.zero (zs := [.bool false]) O (.zero (zs := [.bool false]) O (.zero (zs := [.slice none 0 0]) O .nil)))))))))))))) O) ?_
  refine jV (jH (l := [_, _, _, _, _, _, _, _, _, _, _, _, _, _, _, _, _, _, _, _, _, _, _, _, _, _, _, _, _, _, _, _, _, _]) H2 O O) ?_
  rintro _ w3 ⟨b3, rfl, H3⟩
  refine fP O (bT O (dS O func110 (OI H3) ?_))
  rintro _ w4 ⟨p4, rfl, H4⟩
  refine dL O (bJ 0 ah O aU O (bJ 1 aJ O sizeOf73 O (aI (eU 1 H4.f2 sizeOf73) ?_)))
  rintro _ w5 H5
  refine rZ O (bP O (dS O func111 (ET (E := []) (a := 0) H5.f4.right.f3.f3.f4.f4 (l := []) (fun W _ => gJ.nil W _ none 0 (by decide)) (by decide)) ?_))
  rintro _ w6 ⟨qb, qw, qt, qm, qh, H6⟩
  refine rZ O (iJ O (fC O (P5 results57 O O ?_)))
  exact ⟨_, O, V.Un (s := bC.new hl base most) (Pm _ _ _) O O H6.f7.f9.f8.f8.f8.f8.f9.f9.f9⟩
end
section
variable {w0 w : World} {F : HP} {e p h pr : Nat} {s : bC} {hl : List qN} {base most m : Int} {v : Value} {l : List Int}
theorem uH (h : s.inn = false) : s.aZ = { s with inn := true, was := s.c, cls := 0, kT := false, kU := false, argues := false, whole := true, put := [] } := by unfold bC.aZ; rw [if_neg (by simp [h])]
theorem KN (h : s.inn = true) : s.aZ = s := by unfold bC.aZ; rw [if_pos h]
theorem VO {G : List (List jl)} {N : List jl} (h : gG G N ≤ 16384) : gG G [] ≤ 16384 := by unfold gG at *; simp at *; omega
theorem Q8 (h : lI s) (hi : s.inn = false) : lI s.aZ := by
  rw [uH hi]
  obtain ⟨h1, h2, h3, h4, h5, h6⟩ := h
  exact ⟨h1, fun _ => ⟨h1, VO h5, h6⟩, h3, by simp, VO h5, h6⟩
theorem BI (H : V w0 w (fF e s • F)) : iI prog 29 #[.pointer (some ⟨e, 0, none⟩)] w fun v w' => v = .int .i64 s.BG ∧ V w0 w' (fF e s.aZ • F) := by
 refine jr func29 ntmps29 ?_
 refine jR O (aO (aY (bT O (dS O func65 (rQ H) ?_))))
 rintro _ _ ⟨rfl, rfl⟩
 refine fP O (qH (aO ?_))
 obtain ⟨yG, yH, yI, yJ, yK, yL, yM, yN, wu, uK, uM, uN, uO, uP, uQ, uS, uT, uU, uV, uX, iD, dG, kW, iO⟩ := (H).Ii
 refine aC (nK O O (bJ 16 ah O aP O (fV bZ O (iO).get.2 O (fP O (bH O (fun h1 => ?_) (fun h1 => ?_))))))
 ·(try simp only [aA] at h1)
  have hin := h1
  refine jP O (aT (aB (dK results29 O ?_)))
  exact ⟨by unfold bC.BG; rw [if_pos hin], by rw [KN hin]; exact V.iF iD dG iO.f11.f11.f11.f11.f11.f11.f11.f11.f11.f11.f11⟩
 ·(try simp only [aA] at h1)
  have hin := h1
  refine dn (aK (aW (bT O (jO O O (dL O (bJ 0 ah O aU O (Z (pX 0 (xs := [_, _, _, _, _, _, _, _, _, _, _]) aJ O aU O O (iO).get.2 O) (dS O func80 (QZ iO.f6.f6.f6.f6.f6) ?_))))))))
  rintro _ w3 ⟨qb3, qr3, qw3, qt3, qm3, rfl, H3⟩
  refine dL O (bJ 16 ah O aP O (aI (eU 16 H3.f11 aP) ?_))
  rintro _ w4 H4
  refine dL O (bJ 17 ah O aU O (aI (dw 17 (l' := [_, _, _, _, _, _, _, _, _, _, _, _, _, _, _, _, _, _, _, _, _, _, _, _, _, _, _, _, _, _, _, _, _, _]) (us := [_, _, _, _, _, _, _, _, _, _, _]) H4 aU O O O (aG (aG (aG (aG (aG (aG (aG (aG (aG (aG (aG bQ))))))))))) O O) ?_))
  rintro _ w5 H5
  refine rZ O (jO O O (jO O O (nK O O (bJ 28 ah O ay O (aI (eU 28 H5 ay) ?_)))))
  rintro _ w6 H6
  refine dL O (bJ 29 ah O aP O (aI (eU 29 H6 aP) ?_))
  rintro _ w7 H7
  refine dL O (bJ 30 ah O aP O (aI (eU 30 H7 aP) ?_))
  rintro _ w8 H8
  refine dL O (bJ 31 ah O aP O (aI (eU 31 H8 aP) ?_))
  rintro _ w9 H9
  refine dL O (bJ 32 ah O aP O (aI (eU 32 H9 aP) ?_))
  rintro _ w10 pW
  refine dL O (bJ 33 ah O bM O (aI (eU 33 pW bM) ?_))
  rintro _ FX sW
  refine iL (jP O (dK results29 O ?_))
  have Ph := sW.f6.f6.f6.f6.f6
  have Pj := V.acO (c := s.c) Ph
  exact ⟨by unfold bC.BG; rw [if_neg (by simp [hin])], by rw [uH hin]; exact V.KL (uH hin ▸ Q8 iD hin) O Pj.f10.right.f10.right.f10.right.f9.f9.f9.f9.f9.f9.f9.f9⟩
end
def bC.sS (s : bC) (l : List Int) : Int := if s.inn then 1 else if 1024 < l.length then 3 else 0
def bC.BJ (s : bC) (hl : List qN) (base most : Int) (l : List Int) : bC := if s.sS l = 0 then s.start hl base most l else s
theorem Q9 {s : bC} (h : lI s) (hi : s.inn = false) (hl : List qN) (base most : Int) (l : List Int) : lI (s.start hl base most l) := by
  obtain ⟨h1, h2, h3, h4, h5, h6⟩ := h
  refine ⟨Q7 _ _ _ _ _, fun h => absurd (show s.inn = true from h) (by rw [hi]; decide), ⟨by show (-1 : Int) ≤ -1; decide, by show (-1 : Int) ≤ 1000000; decide⟩, h4, ?_, by simp [bC.start, nY.fresh]⟩
  show gG [] s.put ≤ 16384
  unfold gG at *; simp at *; omega
section
variable {w0 w : World} {F : HP} {e p h pr : Nat} {s : bC} {hl : List qN} {base most m : Int} {v : Value} {l : List Int}
theorem Pn (H : V w0 w (fF e s • iT h hl base most • F)) (hr : jE w0 F .i32 v l) : iI prog 59 #[.pointer (some ⟨e, 0, none⟩), .pointer (some ⟨h, 0, none⟩), v] w fun v' w' =>
  v' = .int .i64 (s.sS l) ∧ V w0 w' (fF e (s.BJ hl base most l) • iT h hl base most • F) := by
 unfold bC.BJ
 refine AB func59 ntmps59 ?_
 refine jR O (aO (aY (bT O (dS O func65 (rQ H) ?_))))
 rintro _ _ ⟨rfl, rfl⟩
 refine bP O (bg (bP O (bg (dS O func109 (vP H.f2) ?_))))
 rintro _ w2 ⟨q2, rfl, H2⟩
 refine bg (Z (iR kR O O) (ig O O (fP O (PZ O (fun h1 => ?_)))))
 (try simp only [aA] at h1)
 refine aO ?_
 have SY := H2.right
 obtain ⟨yG, yH, yI, yJ, yK, yL, yM, yN, wu, uK, uM, uN, uO, uP, uQ, uS, uT, uU, uV, uX, iD, dG, kW, iO⟩ := (SY.f2).Ii
 refine aC (nK O O (bJ 16 ah O aP O (fV bZ O (iO).get.2 O (fP O (bH O (fun h2 => ?_) (fun h2 => ?_))))))
 ·(try simp only [aA] at h2)
  have hin := h2
  have hE : s.sS l = 1 := by unfold bC.sS; rw [if_pos hin]
  refine jP O (aT (aB (dK results59 O ?_)))
  have Ho6 := iO.f11.f11.f11.f11.f11.f11.f11.f11.f11.f11.f11
  have Hc7 := V.iF (s := s) iD dG Ho6
  exact ⟨by rw [hE], by rw [if_neg (by rw [hE]; decide)]; exact Hc7.f2.f2⟩
 ·(try simp only [aA] at h2)
  have hin : s.inn = false := by simpa using h2
  refine bT O (Z (jy (hr _ (iO.right.right.right.right.right.right.right.right.right.right.right.right)) aj O) (Z (dY O O) (fP O (bH O (fun h3 => ?_) (fun h3 => ?_)))))
  ·(try simp only [aA] at h3)
   have hbig := h3
   have hE : s.sS l = 3 := by unfold bC.sS; rw [if_neg (by simp [hin]), if_pos (by omega)]
   refine jP O (aT (aB (dK results59 O ?_)))
   have Ho9 := iO.f11.f11.f11.f11.f11.f11.f11.f11.f11.f11.f11
   have acP := V.iF (s := s) iD dG Ho9
   exact ⟨by rw [hE], by rw [if_neg (by rw [hE]; decide)]; exact acP.f2.f2⟩
  ·(try simp only [aA] at h3)
   have hE : s.sS l = 0 := by unfold bC.sS; rw [if_neg (by simp [hin]), if_neg (by have h9 := h3; omega)]
   have hsh : l.length ≤ 1024 := by have h9 := h3; omega
   refine dn (aK (aW (bT O (jO O O (dS O func111 (ET (E := s.c.E) (a := s.c.at_) iO.f2.right.f3.right.f3.right.f3.right.f3.right.f6.f6.f6.f6.f6.f7.f7 (fun W HW => hr W HW.right.right.right.right.right) hsh) ?_)))))
   rintro _ FX ⟨qb, qw, qt, qm, qh, sW⟩
   refine iL (jP O (dK results59 O ?_))
   exact ⟨by rw [hE], by rw [if_pos hE]; exact V.iF (s := s.start hl base most l) (Q9 iD hin _ _ _ _) dG sW.f7.f12.f12.f12.f12.f11.f11.f11.f11.f12.f12.f12⟩
end
end Go.Proofs.YtpdeedplgmbopaaGreatDoor
end
section
namespace Go.Proofs.YtpdeedplgmbopaaGreatDoor
open Go.RowKit
section
variable {s : bC}
theorem aa0 (s : bC) (x : jl) : (s.sH x).c.L = s.c.L ∧ (s.sH x).c.pt = s.c.pt ∧ (s.sH x).c.mark = s.c.mark ∧ (s.sH x).c.E = s.c.E ∧ (s.sH x).c.at_ = s.c.at_ ∧ (s.sH x).inn = s.inn ∧ (s.sH x).cls = s.cls ∧ (s.sH x).was = s.was := by
  unfold bC.sH
  split
  · simp
  · split <;> simp [bC.mJ]
theorem VP (h : s.inn = true) (i j : Int) (l : List Int) : (s.qJ i j l).c.L = sZ s.c.L i j l ∧ (s.qJ i j l).c.pt = tq s.c.L s.c.pt i j l ∧ (s.qJ i j l).c.mark = wB s.c.L s.c.mark i j l ∧ (s.qJ i j l).c.E = s.c.E ∧ (s.qJ i j l).c.at_ = s.c.at_ ∧ (s.qJ i j l).inn = true ∧ (s.qJ i j l).cls = s.cls ∧ (s.qJ i j l).was = s.was := by
  unfold bC.qJ
  rw [if_pos h]
  obtain ⟨h1, h2, h3, h4, h5, h6, h7, h8⟩ := aa0 (s.kV (sZ s.c.L i j l) (tq s.c.L s.c.pt i j l) (wB s.c.L s.c.mark i j l)) (wC s.c.L i j l, pY s.c.L i j l, qc s.c.L i j l)
  exact ⟨h1, h2, h3, h4, h5, h6.trans h, h7, h8⟩
theorem Zf (h : s.inn = true) {i j : Int} {back : Bool} (hi : 0 ≤ i ∧ i ≤ j ∧ j ≤ s.c.L.length) (hL : s.c.L.length ≤ 1024) (hk : (s.qY i j back).1 = 0) (hp : i ≤ s.c.pt ∧ s.c.pt ≤ j) :
    (s.uF i j back).c.L = s.c.L.take i.toNat ++ s.c.L.drop j.toNat ∧ (s.uF i j back).c.pt = i ∧ (s.uF i j back).c.E = (s.qY i j back).2.1 ∧ (s.uF i j back).c.at_ = (s.qY i j back).2.2 ∧ (s.uF i j back).inn = true ∧ (s.uF i j back).cls = 1 := by
  have hc : s.rP i j back = 0 := by
    unfold bC.rP
    rw [if_pos h, if_neg (by unfold bC.qB; omega), hk]
  have hE : nX s.c.L i j [] = 0 := by unfold nX; rw [if_neg (by omega), if_neg (by simp; omega)]
  unfold bC.uF
  rw [if_pos hc]
  have e : s.sJ i j back = { s.BH (s.qY i j back).2.1 (s.qY i j back).2.2 with kT := true, cls := 1 } := by unfold bC.sJ; rw [if_pos hc]
  have ei : (s.sJ i j back).inn = true := by rw [e]; exact h
  obtain ⟨h1, h2, h3, h4, h5, h6, h7, h8⟩ := VP ei i j []
  refine ⟨h1.trans ?_, h2.trans ?_, h4.trans (by rw [e]; rfl), h5.trans (by rw [e]; rfl), h6, h7.trans (by rw [e])⟩
  · rw [show (s.sJ i j back).c.L = s.c.L from by rw [e]; rfl]
    unfold sZ
    rw [if_pos hE]; simp
  · rw [show (s.sJ i j back).c.L = s.c.L from by rw [e]; rfl, show (s.sJ i j back).c.pt = s.c.pt from by rw [e]; rfl]
    unfold tq fD
    rw [if_pos hE]
    simp only [List.length_nil]
    split <;> (try split) <;> omega
end
structure zJ (s : bC) (A : List Int) (a b : Int) : Prop where
  inn : s.inn = false
  ok : 0 ≤ a ∧ a ≤ b ∧ b ≤ A.length
  L : s.c.L = A.take a.toNat ++ A.drop b.toNat
  pt : s.c.pt = a
  ring : (s.c.E = [] ∧ a = b) ∨ (s.c.E = [(A.drop a.toNat).take (b.toNat - a.toNat)] ∧ s.c.at_ = 0 ∧ s.c.last = 1)
section
variable {s : bC} {A : List Int} {a b k : Int}
theorem zJ.len (h : zJ s A a b) : (s.c.L.length : Int) = A.length - (b - a) := by
  have := h.ok
  rw [h.L]; simp; omega
theorem iW (s : bC) : s.aZ.c = s.c := by unfold bC.aZ; split <;> rfl
theorem KO (h : zJ s A a b) (hA : A.length ≤ 1024) {i j : Int} {back : Bool} {l : List Int} (hcut : s.aZ.cut i j = l) (hl : l.length + (b - a) ≤ A.length) :
    (s.aZ.qY i j back).1 = 0 ∧ ((s.aZ.qY i j back).2.1 = [] ∧ l = [] ∧ a = b ∨ (s.aZ.qY i j back).2.1 = [if back then l ++ (A.drop a.toNat).take (b.toNat - a.toNat) else (A.drop a.toNat).take (b.toNat - a.toNat) ++ l] ∧ (s.aZ.qY i j back).2.2 = 0) := by
  have ho := h.ok
  have hb : s.aZ.kT = false := by unfold bC.aZ; rw [if_neg (by rw [h.inn]; decide)]
  unfold bC.qY
  rw [hcut, iW]
  rcases h.ring with ⟨h1, h2⟩ | ⟨h1, h2, h3⟩
  · rw [h1]
    have hx : (A.drop a.toNat).take (b.toNat - a.toNat) = [] := by rw [h2]; simp
    have hw : s.aZ.way back = 0 ∨ s.aZ.way back = 1 ∨ s.aZ.way back = 2 := by unfold bC.way; split <;> (try split) <;> simp
    unfold Dp
    rw [if_neg (by omega), if_neg (by omega), if_neg (by simp)]
    split
    · rename_i h4
      exact ⟨rfl, .inl ⟨rfl, List.length_eq_zero_iff.1 h4.2, h2⟩⟩
    · rw [hx]
      exact ⟨rfl, .inr ⟨by cases back <;> simp, rfl⟩⟩
  · rw [h1, h2]
    have hw : s.aZ.way back = if back then 2 else 1 := by unfold bC.way; rw [if_pos (by rw [iW]; exact .inl h3)]
    have hlen : ((A.drop a.toNat).take (b.toNat - a.toNat)).length = b.toNat - a.toNat := by simp; omega
    rw [hw]
    unfold Dp
    rw [if_neg (by cases back <;> simp), if_neg (by omega), if_pos (by cases back <;> simp), if_neg (by simp only [List.getD_cons_zero]; omega)]
    exact ⟨rfl, .inr ⟨by cases back <;> simp, rfl⟩⟩
theorem zJ.step (h : zJ s A a b) (hA : A.length ≤ 1024) {i j a' b' : Int} {back : Bool} {l : List Int} (hij : 0 ≤ i ∧ i ≤ j ∧ j ≤ s.c.L.length) (hp : i ≤ a ∧ a ≤ j) (hcut : s.aZ.cut i j = l) (hl : l.length + (b - a) ≤ A.length)
    (ho : 0 ≤ a' ∧ a' ≤ b' ∧ b' ≤ A.length) (hi : i = a') (hL : s.c.L.take i.toNat ++ s.c.L.drop j.toNat = A.take a'.toNat ++ A.drop b'.toNat) (he : l = [] → a = b → a' = b')
    (hx : (if back then l ++ (A.drop a.toNat).take (b.toNat - a.toNat) else (A.drop a.toNat).take (b.toNat - a.toNat) ++ l) = (A.drop a'.toNat).take (b'.toNat - a'.toNat)) :
    zJ ((s.aZ.uF i j back).jZ 0) A a' b' := by
  obtain ⟨h1, h2⟩ := KO h hA (back := back) hcut hl
  have hlen := h.len
  have hok := h.ok
  obtain ⟨k1, k2, k3, k4, k5, k6⟩ := Zf (s := s.aZ) (uh s) (i := i) (j := j) (back := back) (by rw [iW]; exact hij) (by rw [iW]; omega) h1 (by rw [iW, h.pt]; exact hp)
  rw [iW] at k1
  refine ⟨AV _ k5, ho, (Dz _ k5).trans (k1.trans hL), (Ee _ k5).trans (k2.trans hi), ?_⟩
  rw [O6 _ k5, aaU _ k5, WY _ k5, k3, k4, k6]
  rcases h2 with ⟨q1, q2, q3⟩ | ⟨q1, q2⟩
  · exact .inl ⟨q1, he q2 q3⟩
  · exact .inr ⟨by rw [q1, hx], q2, rfl⟩
theorem zJ.back (h : zJ s A a b) (hA : A.length ≤ 1024) (hk : 0 ≤ k ∧ k ≤ a) : zJ ((s.aZ.uF (s.aZ.c.pt - k) s.aZ.c.pt true).jZ 0) A (a - k) b := by
  have hlen := h.len
  have hok := h.ok
  rw [iW, h.pt]
  have e1 : s.aZ.cut (a - k) a = (A.drop (a - k).toNat).take k.toNat := by
    unfold bC.cut
    rw [iW, h.L, List.drop_append_of_le_length (by simp; omega), List.take_append_of_le_length (by simp; omega), List.drop_take]
    rw [List.take_take]; congr 1; omega
  refine h.step hA (l := (A.drop (a - k).toNat).take k.toNat) (by omega) (by omega) e1 (by simp; omega) (by omega) rfl ?_ ?_ ?_
  · rw [h.L, List.take_append_of_le_length (by simp; omega), List.take_take, List.drop_append, List.drop_of_length_le (by simp; omega), List.nil_append]
    rw [show min (a - k).toNat a.toNat = (a - k).toNat from by omega, show a.toNat - (A.take a.toNat).length = 0 from by simp; omega, List.drop_zero]
  · intro h1 h2
    have h3 := congrArg List.length h1
    simp at h3; omega
  · simp only [if_true]
    rw [show (A.drop a.toNat).take (b.toNat - a.toNat) = ((A.drop (a - k).toNat).drop k.toNat).take (b.toNat - a.toNat) from by rw [List.drop_drop]; congr 2; omega, show b.toNat - (a - k).toNat = k.toNat + (b.toNat - a.toNat) from by omega, List.take_add]
theorem zJ.fwd (h : zJ s A a b) (hA : A.length ≤ 1024) (hk : 0 ≤ k ∧ k ≤ A.length - b) : zJ ((s.aZ.uF s.aZ.c.pt (s.aZ.c.pt + k) false).jZ 0) A a (b + k) := by
  have hlen := h.len
  have hok := h.ok
  rw [iW, h.pt]
  have hta : (A.take a.toNat).length = a.toNat := by simp; omega
  have e0 : s.c.L.drop a.toNat = A.drop b.toNat := by rw [h.L]; exact List.drop_left' hta
  have e1 : s.aZ.cut a (a + k) = (A.drop b.toNat).take k.toNat := by
    unfold bC.cut
    rw [iW, e0]; congr 1; omega
  refine h.step hA (l := (A.drop b.toNat).take k.toNat) (by omega) (by omega) e1 (by simp; omega) (by omega) rfl ?_ ?_ ?_
  · rw [show (a + k).toNat = a.toNat + k.toNat from by omega, ← List.drop_drop, e0, List.drop_drop, show b.toNat + k.toNat = (b + k).toNat from by omega]
    rw [show s.c.L.take a.toNat = A.take a.toNat from by rw [h.L]; exact List.take_left' hta]
  · intro h1 h2
    have h3 := congrArg List.length h1
    simp at h3; omega
  · simp only [Bool.false_eq_true, if_false]
    rw [show A.drop b.toNat = (A.drop a.toNat).drop (b.toNat - a.toNat) from by rw [List.drop_drop]; congr 1; omega, show (b + k).toNat - a.toNat = (b.toNat - a.toNat) + k.toNat from by omega, List.take_add]
theorem zJ.MI (h : zJ s A a b) (hA : A.length ≤ 1024) : (a = b → ((s.aZ.CG).jZ s.aZ.EO).c.L.length = A.length) ∧
    (a ≠ b → s.aZ.EO = 0 ∧ ((s.aZ.CG).jZ s.aZ.EO).c.L = A ∧ ((s.aZ.CG).jZ s.aZ.EO).c.mark = a ∧ ((s.aZ.CG).jZ s.aZ.EO).c.pt = b) := by
  have hlen := h.len
  have hok := h.ok
  have hi := uh s
  rcases h.ring with ⟨h1, h2⟩ | ⟨h1, h2, h3⟩
  · have hy : s.aZ.EO = 6 := by unfold bC.EO; rw [if_pos hi, iW, h1]; rfl
    refine ⟨fun _ => ?_, fun c => absurd h2 c⟩
    have e1 : s.aZ.CG = s.aZ := by unfold bC.CG; rw [if_neg (by rw [hy]; decide)]
    rw [e1, hy]
    have e2 : (s.aZ.jZ 6).c.L = s.c.L := by
      unfold bC.jZ; rw [if_pos hi, if_neg (by decide)]
      unfold bC.aZ bC.zn; rw [if_neg (by rw [h.inn]; decide)]
    rw [e2]; omega
  · have htop : s.aZ.top = (A.drop a.toNat).take (b.toNat - a.toNat) := by unfold bC.top; rw [iW, h1, h2]; rfl
    have htl : s.aZ.top.length = b.toNat - a.toNat := by rw [htop]; simp; omega
    have hE : nX s.c.L a a s.aZ.top = 0 := by unfold nX; rw [if_neg (by omega), if_neg (by omega)]
    have hy : s.aZ.EO = 0 := by
      unfold bC.EO bC.aeh bC.vT
      rw [if_pos hi, if_neg (by rw [iW, h1]; simp), if_pos hi, iW, h.pt, hE]
    have hta : (A.take a.toNat).length = a.toNat := by simp; omega
    have e0 : s.c.L.drop a.toNat = A.drop b.toNat := by rw [h.L]; exact List.drop_left' hta
    have e9 : s.c.L.take a.toNat = A.take a.toNat := by rw [h.L]; exact List.take_left' hta
    obtain ⟨r1, r2, r3, r4, r5, r6, r7, r8⟩ := VP hi s.aZ.c.pt s.aZ.c.pt s.aZ.top
    rw [iW, h.pt] at r1 r2
    have hI : s.aZ.O4 s.aZ.top = s.aZ.qJ s.aZ.c.pt s.aZ.c.pt s.aZ.top := rfl
    rw [iW, h.pt] at hI
    have hL2 : sZ s.c.L a a s.aZ.top = A := by
      unfold sZ; rw [if_pos hE, e0, e9, htop]
      rw [show A.drop b.toNat = (A.drop a.toNat).drop (b.toNat - a.toNat) from by rw [List.drop_drop]; congr 1; omega, List.append_assoc, List.take_append_drop, List.take_append_drop]
    have hP2 : tq s.c.L a a a s.aZ.top = b := by
      unfold tq fD; rw [if_pos hE]
      split <;> (try split) <;> omega
    have eY : s.aZ.CG = (let t := s.aZ.O4 s.aZ.top; { t with kU := true, cls := 2, c := { t.c with mark := smM t.c.L t.c.mark s.aZ.c.pt, fr := s.aZ.c.pt, to := s.aZ.c.pt + s.aZ.top.length } }) := by
      unfold bC.CG; rw [if_pos hy]
    have gL : s.aZ.CG.c.L = A := by rw [eY]; show (s.aZ.O4 s.aZ.top).c.L = A; rw [hI, iW, h.pt] at *; exact r1.trans hL2
    have gP : s.aZ.CG.c.pt = b := by rw [eY]; show (s.aZ.O4 s.aZ.top).c.pt = b; rw [hI]; exact r2.trans hP2
    have gI : s.aZ.CG.inn = true := by rw [eY]; show (s.aZ.O4 s.aZ.top).inn = true; exact r6
    have gM : s.aZ.CG.c.mark = a := by
      have gL' : (s.aZ.O4 s.aZ.top).c.L = A := by have := gL; rw [eY] at this; exact this
      rw [eY]
      show smM (s.aZ.O4 s.aZ.top).c.L (s.aZ.O4 s.aZ.top).c.mark s.aZ.c.pt = a
      rw [gL', iW, h.pt]
      unfold smM; rw [if_neg (by omega)]
    rw [hy]
    refine ⟨fun _ => by rw [Dz _ gI, gL], fun _ => ⟨rfl, (Dz _ gI).trans gL, (WX _ gI).trans gM, (Ee _ gI).trans gP⟩⟩
end
section
variable {P : Program} {L : List (Nat × Value)} {w0 w : World} {F : HP} {ty : TypeId} {α : Type} {K : Key α} {f : α → Option Value} {a : α} {b : Nat} {x y z : Operand}
theorem AZ [DecidableEq α] {t kt et : TypeId} {v : Value} (H : V w0 w (gX K b f • F)) (ht : P.underlying t = some (.map kt et)) (hk : P.underlying kt = some K.d)
    (hx : ev L x = some (.map (some b))) (hy : ev L y = some (K.mk a)) (hz : ev L z = some v) : wH P L (.insert t x y z) ty w fun _ w' => V w0 w' (gX K b (upd f a v) • F) := xw (ty := ty) (y := y) (z := z) H ht hk hx hy hz
theorem Xg {t t' kt et : TypeId} {a : Option Nat} (ht : P.underlying t = some (.map kt et)) (hx : ev L x = some (.map a)) (hy : ev L y = some (.map none)) : Val P L (.binOp .eql t x y t') ty w (.bool a.isNone) w := fun ρ hρ _ _ _ _ => by
  simp only [execOp, hρ _ _ hx, hρ _ _ hy]
  have h1 : (eqGuard .eql t x y (.map a) (.map none)).run P w = .ok () w := by unfold eqGuard; rfl
  have h2 : (Op.equal t (.map a) (.map none)).run P w = .ok a.isNone w := D8 fun d => by cases a <;> simp [Op.equalIn, run_underlying ht]
  have h3 : binOp .eql t (.map a) (.map none) = (do pure (.bool (← Op.equal t (.map a) (.map none)))) := by rfl
  simp only [Sem.run_bind, h1, Result.andThen, h3, h2]
  simp
end
def ends (T : List (Int × Int)) : List Int := T.flatMap fun x => [x.1, x.2]
section
variable {w0 w : World} {F : HP} {r : Int}
abbrev af3 : List (Int × Int) := [(48, 57), (65, 90), (97, 122)]
abbrev ahA : List (Int × Int) := [(215, 215), (247, 247), (8192, 8303), (12288, 12351), (65280, 65295), (65533, 65533)]
end
def lF (P : Int → Bool) (l : List Int) (x : Int) : Int := x + (((l.drop x.toNat).takeWhile P).length : Nat)
def xQ (P : Int → Bool) (l : List Int) (x : Int) : Int := x - (((l.take x.toNat).reverse.takeWhile P).length : Nat)
section
variable {P : Int → Bool} {l : List Int} {x : Int}
theorem kK (h : (l.length : Int) ≤ x) : lF P l x = x := by
  unfold lF
  rw [List.drop_of_length_le (by omega)]
  simp
theorem tN (h0 : 0 ≤ x) (h1 : x < l.length) (h : P (l.getD x.toNat 0) = true) : lF P l x = lF P l (x + 1) := by
  unfold lF
  rw [List.getD_eq_getElem?_getD, List.getElem?_eq_getElem (by omega), Option.getD_some] at h
  rw [List.drop_eq_getElem_cons (by omega), List.takeWhile_cons, if_pos h, show (x + 1).toNat = x.toNat + 1 from by omega, List.length_cons]
  omega
theorem mM (h0 : 0 ≤ x) (h1 : x < l.length) (h : ¬ P (l.getD x.toNat 0) = true) : lF P l x = x := by
  unfold lF
  rw [List.getD_eq_getElem?_getD, List.getElem?_eq_getElem (by omega), Option.getD_some] at h
  rw [List.drop_eq_getElem_cons (by omega), List.takeWhile_cons, if_neg h]
  simp
theorem uj (h0 : 0 ≤ x) (h1 : x ≤ l.length) : x ≤ lF P l x ∧ lF P l x ≤ l.length := by
  unfold lF
  have h2 := (List.takeWhile_sublist P (l := l.drop x.toNat)).length_le
  rw [List.length_drop] at h2
  omega
theorem xC (h : x ≤ 0) : xQ P l x = x := by
  unfold xQ
  rw [show x.toNat = 0 from by omega]
  simp
theorem Rf (h0 : 0 < x) (h1 : x ≤ l.length) : (l.take x.toNat).reverse = l.getD (x - 1).toNat 0 :: (l.take (x - 1).toNat).reverse := by
  rw [show x.toNat = (x - 1).toNat + 1 from by omega, List.take_succ_eq_append_getElem (by omega), List.reverse_append, List.getD_eq_getElem?_getD, List.getElem?_eq_getElem (by omega)]
  rfl
theorem KP (h0 : 0 < x) (h1 : x ≤ l.length) (h : P (l.getD (x - 1).toNat 0) = true) : xQ P l x = xQ P l (x - 1) := by
  unfold xQ
  rw [Rf h0 h1, List.takeWhile_cons, if_pos h, List.length_cons]
  omega
theorem zW (h0 : 0 < x) (h1 : x ≤ l.length) (h : ¬ P (l.getD (x - 1).toNat 0) = true) : xQ P l x = x := by
  unfold xQ
  rw [Rf h0 h1, List.takeWhile_cons, if_neg h]
  simp
theorem KQ (h0 : 0 ≤ x) (h1 : x ≤ l.length) : 0 ≤ xQ P l x ∧ xQ P l x ≤ x := by
  unfold xQ
  have h2 := (List.takeWhile_sublist P (l := (l.take x.toNat).reverse)).length_le
  rw [List.length_reverse, List.length_take] at h2
  omega
end
end Go.Proofs.YtpdeedplgmbopaaGreatDoor
end
section
namespace Go.Proofs.YtpdeedplgmbopaaGreatDoor
open Go.RowKit
open _root_.Go.Proofs.Tryz
def fQ (r : Int) : Int := if r = 32 ∨ r = 9 ∨ r = 10 then 0 else if r = 95 ∨ dZ r = true then 1 else 2
def dH (r : Int) (big : Bool) : Int := if big then min (fQ r) 1 else fQ r
def zX (l : List Int) (x : Int) (big : Bool) : Int :=
  lF (fun r => fQ r == 0) l (if x < l.length then (if dH (l.getD x.toNat 0) big = 0 then x else lF (fun r => dH r big == dH (l.getD x.toNat 0) big) l x) else x)
section
variable {w0 w : World} {F : HP} {r x : Int} {big : Bool} {l : List Int} {v : Value}
theorem qC (H : V w0 w F) (hT : Ae w0) : iI prog 14 #[.int .i32 r] w fun v' w' => v' = .int .i64 (fQ r) ∧ V w0 w' F := by
  refine jr func14 ntmps14 ?_
  refine jR O (aO (aY (bT O (Z (dX O O) (jJ O (fun h1 => ?_) (fun h1 => ?_))))))
  · (try simp only [aA] at h1)
    refine bF (bF (jh O O (bP O (bF (bF (jh O O (fP O (C9 (jP O (aT (aB (dK results14 O ?_))))))))))))
    exact ⟨by unfold fQ; rw [if_pos (by omega)], H⟩
  · (try simp only [aA] at h1)
    refine bg (bP O (bg (Z (dX O O) (ig O O (jJ O (fun h2 => ?_) (fun h2 => ?_))))))
    · (try simp only [aA] at h2)
      refine bF (bF (jh O O (fP O (C9 (jP O (aT (aB (dK results14 O ?_))))))))
      exact ⟨by unfold fQ; rw [if_pos (by omega)], H⟩
    · (try simp only [aA] at h2)
      refine bg (bP O (bg (Z (dX O O) (ig O O (fP O (bH O (fun h3 => ?_) (fun h3 => ?_)))))))
      · (try simp only [aA] at h3)
        refine jP O (aT (aB (dK results14 O ?_)))
        exact ⟨by unfold fQ; rw [if_pos (by omega)], H⟩
      · (try simp only [aA] at h3)
        refine bT O (Z (dX O O) (jJ O (fun h4 => ?_) (fun h4 => ?_)))
        · (try simp only [aA] at h4)
          refine bF (bF (jh O O (fP O (C9 (jP O (aT (aB (dK results14 O ?_))))))))
          exact ⟨by unfold fQ; rw [if_neg (by omega), if_pos (by first | (left; omega) | (right; assumption))], H⟩
        · (try simp only [aA] at h4)
          refine bg (bP O (bg (dS O func47 (TF H hT) ?_)))
          rintro _ w1 ⟨rfl, H1⟩
          refine ig O O (fP O (bH O (fun h5 => ?_) (fun h5 => ?_)))
          · (try simp only [aA] at h5)
            refine jP O (aT (aB (dK results14 O ?_)))
            exact ⟨by unfold fQ; rw [if_neg (by omega), if_pos (by first | (left; omega) | (right; assumption))], H1⟩
          · (try simp only [aA] at h5)
            refine dn (aK (aW (jP O (dK results14 O ?_))))
            exact ⟨by unfold fQ; rw [if_neg (by omega), if_neg (by intro c; rcases c with c | c; omega; simp_all)], H1⟩
theorem nI (H : V w0 w F) (hT : Ae w0) : iI prog 142 #[.int .i32 r, .bool big] w fun v' w' => v' = .int .i64 (dH r big) ∧ V w0 w' F := by
  refine oN func142 ntmps142 ?_
  refine jR O (aO (bT O (jL O (fun h1 => ?_) (fun h1 => ?_))))
  · (try simp only [aA] at h1)
    have hb : big = true := h1
    refine bT O (dS O func14 (qC H hT) ?_)
    rintro _ w1 ⟨rfl, H1⟩
    refine Z (Cb O O) (fC O (aB (dK results142 O ?_)))
    exact ⟨by unfold dH; rw [if_pos hb], H1⟩
  · (try simp only [aA] at h1)
    have hb : big = false := h1
    refine gQ (bT O (dS O func14 (qC H hT) ?_))
    rintro _ w2 ⟨rfl, H2⟩
    refine fC O (dK results142 O ?_)
    exact ⟨by unfold dH; rw [if_neg (by rw [hb]; decide)], H2⟩
end
end Go.Proofs.YtpdeedplgmbopaaGreatDoor
end
