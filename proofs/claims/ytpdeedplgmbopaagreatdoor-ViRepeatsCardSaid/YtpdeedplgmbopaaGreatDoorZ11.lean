import Derived.Test.YtpdeedplgmbopaaGreatDoorZ4
import Derived.Test.YtpdeedplgmbopaaGreatDoorZ10
import Derived.Test.YtpdeedplgmbopaaGreatDoorZ3
set_option linter.unusedSimpArgs false
set_option linter.unusedVariables false
/- Texts of mine, joined, their names in short: EdB EdC EdMv EdR. -/
section
namespace Go.Proofs.YtpdeedplgmbopaaGreatDoor
open Go.RowKit
open _root_.Go.Proofs.Tryz
section
variable {w0 w : World} {F : HP} {e p h pr : Nat} {s : bF} {hl : List tu} {base most m : Int} {v : Value} {l : List Int}
theorem V.yM {b : Nat} (H : V w0 w (iV uT b (fun _ => none) • F)) : V w0 w (zy b (fun _ => []) • F) :=
  V.Fg (D := []) (P := fun _ => 0) List.nodup_nil (fun _ _ => rfl) (by rw [XZ]; exact H.of_eq (by show _ = (_ • emp • _); rw [YtpdeedplgmbopaaGreatDoor.qL]))
set_option maxHeartbeats 1000000 in
theorem Gf {x0 x2 x3 x5 x6 x7 x8 x9 x10 x11 x12 y7 x14 x15 x16 x17 x18 x19 x20 x21 zV x23 x24 x25 Ak x27 x28 x29 x30 x31 x32 Bh : Value} {E : List (List Int)} {a : Nat} (H : V w0 w (eP e (.cells (x0 :: .pointer (some ⟨pr, 0, none⟩) :: x2 :: x3 :: .int .i64 m :: x5 :: x6 :: x7 :: x8 :: x9 :: x10 :: x11 :: x12 :: y7 :: x14 :: x15 :: x16 :: x17 :: x18 :: x19 :: x20 :: x21 :: zV :: x23 :: x24 :: x25 :: Ak :: x27 :: x28 :: x29 :: x30 :: x31 :: x32 :: Bh :: []).toArray 82 (0, 0)) • jC h hl base most • F)) (hr : jh w0 F .i32 v l) (hshort : l.length ≤ 1024) :
  iQ prog 111 #[.pointer (some ⟨e, 0, none⟩), .pointer (some ⟨h, 0, none⟩), v] w fun _ w' => ∃ pb pw pt pm ph, V w0 w' (eP e (.cells (.pointer (some ⟨pb, 0, none⟩) :: .pointer (some ⟨pr, 0, none⟩) :: .pointer (some ⟨pw, 0, none⟩) :: .map (some pm) :: .int .i64 m :: .bool false :: .int .i64 0 :: .int .i64 0 :: .int .i64 0 :: .int .i64 0 :: .bool false :: .pointer (some ⟨ph, 0, none⟩) :: x12 :: .bool false :: .bool false :: .int .i64 (-1) :: x16 :: x17 :: x18 :: x19 :: x20 :: x21 :: zV :: x23 :: x24 :: x25 :: Ak :: x27 :: x28 :: x29 :: x30 :: x31 :: x32 :: Bh :: []).toArray 82 (0, 0)) •
   jB pb l l.length (-1) • eP pw (.cells #[.int .i64 hl.length, .map (some pt)] 122 (0, 0)) • iV uT pt (fun _ => none) • zy pm (fun _ => []) • jC ph hl base most • jC h hl base most • F) := by
 refine zk func111 ntmps111 ?_
 refine bM O (dS O func151 (SY H (fun W HW => hr _ (HW.right.right)) hshort) ?_)
 rintro _ w1 ⟨p1, rfl, H1⟩
 refine bJ O (pW O O (pW O O (gU O (dZ O (bM O (bJ O (dS O func109 (xg H1.f3) ?_)))))))
 rintro _ w2 ⟨q2, rfl, H2⟩
 refine dK O (bI 11 aj O sizeOf78 O (aJ (gG 11 H2.f4 sizeOf78) ?_))
 rintro _ w3 H3
 refine rP ?_
 have ac2 := H3.drew
 have Bo := V.kp (ac2.f3.right.f3.f3.f3)
 refine uN [6, 17] Bo O (gX 0 O Bo O (gX 1 O Bo O (gX 2 O Bo O (jE 3 O Bo O (gy 4 O Bo 0 aj O aV O (gy 5 O Bo 1 aK O sizeOf73 O (jf 6 O Bo (fun W hW => jv uP O ((Kp.h hW)).get.2 O) (gX 7 O Bo O (gX 13 O Bo O (jE 14 O Bo O (gy 15 O Bo 0 aj O aV O (gy 16 O Bo 4 aK O ay O (jf 17 O Bo (fun W hW => jv aC O ((Kp.h hW)).get.2 O) ?_)))))))))))))
 refine aaj (i := 8) (j := 9) (k := 12) (by kernel_rfl) ?_ ?_ ?_
 ·skip
  refine lS 8 O (by kernel_rfl) (yU (Ag O func117 O O) (rE ac2.f3)) (lN O) ?_
  rintro _ w4 ⟨rfl, H4⟩
  have BN := V.kp (H4.f4.f4.f4.f4)
  refine fD BN (fun W hW => (Kp.h hW).right.f3.f3.f3) ?_
  refine BI (i := 9) (j := 12) (by kernel_rfl) ?_ ?_
  ·skip
   refine lS 9 O (by kernel_rfl) (lF (Aw .i64) H4) (lN O) ?_
   rintro _ w5 ⟨b5, rfl, H5⟩
   have Dj := V.kp (H5.f5.f5.f5.f5.f5)
   refine fD Dj (fun W hW => (Kp.h hW).right.f4.f4.f4.f4) ?_
   refine iI 10 O Dj (fun _ => fU (zl := [.int .i64 0, .map none]) (pl := [(0, 1), (1, 1)]) [_, _] iG qC O (fun w => by kernel_rfl) O (.on (.on .nil)) O) ?_
   refine BI (i := 11) (j := 12) (by kernel_rfl) ?_ ?_
   ·skip
    refine lS 11 O (by kernel_rfl) (jF (l := [_, _]) H5 O O) (lN O) ?_
    rintro _ w6 ⟨b6, rfl, H6⟩
    have Gy := V.kp (H6.f6.f6.f6.f6.f6.f6)
    refine fD Gy (fun W hW => (Kp.h hW).right.f5.f5.f5.f5.f5) ?_
    refine mQ 12 O (lF (Aw .i64) H6) ?_
    rintro _ w7 ⟨b7, rfl, H7⟩
    have En := V.kp (H7.f7.f7.f7.f7.f7.f7.f7)
    refine fD En (fun W hW => (Kp.h hW).right.f6.f6.f6.f6.f6.f6) ?_
    refine iI 18 O En (fun _ => fU (zl := [.pointer none, .pointer none, .pointer none, .map none, .int .i64 0, .bool false, .int .i64 0, .int .i64 0, .int .i64 0, .int .i64 0, .bool false]) (pl := [(0, 1), (1, 1), (2, 1), (3, 1), (4, 1), (5, 1), (6, 1), (7, 1), (8, 1), (9, 1), (10, 1)]) [_, _, _, _, _, _, _, _, _, _, _] aK oH O (fun w => by kernel_rfl) O (.on (.on (.on (.on (.on (.zero (zs := [.bool false]) O (.zero (zs := [.int .i64 0]) O (.zero (zs := [.int .i64 0]) O (.zero (zs := [.int .i64 0]) O (.zero (zs := [.int .i64 0]) O (.zero (zs := [.bool false]) O .nil))))))))))) O) ?_
    refine jE 19 O En O (gy 20 O En 0 aj O aV O ?_)
    refine iH 21 O (by kernel_rfl) (dG 0 (l' := [_, _, _, _, _, _, _, _, _, _, _, _, _, _, _, _, _, _, _, _, _, _, _, _, _, _, _, _, _, _, _, _, _, _]) (us := [_, _, _, _, _, _, _, _, _, _, _]) H7.f5 aV O O O (aG (aG (aG (aG (aG (aG (aG (aG (aG (aG (aG bW))))))))))) O O) ?_
    rintro _ w8 H8
    have VU := V.kp (H8.f7.f7.f7.f7.f7.f7.f7)
    refine iK VU (by kernel_rfl) ?_
    refine pq (aX (aB (jX O O (oq O O (bI 13 aj O aS O (aJ (gG 13 H8 aS) ?_))))))
    rintro _ w9 H9
    refine dK O (bI 14 aj O aS O (aJ (gG 14 H9 aS) ?_))
    rintro _ w10 pz
    refine dK O (bI 15 aj O ay O (aJ (gG 15 pz ay) ?_))
    rintro _ FM rY
    refine bZ (mX (.inr O) results111 ?_)
    have Rh := rY.f2
    have Ri := Rh.yM
    exact ⟨_, _, _, _, _, Ri.f5.f6.f3.f6.f6.f7.f7⟩
   ·skip
    refine lS 12 O (by kernel_rfl) (lF (Aw .i64) H5) (lN O) ?_
    rintro _ Pz ⟨b14, rfl, yF⟩
    have Hz := V.kp (yF.f6.f6.f6.f6.f6.f6)
    refine fD Hz (fun W hW => (Kp.h hW).right.f5.f5.f5.f5.f5) ?_
    refine mQ 11 O (jF (l := [_, _]) yF O O) ?_
    rintro _ QI ⟨b15, rfl, yA⟩
    have y9 := V.kp (yA.f7.f7.f7.f7.f7.f7.f7)
    refine fD y9 (fun W hW => (Kp.h hW).right.f6.f6.f6.f6.f6.f6) ?_
    refine iI 18 O y9 (fun _ => fU (zl := [.pointer none, .pointer none, .pointer none, .map none, .int .i64 0, .bool false, .int .i64 0, .int .i64 0, .int .i64 0, .int .i64 0, .bool false]) (pl := [(0, 1), (1, 1), (2, 1), (3, 1), (4, 1), (5, 1), (6, 1), (7, 1), (8, 1), (9, 1), (10, 1)]) [_, _, _, _, _, _, _, _, _, _, _] aK oH O (fun w => by kernel_rfl) O (.on (.on (.on (.on (.on (.zero (zs := [.bool false]) O (.zero (zs := [.int .i64 0]) O (.zero (zs := [.int .i64 0]) O (.zero (zs := [.int .i64 0]) O (.zero (zs := [.int .i64 0]) O (.zero (zs := [.bool false]) O .nil))))))))))) O) ?_
    refine jE 19 O y9 O (gy 20 O y9 0 aj O aV O ?_)
    refine iH 21 O (by kernel_rfl) (dG 0 (l' := [_, _, _, _, _, _, _, _, _, _, _, _, _, _, _, _, _, _, _, _, _, _, _, _, _, _, _, _, _, _, _, _, _, _]) (us := [_, _, _, _, _, _, _, _, _, _, _]) yA.f5 aV O O O (aG (aG (aG (aG (aG (aG (aG (aG (aG (aG (aG bW))))))))))) O O) ?_
    rintro _ w16 vN
    have yI := V.kp (vN.f7.f7.f7.f7.f7.f7.f7)
    refine iK yI (by kernel_rfl) ?_
    refine pq (aX (aB (jX O O (oq O O (bI 13 aj O aS O (aJ (gG 13 vN aS) ?_))))))
    rintro _ Z5 DF
    refine dK O (bI 14 aj O aS O (aJ (gG 14 DF aS) ?_))
    rintro _ w18 DZ
    refine dK O (bI 15 aj O ay O (aJ (gG 15 DZ ay) ?_))
    rintro _ w19 Ef
    refine bZ (mX (.inr O) results111 ?_)
    have aaX := Ef.f3
    have Ws := aaX.yM
    exact ⟨_, _, _, _, _, Ws.f5.f6.f3.f6.f6.f7.f7⟩
  ·skip
   refine lS 12 O (by kernel_rfl) (lF (Aw .i64) H4) (lN O) ?_
   rintro _ w22 ⟨b22, rfl, KQ⟩
   have Ig := V.kp (KQ.f5.f5.f5.f5.f5)
   refine fD Ig (fun W hW => (Kp.h hW).right.f4.f4.f4.f4) ?_
   refine mQ 9 O (lF (Aw .i64) KQ) ?_
   rintro _ w23 ⟨b23, rfl, BK⟩
   have JR := V.kp (BK.f6.f6.f6.f6.f6.f6)
   refine fD JR (fun W hW => (Kp.h hW).right.f5.f5.f5.f5.f5) ?_
   refine iI 10 O JR (fun _ => fU (zl := [.int .i64 0, .map none]) (pl := [(0, 1), (1, 1)]) [_, _] iG qC O (fun w => by kernel_rfl) O (.on (.on .nil)) O) ?_
   refine mQ 11 O (jF (l := [_, _]) BK O O) ?_
   rintro _ w24 ⟨b24, rfl, Oi⟩
   have MS := V.kp (Oi.f7.f7.f7.f7.f7.f7.f7)
   refine fD MS (fun W hW => (Kp.h hW).right.f6.f6.f6.f6.f6.f6) ?_
   refine iI 18 O MS (fun _ => fU (zl := [.pointer none, .pointer none, .pointer none, .map none, .int .i64 0, .bool false, .int .i64 0, .int .i64 0, .int .i64 0, .int .i64 0, .bool false]) (pl := [(0, 1), (1, 1), (2, 1), (3, 1), (4, 1), (5, 1), (6, 1), (7, 1), (8, 1), (9, 1), (10, 1)]) [_, _, _, _, _, _, _, _, _, _, _] aK oH O (fun w => by kernel_rfl) O (.on (.on (.on (.on (.on (.zero (zs := [.bool false]) O (.zero (zs := [.int .i64 0]) O (.zero (zs := [.int .i64 0]) O (.zero (zs := [.int .i64 0]) O (.zero (zs := [.int .i64 0]) O (.zero (zs := [.bool false]) O .nil))))))))))) O) ?_
   refine jE 19 O MS O (gy 20 O MS 0 aj O aV O ?_)
   refine iH 21 O (by kernel_rfl) (dG 0 (l' := [_, _, _, _, _, _, _, _, _, _, _, _, _, _, _, _, _, _, _, _, _, _, _, _, _, _, _, _, _, _, _, _, _, _]) (us := [_, _, _, _, _, _, _, _, _, _, _]) Oi.f5 aV O O O (aG (aG (aG (aG (aG (aG (aG (aG (aG (aG (aG bW))))))))))) O O) ?_
   rintro _ w25 Sz
   have JW := V.kp (Sz.f7.f7.f7.f7.f7.f7.f7)
   refine iK JW (by kernel_rfl) ?_
   refine pq (aX (aB (jX O O (oq O O (bI 13 aj O aS O (aJ (gG 13 Sz aS) ?_))))))
   rintro _ w26 Tf
   refine dK O (bI 14 aj O aS O (aJ (gG 14 Tf aS) ?_))
   rintro _ w27 KR
   refine dK O (bI 15 aj O ay O (aJ (gG 15 KR ay) ?_))
   rintro _ w28 H28
   refine bZ (mX (.inr O) results111 ?_)
   have ae7 := H28.f4
   have ae8 := ae7.yM
   exact ⟨_, _, _, _, _, ae8.f5.f6.f3.f6.f6.f7.f7⟩
 ·skip
  refine lS 9 O (by kernel_rfl) (lF (Aw .i64) ac2) (lN O) ?_
  rintro _ w31 ⟨b31, rfl, Vo⟩
  have aaY := V.kp (Vo.f4.right.f4.f4.f4.f4)
  refine fD aaY (fun W hW => (Kp.h hW).right.f3.f3.f3) ?_
  refine BI (i := 8) (j := 12) (by kernel_rfl) ?_ ?_
  ·skip
   refine lS 8 O (by kernel_rfl) (yU (Ag O func117 O O) (rE Vo.f4)) (lN O) ?_
   rintro _ w32 ⟨rfl, PE⟩
   have X3 := V.kp (PE.f5.f5.f5.f5.f5)
   refine fD X3 (fun W hW => (Kp.h hW).right.f4.f4.f4.f4) ?_
   refine iI 10 O X3 (fun _ => fU (zl := [.int .i64 0, .map none]) (pl := [(0, 1), (1, 1)]) [_, _] iG qC O (fun w => by kernel_rfl) O (.on (.on .nil)) O) ?_
   refine BI (i := 11) (j := 12) (by kernel_rfl) ?_ ?_
   ·skip
    refine lS 11 O (by kernel_rfl) (jF (l := [_, _]) PE O O) (lN O) ?_
    rintro _ w33 ⟨b33, rfl, Vp⟩
    have X5 := V.kp (Vp.f6.f6.f6.f6.f6.f6)
    refine fD X5 (fun W hW => (Kp.h hW).right.f5.f5.f5.f5.f5) ?_
    refine mQ 12 O (lF (Aw .i64) Vp) ?_
    rintro _ w34 ⟨b34, rfl, X6⟩
    have PV := V.kp (X6.f7.f7.f7.f7.f7.f7.f7)
    refine fD PV (fun W hW => (Kp.h hW).right.f6.f6.f6.f6.f6.f6) ?_
    refine iI 18 O PV (fun _ => fU (zl := [.pointer none, .pointer none, .pointer none, .map none, .int .i64 0, .bool false, .int .i64 0, .int .i64 0, .int .i64 0, .int .i64 0, .bool false]) (pl := [(0, 1), (1, 1), (2, 1), (3, 1), (4, 1), (5, 1), (6, 1), (7, 1), (8, 1), (9, 1), (10, 1)]) [_, _, _, _, _, _, _, _, _, _, _] aK oH O (fun w => by kernel_rfl) O (.on (.on (.on (.on (.on (.zero (zs := [.bool false]) O (.zero (zs := [.int .i64 0]) O (.zero (zs := [.int .i64 0]) O (.zero (zs := [.int .i64 0]) O (.zero (zs := [.int .i64 0]) O (.zero (zs := [.bool false]) O .nil))))))))))) O) ?_
    refine jE 19 O PV O (gy 20 O PV 0 aj O aV O ?_)
    refine iH 21 O (by kernel_rfl) (dG 0 (l' := [_, _, _, _, _, _, _, _, _, _, _, _, _, _, _, _, _, _, _, _, _, _, _, _, _, _, _, _, _, _, _, _, _, _]) (us := [_, _, _, _, _, _, _, _, _, _, _]) X6.f5 aV O O O (aG (aG (aG (aG (aG (aG (aG (aG (aG (aG (aG bW))))))))))) O O) ?_
    rintro _ w35 H35
    have JX := V.kp (H35.f7.f7.f7.f7.f7.f7.f7)
    refine iK JX (by kernel_rfl) ?_
    refine pq (aX (aB (jX O O (oq O O (bI 13 aj O aS O (aJ (gG 13 H35 aS) ?_))))))
    rintro _ w36 H36
    refine dK O (bI 14 aj O aS O (aJ (gG 14 H36 aS) ?_))
    rintro _ w37 H37
    refine dK O (bI 15 aj O ay O (aJ (gG 15 H37 ay) ?_))
    rintro _ w38 Wu
    refine bZ (mX (.inr O) results111 ?_)
    have aik := Wu.f2
    have ail := aik.yM
    exact ⟨_, _, _, _, _, ail.f4.f6.f3.f6.f6.f7.f7⟩
   ·skip
    refine lS 12 O (by kernel_rfl) (lF (Aw .i64) PE) (lN O) ?_
    rintro _ w41 ⟨b41, rfl, H41⟩
    have aaZ := V.kp (H41.f6.f6.f6.f6.f6.f6)
    refine fD aaZ (fun W hW => (Kp.h hW).right.f5.f5.f5.f5.f5) ?_
    refine mQ 11 O (jF (l := [_, _]) H41 O O) ?_
    rintro _ w42 ⟨b42, rfl, H42⟩
    have PW := V.kp (H42.f7.f7.f7.f7.f7.f7.f7)
    refine fD PW (fun W hW => (Kp.h hW).right.f6.f6.f6.f6.f6.f6) ?_
    refine iI 18 O PW (fun _ => fU (zl := [.pointer none, .pointer none, .pointer none, .map none, .int .i64 0, .bool false, .int .i64 0, .int .i64 0, .int .i64 0, .int .i64 0, .bool false]) (pl := [(0, 1), (1, 1), (2, 1), (3, 1), (4, 1), (5, 1), (6, 1), (7, 1), (8, 1), (9, 1), (10, 1)]) [_, _, _, _, _, _, _, _, _, _, _] aK oH O (fun w => by kernel_rfl) O (.on (.on (.on (.on (.on (.zero (zs := [.bool false]) O (.zero (zs := [.int .i64 0]) O (.zero (zs := [.int .i64 0]) O (.zero (zs := [.int .i64 0]) O (.zero (zs := [.int .i64 0]) O (.zero (zs := [.bool false]) O .nil))))))))))) O) ?_
    refine jE 19 O PW O (gy 20 O PW 0 aj O aV O ?_)
    refine iH 21 O (by kernel_rfl) (dG 0 (l' := [_, _, _, _, _, _, _, _, _, _, _, _, _, _, _, _, _, _, _, _, _, _, _, _, _, _, _, _, _, _, _, _, _, _]) (us := [_, _, _, _, _, _, _, _, _, _, _]) H42.f5 aV O O O (aG (aG (aG (aG (aG (aG (aG (aG (aG (aG (aG bW))))))))))) O O) ?_
    rintro _ w43 H43
    have aa0 := V.kp (H43.f7.f7.f7.f7.f7.f7.f7)
    refine iK aa0 (by kernel_rfl) ?_
    refine pq (aX (aB (jX O O (oq O O (bI 13 aj O aS O (aJ (gG 13 H43 aS) ?_))))))
    rintro _ w44 H44
    refine dK O (bI 14 aj O aS O (aJ (gG 14 H44 aS) ?_))
    rintro _ w45 Vq
    refine dK O (bI 15 aj O ay O (aJ (gG 15 Vq ay) ?_))
    rintro _ w46 H46
    refine bZ (mX (.inr O) results111 ?_)
    have aim := H46.f3
    have ain := aim.yM
    exact ⟨_, _, _, _, _, ain.f4.f6.f3.f6.f6.f7.f7⟩
  ·skip
   refine lS 12 O (by kernel_rfl) (lF (Aw .i64) Vo) (lN O) ?_
   rintro _ w49 ⟨b49, rfl, H49⟩
   have agP := V.kp (H49.f5.right.f5.f5.f5.f5.f5)
   refine fD agP (fun W hW => (Kp.h hW).right.f4.f4.f4.f4) ?_
   refine mQ 8 O (wR O func117 (rE H49.f5)) ?_
   rintro _ w50 ⟨rfl, H50⟩
   have aee := V.kp (H50.f6.f6.f6.f6.f6.f6)
   refine fD aee (fun W hW => (Kp.h hW).right.f5.f5.f5.f5.f5) ?_
   refine iI 10 O aee (fun _ => fU (zl := [.int .i64 0, .map none]) (pl := [(0, 1), (1, 1)]) [_, _] iG qC O (fun w => by kernel_rfl) O (.on (.on .nil)) O) ?_
   refine mQ 11 O (jF (l := [_, _]) H50 O O) ?_
   rintro _ w51 ⟨b51, rfl, H51⟩
   have X7 := V.kp (H51.f7.f7.f7.f7.f7.f7.f7)
   refine fD X7 (fun W hW => (Kp.h hW).right.f6.f6.f6.f6.f6.f6) ?_
   refine iI 18 O X7 (fun _ => fU (zl := [.pointer none, .pointer none, .pointer none, .map none, .int .i64 0, .bool false, .int .i64 0, .int .i64 0, .int .i64 0, .int .i64 0, .bool false]) (pl := [(0, 1), (1, 1), (2, 1), (3, 1), (4, 1), (5, 1), (6, 1), (7, 1), (8, 1), (9, 1), (10, 1)]) [_, _, _, _, _, _, _, _, _, _, _] aK oH O (fun w => by kernel_rfl) O (.on (.on (.on (.on (.on (.zero (zs := [.bool false]) O (.zero (zs := [.int .i64 0]) O (.zero (zs := [.int .i64 0]) O (.zero (zs := [.int .i64 0]) O (.zero (zs := [.int .i64 0]) O (.zero (zs := [.bool false]) O .nil))))))))))) O) ?_
   refine jE 19 O X7 O (gy 20 O X7 0 aj O aV O ?_)
   refine iH 21 O (by kernel_rfl) (dG 0 (l' := [_, _, _, _, _, _, _, _, _, _, _, _, _, _, _, _, _, _, _, _, _, _, _, _, _, _, _, _, _, _, _, _, _, _]) (us := [_, _, _, _, _, _, _, _, _, _, _]) H51.f5 aV O O O (aG (aG (aG (aG (aG (aG (aG (aG (aG (aG (aG bW))))))))))) O O) ?_
   rintro _ w52 H52
   have agQ := V.kp (H52.f7.f7.f7.f7.f7.f7.f7)
   refine iK agQ (by kernel_rfl) ?_
   refine pq (aX (aB (jX O O (oq O O (bI 13 aj O aS O (aJ (gG 13 H52 aS) ?_))))))
   rintro _ w53 H53
   refine dK O (bI 14 aj O aS O (aJ (gG 14 H53 aS) ?_))
   rintro _ w54 H54
   refine dK O (bI 15 aj O ay O (aJ (gG 15 H54 ay) ?_))
   rintro _ w55 H55
   refine bZ (mX (.inr O) results111 ?_)
   have aio := H55.f4
   have aip := aio.yM
   exact ⟨_, _, _, _, _, aip.f4.f6.f3.f6.f6.f7.f7⟩
 ·skip
  refine lS 12 O (by kernel_rfl) (lF (Aw .i64) ac2) (lN O) ?_
  rintro _ w58 ⟨b58, rfl, H58⟩
  have agR := V.kp (H58.f4.right.f4.f4.f4.f4)
  refine fD agR (fun W hW => (Kp.h hW).right.f3.f3.f3) ?_
  refine BI (i := 8) (j := 9) (by kernel_rfl) ?_ ?_
  ·skip
   refine lS 8 O (by kernel_rfl) (yU (Ag O func117 O O) (rE H58.f4)) (lN O) ?_
   rintro _ w59 ⟨rfl, H59⟩
   have agS := V.kp (H59.f5.f5.f5.f5.f5)
   refine fD agS (fun W hW => (Kp.h hW).right.f4.f4.f4.f4) ?_
   refine mQ 9 O (lF (Aw .i64) H59) ?_
   rintro _ w60 ⟨b60, rfl, H60⟩
   have aef := V.kp (H60.f6.f6.f6.f6.f6.f6)
   refine fD aef (fun W hW => (Kp.h hW).right.f5.f5.f5.f5.f5) ?_
   refine iI 10 O aef (fun _ => fU (zl := [.int .i64 0, .map none]) (pl := [(0, 1), (1, 1)]) [_, _] iG qC O (fun w => by kernel_rfl) O (.on (.on .nil)) O) ?_
   refine mQ 11 O (jF (l := [_, _]) H60 O O) ?_
   rintro _ w61 ⟨b61, rfl, H61⟩
   have X8 := V.kp (H61.f7.f7.f7.f7.f7.f7.f7)
   refine fD X8 (fun W hW => (Kp.h hW).right.f6.f6.f6.f6.f6.f6) ?_
   refine iI 18 O X8 (fun _ => fU (zl := [.pointer none, .pointer none, .pointer none, .map none, .int .i64 0, .bool false, .int .i64 0, .int .i64 0, .int .i64 0, .int .i64 0, .bool false]) (pl := [(0, 1), (1, 1), (2, 1), (3, 1), (4, 1), (5, 1), (6, 1), (7, 1), (8, 1), (9, 1), (10, 1)]) [_, _, _, _, _, _, _, _, _, _, _] aK oH O (fun w => by kernel_rfl) O (.on (.on (.on (.on (.on (.zero (zs := [.bool false]) O (.zero (zs := [.int .i64 0]) O (.zero (zs := [.int .i64 0]) O (.zero (zs := [.int .i64 0]) O (.zero (zs := [.int .i64 0]) O (.zero (zs := [.bool false]) O .nil))))))))))) O) ?_
   refine jE 19 O X8 O (gy 20 O X8 0 aj O aV O ?_)
   refine iH 21 O (by kernel_rfl) (dG 0 (l' := [_, _, _, _, _, _, _, _, _, _, _, _, _, _, _, _, _, _, _, _, _, _, _, _, _, _, _, _, _, _, _, _, _, _]) (us := [_, _, _, _, _, _, _, _, _, _, _]) H61.f5 aV O O O (aG (aG (aG (aG (aG (aG (aG (aG (aG (aG (aG bW))))))))))) O O) ?_
   rintro _ w62 H62
   have agT := V.kp (H62.f7.f7.f7.f7.f7.f7.f7)
   refine iK agT (by kernel_rfl) ?_
   refine pq (aX (aB (jX O O (oq O O (bI 13 aj O aS O (aJ (gG 13 H62 aS) ?_))))))
   rintro _ w63 H63
   refine dK O (bI 14 aj O aS O (aJ (gG 14 H63 aS) ?_))
   rintro _ w64 H64
   refine dK O (bI 15 aj O ay O (aJ (gG 15 H64 ay) ?_))
   rintro _ w65 H65
   refine bZ (mX (.inr O) results111 ?_)
   have aiq := H65.f5
   have air := aiq.yM
   exact ⟨_, _, _, _, _, air.f5.f6.f3.f6.f6.f7.f7⟩
  ·skip
   refine lS 9 O (by kernel_rfl) (lF (Aw .i64) H58) (lN O) ?_
   rintro _ w68 ⟨b68, rfl, H68⟩
   have agU := V.kp (H68.f5.right.f5.f5.f5.f5.f5)
   refine fD agU (fun W hW => (Kp.h hW).right.f4.f4.f4.f4) ?_
   refine mQ 8 O (wR O func117 (rE H68.f5)) ?_
   rintro _ w69 ⟨rfl, H69⟩
   have aeg := V.kp (H69.f6.f6.f6.f6.f6.f6)
   refine fD aeg (fun W hW => (Kp.h hW).right.f5.f5.f5.f5.f5) ?_
   refine iI 10 O aeg (fun _ => fU (zl := [.int .i64 0, .map none]) (pl := [(0, 1), (1, 1)]) [_, _] iG qC O (fun w => by kernel_rfl) O (.on (.on .nil)) O) ?_
   refine mQ 11 O (jF (l := [_, _]) H69 O O) ?_
   rintro _ w70 ⟨b70, rfl, H70⟩
   have X9 := V.kp (H70.f7.f7.f7.f7.f7.f7.f7)
   refine fD X9 (fun W hW => (Kp.h hW).right.f6.f6.f6.f6.f6.f6) ?_
   refine iI 18 O X9 (fun _ => fU (zl := [.pointer none, .pointer none, .pointer none, .map none, .int .i64 0, .bool false, .int .i64 0, .int .i64 0, .int .i64 0, .int .i64 0, .bool false]) (pl := [(0, 1), (1, 1), (2, 1), (3, 1), (4, 1), (5, 1), (6, 1), (7, 1), (8, 1), (9, 1), (10, 1)]) [_, _, _, _, _, _, _, _, _, _, _] aK oH O (fun w => by kernel_rfl) O (.on (.on (.on (.on (.on (.zero (zs := [.bool false]) O (.zero (zs := [.int .i64 0]) O (.zero (zs := [.int .i64 0]) O (.zero (zs := [.int .i64 0]) O (.zero (zs := [.int .i64 0]) O (.zero (zs := [.bool false]) O .nil))))))))))) O) ?_
   refine jE 19 O X9 O (gy 20 O X9 0 aj O aV O ?_)
   refine iH 21 O (by kernel_rfl) (dG 0 (l' := [_, _, _, _, _, _, _, _, _, _, _, _, _, _, _, _, _, _, _, _, _, _, _, _, _, _, _, _, _, _, _, _, _, _]) (us := [_, _, _, _, _, _, _, _, _, _, _]) H70.f5 aV O O O (aG (aG (aG (aG (aG (aG (aG (aG (aG (aG (aG bW))))))))))) O O) ?_
   rintro _ w71 H71
   have agV := V.kp (H71.f7.f7.f7.f7.f7.f7.f7)
   refine iK agV (by kernel_rfl) ?_
   refine pq (aX (aB (jX O O (oq O O (bI 13 aj O aS O (aJ (gG 13 H71 aS) ?_))))))
   rintro _ w72 H72
   refine dK O (bI 14 aj O aS O (aJ (gG 14 H72 aS) ?_))
   rintro _ w73 H73
   refine dK O (bI 15 aj O ay O (aJ (gG 15 H73 ay) ?_))
   rintro _ w74 H74
   refine bZ (mX (.inr O) results111 ?_)
   have ais := H74.f5
   have ait := ais.yM
   exact ⟨_, _, _, _, _, ait.f4.f6.f3.f6.f6.f7.f7⟩
theorem V.Gz {c : oQ} {u : List Value} (H : V w0 w F) (hu : (u.all fun x => x.oneCell') = true) : V w0 w (yL false c u • F) := by
  unfold yL
  rw [if_neg (by decide)]
  exact H.mW hu
theorem AA {inn : Bool} {c : oQ} {u : List Value} (H : V w0 w (yL inn c u • F)) : (u.all fun x => x.oneCell') = true := by
  unfold yL at H
  cases inn with
  | true =>
    rw [if_pos rfl] at H
    obtain ⟨⟨pb, pr, pw, pt, pm⟩, H⟩ := H.oN
    obtain ⟨h, _⟩ := H.flat.fact
    rw [h]; rfl
  | false =>
    rw [if_neg (by decide)] at H
    exact H.fact.1
theorem V.ae9 {pb pr pw pt pm : Nat} {c : oQ} (H : V w0 w (jB pb c.L c.pt c.mark • gq pr c.E c.at_ • eP pw (.cells #[.int .i64 c.place, .map (some pt)] 122 (0, 0)) • iV uT pt (xw c.tx) • zy pm c.un • F)) : V w0 w (yL true c (TU pb pr pw pm c) • F) := by
  unfold yL
  rw [if_pos rfl]
  exact V.jV (pb, pr, pw, pt, pm) (V.deep (V.mW rfl (H.of_eq (by unfold Wn; simp only [dH]))))
theorem V.was {c : oQ} {u : List Value} (H : V w0 w (yL true c u • F)) : ∃ pb pr pw pt pm, u = TU pb pr pw pm c ∧ V w0 w (jB pb c.L c.pt c.mark • gq pr c.E c.at_ • eP pw (.cells #[.int .i64 c.place, .map (some pt)] 122 (0, 0)) • iV uT pt (xw c.tx) • zy pm c.un • F) := by
  unfold yL at H
  rw [if_pos rfl] at H
  obtain ⟨⟨pb, pr, pw, pt, pm⟩, H⟩ := H.oN
  obtain ⟨h, H⟩ := H.flat.fact
  exact ⟨pb, pr, pw, pt, pm, h, H.of_eq (by unfold Wn; simp only [dH])⟩
theorem V.MV {pb pr pw pt pm ph bl : Nat} {u0 u1 u2 u3 u4 u5 u6 u7 u8 u9 ua : Value} (h1 : nT s) (hp : s.put = []) (H : V w0 w (eP e (.cells (.pointer (some ⟨pb, 0, none⟩) :: .pointer (some ⟨pr, 0, none⟩) :: .pointer (some ⟨pw, 0, none⟩) :: .map (some pm) :: .int .i64 s.c.mode :: .bool s.c.over :: .int .i64 s.c.last :: .int .i64 s.c.fr :: .int .i64 s.c.to :: .int .i64 s.c.res :: .bool s.c.run :: .pointer (some ⟨ph, 0, none⟩) :: .pointer (some ⟨bl, 0, none⟩) :: .bool s.given :: .bool s.minus :: .int .i64 s.arg :: .bool s.inn :: u0 :: u1 :: u2 :: u3 :: u4 :: u5 :: u6 :: u7 :: u8 :: u9 :: ua :: .int .i64 s.cls :: .bool s.killed :: .bool s.lT :: .bool s.argues :: .bool s.whole :: .slice none 0 0 :: []).toArray 82 (0, 0)) • jB pb s.c.L s.c.pt s.c.mark • gq pr s.c.E s.c.at_ • eP pw (.cells #[.int .i64 s.c.place, .map (some pt)] 122 (0, 0)) • iV uT pt (xw s.c.tx) • zy pm s.c.un • jC ph s.hl s.base s.most • eP bl (.cells #[.int .i64 s.qQ] 161 (0, 0)) • yL s.inn s.was [u0, u1, u2, u3, u4, u5, u6, u7, u8, u9, ua] • F)) : V w0 w (eH e s • F) := by
  refine V.jg (pb := pb) (pr := pr) (pw := pw) (pt := pt) (pm := pm) (ph := ph) (bl := bl) (u0 := u0) (u1 := u1) (u2 := u2) (u3 := u3) (u4 := u4) (u5 := u5) (u6 := u6) (u7 := u7) (u8 := u8) (u9 := u9) (ua := ua) (pv := .slice none 0 0) (es := []) h1 (by rw [hp]; rfl) ?_
  rw [hp]
  exact (H.vk none).of_eq (by unfold Oj; ac_rfl)
theorem V.Wv {pb pr pw pt pm ph bl : Nat} {u0 u1 u2 u3 u4 u5 u6 u7 u8 u9 ua : Value} (h1 : nT s) (hp : s.put = []) (hi : s.inn = false) (H : V w0 w (eP e (.cells (.pointer (some ⟨pb, 0, none⟩) :: .pointer (some ⟨pr, 0, none⟩) :: .pointer (some ⟨pw, 0, none⟩) :: .map (some pm) :: .int .i64 s.c.mode :: .bool s.c.over :: .int .i64 s.c.last :: .int .i64 s.c.fr :: .int .i64 s.c.to :: .int .i64 s.c.res :: .bool s.c.run :: .pointer (some ⟨ph, 0, none⟩) :: .pointer (some ⟨bl, 0, none⟩) :: .bool s.given :: .bool s.minus :: .int .i64 s.arg :: .bool false :: u0 :: u1 :: u2 :: u3 :: u4 :: u5 :: u6 :: u7 :: u8 :: u9 :: ua :: .int .i64 s.cls :: .bool s.killed :: .bool s.lT :: .bool s.argues :: .bool s.whole :: .slice none 0 0 :: []).toArray 82 (0, 0)) • jB pb s.c.L s.c.pt s.c.mark • gq pr s.c.E s.c.at_ • eP pw (.cells #[.int .i64 s.c.place, .map (some pt)] 122 (0, 0)) • iV uT pt (xw s.c.tx) • zy pm s.c.un • jC ph s.hl s.base s.most • eP bl (.cells #[.int .i64 s.qQ] 161 (0, 0)) • F)) (hu : ([u0, u1, u2, u3, u4, u5, u6, u7, u8, u9, ua].all fun x => x.oneCell') = true := by rfl) : V w0 w (eH e s • F) := by
  refine V.MV (pb := pb) (pr := pr) (pw := pw) (pt := pt) (pm := pm) (ph := ph) (bl := bl) (u0 := u0) (u1 := u1) (u2 := u2) (u3 := u3) (u4 := u4) (u5 := u5) (u6 := u6) (u7 := u7) (u8 := u8) (u9 := u9) (ua := ua) h1 hp ?_
  rw [hi]
  exact (H.Gz (c := s.was) (u := [u0, u1, u2, u3, u4, u5, u6, u7, u8, u9, ua]) hu).of_eq (by ac_rfl)
theorem V.aa1 {pb pr pw pt pm ph bl : Nat} {u0 u1 u2 u3 u4 u5 u6 u7 u8 u9 ua : Value} {pv : Value} {es : List fM} (h1 : nT s) (h2 : es.map fM.says = s.put) (H : V w0 w (Oj pv es • eP e (.cells (.pointer (some ⟨pb, 0, none⟩) :: .pointer (some ⟨pr, 0, none⟩) :: .pointer (some ⟨pw, 0, none⟩) :: .map (some pm) :: .int .i64 s.c.mode :: .bool s.c.over :: .int .i64 s.c.last :: .int .i64 s.c.fr :: .int .i64 s.c.to :: .int .i64 s.c.res :: .bool s.c.run :: .pointer (some ⟨ph, 0, none⟩) :: .pointer (some ⟨bl, 0, none⟩) :: .bool s.given :: .bool s.minus :: .int .i64 s.arg :: .bool s.inn :: u0 :: u1 :: u2 :: u3 :: u4 :: u5 :: u6 :: u7 :: u8 :: u9 :: ua :: .int .i64 s.cls :: .bool s.killed :: .bool s.lT :: .bool s.argues :: .bool s.whole :: pv :: []).toArray 82 (0, 0)) • jB pb s.c.L s.c.pt s.c.mark • gq pr s.c.E s.c.at_ • eP pw (.cells #[.int .i64 s.c.place, .map (some pt)] 122 (0, 0)) • iV uT pt (xw s.c.tx) • zy pm s.c.un • jC ph s.hl s.base s.most • eP bl (.cells #[.int .i64 s.qQ] 161 (0, 0)) • yL s.inn s.was [u0, u1, u2, u3, u4, u5, u6, u7, u8, u9, ua] • F)) : V w0 w (eH e s • F) := by
  refine V.jg (pb := pb) (pr := pr) (pw := pw) (pt := pt) (pm := pm) (ph := ph) (bl := bl) (u0 := u0) (u1 := u1) (u2 := u2) (u3 := u3) (u4 := u4) (u5 := u5) (u6 := u6) (u7 := u7) (u8 := u8) (u9 := u9) (ua := ua) (pv := pv) (es := es) h1 h2 ?_
  have hl : s.put.length = es.length := by rw [← h2]; simp
  rw [hl]
  exact H.of_eq (by unfold Oj; ac_rfl)
theorem aa2 : ig [] [] = 0 := rfl
theorem Uc (hl : List tu) (l : List Int) (E : List (List Int)) (a : Nat) (m : Int) : Wp hl (oQ.fresh l E a hl.length m) := ⟨by simp [oQ.fresh], by simp [oQ.fresh], by simp [oQ.fresh]⟩
theorem Rj (hl : List tu) (base most : Int) : nT (bF.new hl base most) :=
  ⟨Uc _ _ _ _ _, by simp [bF.new], by simp [bF.new], by simp [bF.new], by simp [bF.new, bF.here, oQ.fresh, ig], by simp [bF.new, oQ.fresh]⟩
theorem Wx (H : V w0 w (jC h hl base most • F)) : iQ prog 57 #[.pointer (some ⟨h, 0, none⟩)] w fun v w' => ∃ e, v = .tuple #[.pointer (some ⟨e, 0, none⟩), .int .i64 0] ∧ V w0 w' (eH e (bF.new hl base most) • jC h hl base most • F) := by
  refine ji func57 ntmps57 ?_
  refine iy (gU O (uf O (bM O (dS O func109 (xg H) ?_))))
  rintro _ w1 ⟨q1, rfl, H1⟩
  refine aQ (iJ lM O O) (iE (Oh O (fun h1 => ?_)))
  (try simp only [Z] at h1)
  refine fV (iy (aQ (fU (zl := [.int .i64 0]) (pl := [(0, 0), (0, 0), (0, 1)]) [_] underlying161 zeroValue161 O (fun w => by kernel_rfl) O (.zero (zs := []) O (.zero (zs := []) O (.zero (zs := [.int .i64 0]) O .nil))) O) (kF (jF (l := [_]) H1 O O) ?_)))
  rintro _ w2 ⟨b2, rfl, H2⟩
  refine aQ (fU (zl := [.pointer none, .pointer none, .pointer none, .map none, .int .i64 0, .bool false, .int .i64 0, .int .i64 0, .int .i64 0, .int .i64 0, .bool false, .pointer none, .pointer none, .bool false, .bool false, .int .i64 0, .bool false, .pointer none, .pointer none, .pointer none, .map none, .int .i64 0, .bool false, .int .i64 0, .int .i64 0, .int .i64 0, .int .i64 0, .bool false, .int .i64 0, .bool false, .bool false, .bool false, .bool false, .slice none 0 0]) (pl := [(0, 11), (11, 1), (12, 1), (13, 1), (14, 1), (15, 1), (16, 1), (17, 11), (28, 1), (29, 1), (30, 1), (31, 1), (32, 1), (33, 1)]) [_, _, _, _, _, _, _, _, _, _, _, _, _, _, _, _, _, _, _, _, _, _, _, _, _, _, _, _, _, _, _, _, _, _] aj zeroValue82 O (fun w => by kernel_rfl) O (.zero (zs := [.pointer none, .pointer none, .pointer none, .map none, .int .i64 0, .bool false, .int .i64 0, .int .i64 0, .int .i64 0, .int .i64 0, .bool false]) O (.zero (zs := [.pointer none]) O (.on (.zero (zs := [.bool false]) O (.zero (zs := [.bool false]) O (.zero (zs := [.int .i64 0]) O (.zero (zs := [.bool false]) O (.zero (zs := [.pointer none, .pointer none, .pointer none, .map none, .int .i64 0, .bool false, .int .i64 0, .int .i64 0, .int .i64 0, .int .i64 0, .bool false]) O (.zero (zs := [.int .i64 0]) O (.zero (zs := [.bool false]) O (.zero (zs := [.bool false]) O (.zero (zs := [.bool false]) O (.zero (zs := [.bool false]) O (.zero (zs := [.slice none 0 0]) O .nil)))))))))))))) O) ?_
  refine kF (jF (l := [_, _, _, _, _, _, _, _, _, _, _, _, _, _, _, _, _, _, _, _, _, _, _, _, _, _, _, _, _, _, _, _, _, _]) H2 O O) ?_
  rintro _ w3 ⟨b3, rfl, H3⟩
  refine dZ O (bM O (dS O func110 (QK H3) ?_))
  rintro _ w4 ⟨p4, rfl, H4⟩
  refine dK O (bI 0 aj O aV O (bI 1 aK O sizeOf73 O (aJ (gG 1 H4.f2 sizeOf73) ?_)))
  rintro _ w5 H5
  refine sG O (bJ O (dS O func111 (Gf (E := []) (a := 0) H5.f4.right.f3.f3.f4.f4 (l := []) (fun W _ => fJ.nil W _ none 0 (by decide)) (by decide)) ?_))
  rintro _ w6 ⟨qb, qw, qt, qm, qh, H6⟩
  refine sG O (gU O (fA O (KP results57 O O ?_)))
  exact ⟨_, O, V.Wv (s := bF.new hl base most) (Rj _ _ _) O O H6.f7.f9.f8.f8.f8.f8.f9.f9.f9⟩
end
section
variable {w0 w : World} {F : HP} {e p h pr : Nat} {s : bF} {hl : List tu} {base most m : Int} {v : Value} {l : List Int}
theorem uo (h : s.inn = false) : s.bH = { s with inn := true, was := s.c, cls := 0, killed := false, lT := false, argues := false, whole := true, put := [] } := by unfold bF.bH; rw [if_neg (by simp [h])]
theorem MW (h : s.inn = true) : s.bH = s := by unfold bF.bH; rw [if_pos h]
theorem Ya {G : List (List jl)} {N : List jl} (h : ig G N ≤ 16384) : ig G [] ≤ 16384 := by unfold ig at *; simp at *; omega
theorem Ud (h : nT s) (hi : s.inn = false) : nT s.bH := by
  rw [uo hi]
  obtain ⟨h1, h2, h3, h4, h5, h6⟩ := h
  exact ⟨h1, fun _ => ⟨h1, Ya h5, h6⟩, h3, by simp, Ya h5, h6⟩
theorem Ij (H : V w0 w (eH e s • F)) : iQ prog 29 #[.pointer (some ⟨e, 0, none⟩)] w fun v w' => v = .int .i64 s.Dp ∧ V w0 w' (eH e s.bH • F) := by
 refine ji func29 ntmps29 ?_
 refine ku O (aI (bf (bM O (dS O func65 (tJ H) ?_))))
 rintro _ _ ⟨rfl, rfl⟩
 refine dZ O (oh (aI ?_))
 obtain ⟨zB, zC, zD, zF, zG, zH, zI, zJ, xM, wu, wz, wB, wC, wE, wF, wG, wH, wI, wJ, wK, iZ, dL, lU, jo⟩ := (H).JV
 refine aB (oq O O (bI 16 aj O aS O (fC cZ O (jo).get.2 O (dZ O (aZ O (fun h1 => ?_) (fun h1 => ?_))))))
 ·(try simp only [Z] at h1)
  have hin := h1
  refine kC O (aU (aA (dI results29 O ?_)))
  exact ⟨by unfold bF.Dp; rw [if_pos hin], by rw [MW hin]; exact V.jg iZ dL jo.f11.f11.f11.f11.f11.f11.f11.f11.f11.f11.f11⟩
 ·(try simp only [Z] at h1)
  have hin := h1
  refine dh (aH (aX (bM O (jX O O (dK O (bI 0 aj O aV O (aQ (pY 0 (xs := [_, _, _, _, _, _, _, _, _, _, _]) aK O aV O O (jo).get.2 O) (dS O func80 (Ua jo.f6.f6.f6.f6.f6) ?_))))))))
  rintro _ w3 ⟨qb3, qr3, qw3, qt3, qm3, rfl, H3⟩
  refine dK O (bI 16 aj O aS O (aJ (gG 16 H3.f11 aS) ?_))
  rintro _ w4 H4
  refine dK O (bI 17 aj O aV O (aJ (dG 17 (l' := [_, _, _, _, _, _, _, _, _, _, _, _, _, _, _, _, _, _, _, _, _, _, _, _, _, _, _, _, _, _, _, _, _, _]) (us := [_, _, _, _, _, _, _, _, _, _, _]) H4 aV O O O (aG (aG (aG (aG (aG (aG (aG (aG (aG (aG (aG bW))))))))))) O O) ?_))
  rintro _ w5 H5
  refine sG O (jX O O (jX O O (oq O O (bI 28 aj O ay O (aJ (gG 28 H5 ay) ?_)))))
  rintro _ w6 H6
  refine dK O (bI 29 aj O aS O (aJ (gG 29 H6 aS) ?_))
  rintro _ w7 H7
  refine dK O (bI 30 aj O aS O (aJ (gG 30 H7 aS) ?_))
  rintro _ w8 H8
  refine dK O (bI 31 aj O aS O (aJ (gG 31 H8 aS) ?_))
  rintro _ w9 H9
  refine dK O (bI 32 aj O aS O (aJ (gG 32 H9 aS) ?_))
  rintro _ w10 pz
  refine dK O (bI 33 aj O bU O (aJ (gG 33 pz bU) ?_))
  rintro _ FM rY
  refine iE (kC O (dI results29 O ?_))
  have Rh := rY.f6.f6.f6.f6.f6
  have Ri := V.ae9 (c := s.c) Rh
  exact ⟨by unfold bF.Dp; rw [if_neg (by simp [hin])], by rw [uo hin]; exact V.MV (uo hin ▸ Ud iZ hin) O Ri.f10.right.f10.right.f10.right.f9.f9.f9.f9.f9.f9.f9.f9⟩
end
section
variable {w0 w : World} {F : HP} {e p h pr : Nat} {s : bF} {x : Int} {b : Bool}
theorem zX (h : nT s) (L : List Int) (pt mk : Int) : nT (s.nZ L pt mk) := h
theorem tK (H : V w0 w (eH e s • F)) : iQ prog 30 #[.pointer (some ⟨e, 0, none⟩), .int .i64 x] w fun v w' => v = .int .i64 (s.Eu x) ∧ V w0 w' (eH e (s.uF x) • F) := by
 refine qc func30 ntmps30 ?_
 refine ku O (aI (bM O (dS O func81 (ru H) ?_)))
 rintro _ _ ⟨rfl, rfl⟩
 refine dZ O (bM O (aQ (gY O O) (jr O (fun h1 => ?_) (fun h1 => ?_))))
 ·(try simp only [Z] at h1)
  obtain ⟨hin, hpe⟩ := Ih h1
  refine bM O (fA O (aA (dI results30 O ?_)))
  rw [hpe]
  exact ⟨by simp [bF.Eu, bF.uF, hin], by rw [show s.uF x = s from by simp [bF.Eu, bF.uF, hin]]; exact H⟩
 ·(try simp only [Z] at h1)
  have hin := EC h1
  refine fV (aI ?_)
  obtain ⟨zB, zC, zD, zF, zG, zH, zI, zJ, xM, wu, wz, wB, wC, wE, wF, wG, wH, wI, wJ, wK, iZ, dL, lU, jo⟩ := (H).JV
  refine aB (oq O O (bI 0 aj O aV O (bI 0 aK O sD O (fC mZ O (jo).get.2 O (bJ O (dS O func82 (QJ jo.f2) ?_))))))
  rintro _ w3 ⟨rfl, H3⟩
  refine fA O (dI results30 O ?_)
  exact ⟨by simp [bF.Eu, hin], by rw [show s.uF x = s.nZ s.c.L (mvP s.c.L.length s.c.pt x) s.c.mark from by simp [bF.uF, hin]]; exact V.jg (zX iZ _ _ _) dL H3.f11.f11.f11.f11.f11.f11.f11.f11.f11.f10.f11⟩
theorem EF (H : V w0 w (eH e s • F)) : iQ prog 62 #[.pointer (some ⟨e, 0, none⟩), .int .i64 x] w fun v w' => v = .int .i64 (s.vU x) ∧ V w0 w' (eH e (s.vV x) • F) := by
 refine qc func62 ntmps62 ?_
 refine ku O (aI (bM O (dS O func81 (ru H) ?_)))
 rintro _ _ ⟨rfl, rfl⟩
 refine dZ O (bM O (aQ (gY O O) (jr O (fun h1 => ?_) (fun h1 => ?_))))
 ·(try simp only [Z] at h1)
  obtain ⟨hin, hpe⟩ := Ih h1
  refine bM O (fA O (aA (dI results62 O ?_)))
  rw [hpe]
  exact ⟨by simp [bF.vU, bF.vV, hin], by rw [show s.vV x = s from by simp [bF.vU, bF.vV, hin]]; exact H⟩
 ·(try simp only [Z] at h1)
  have hin := EC h1
  refine fV (aI (bM O (aQ (gW O O) (jm O (fun h2 => ?_) (fun h2 => ?_)))))
  ·(try simp only [Z] at h2)
   refine bn (bn (je O O (iE (C9 (kC O (aA (dI results62 O ?_)))))))
   have hd : s.vU x = 1 := by unfold bF.vU; rw [if_pos hin, if_pos (by omega)]
   exact ⟨by rw [hd], by unfold bF.vV; rw [hd, if_neg (by decide)]; exact H⟩
  ·(try simp only [Z] at h2)
   refine aY (bJ O (aY (aQ (eX O O) (fG O O (jr O (fun h3 => ?_) (fun h3 => ?_))))))
   ·(try simp only [Z] at h3)
    refine kC O (aA (dI results62 O ?_))
    have hd : s.vU x = 1 := by unfold bF.vU; rw [if_pos hin, if_pos (by omega)]
    exact ⟨by rw [hd], by unfold bF.vV; rw [hd, if_neg (by decide)]; exact H⟩
   ·(try simp only [Z] at h3)
    refine fV (aI ?_)
    have hd : s.vU x = 0 := by unfold bF.vU; rw [if_pos hin, if_neg (by omega)]
    obtain ⟨zB, zC, zD, zF, zG, zH, zI, zJ, xM, wu, wz, wB, wC, wE, wF, wG, wH, wI, wJ, wK, iZ, dL, lU, jo⟩ := (H).JV
    refine aB (jX O O (dK O (bI 0 aj O aV O (bI 4 aK O ay O (aJ (gG 4 jo ay) ?_)))))
    rintro _ w3 H3
    refine iE (kC O (dI results62 O ?_))
    rw [hd]
    refine ⟨O, ?_⟩
    unfold bF.vV
    rw [if_pos hd]
    exact V.jg (s := { s with c := { s.c with mode := x } }) iZ dL H3.f11.f11.f11.f11.f11.f11.f11.f11.f11.f11.f11
theorem JY (H : V w0 w (eH e s • F)) : iQ prog 192 #[.pointer (some ⟨e, 0, none⟩), .bool b] w fun v w' => v = .int .i64 s.yJ ∧ V w0 w' (eH e (s.MK b) • F) := by
 refine qc func192 ntmps192 ?_
 refine ku O (aI (bM O (dS O func81 (ru H) ?_)))
 rintro _ _ ⟨rfl, rfl⟩
 refine dZ O (bM O (aQ (gY O O) (jr O (fun h1 => ?_) (fun h1 => ?_))))
 ·(try simp only [Z] at h1)
  obtain ⟨hin, hpe⟩ := Ih h1
  refine bM O (fA O (aA (dI results192 O ?_)))
  rw [hpe]
  exact ⟨by simp [bF.MK, bF.yJ, hin], by rw [show s.MK b = s from by simp [bF.MK, bF.yJ, hin]]; exact H⟩
 ·(try simp only [Z] at h1)
  have hin := EC h1
  refine fV (aI ?_)
  obtain ⟨zB, zC, zD, zF, zG, zH, zI, zJ, xM, wu, wz, wB, wC, wE, wF, wG, wH, wI, wJ, wK, iZ, dL, lU, jo⟩ := (H).JV
  refine aB (jX O O (dK O (bI 0 aj O aV O (bI 5 aK O aS O (aJ (gG 5 jo aS) ?_)))))
  rintro _ w3 H3
  refine iE (kC O (dI results192 O ?_))
  exact ⟨by simp [bF.yJ, hin], by unfold bF.MK; rw [if_pos hin]; exact V.jg (s := { s with c := { s.c with over := b } }) iZ dL H3.f11.f11.f11.f11.f11.f11.f11.f11.f11.f11.f11⟩
theorem Rk (H : V w0 w (eH e s • F)) : iQ prog 72 #[.pointer (some ⟨e, 0, none⟩)] w fun v w' => v = .int .i64 s.count ∧ V w0 w' (eH e s • F) := by
 refine ji func72 ntmps72 ?_
 refine ku O (aI (bf (bM O (dS O func65 (tJ H) ?_))))
 rintro _ _ ⟨rfl, rfl⟩
 refine dZ O (oh (aI ?_))
 obtain ⟨zB, zC, zD, zF, zG, zH, zI, zJ, xM, wu, wz, wB, wC, wE, wF, wG, wH, wI, wJ, wK, iZ, dL, lU, jo⟩ := (H).JV
 have harg := iZ.2.2.1
 refine aB (oq O O (bI 13 aj O aS O (fC cZ O (jo).get.2 O (aQ (kG O) (dZ O (aZ O (fun h1 => ?_) (fun h1 => ?_)))))))
 ·(try simp only [Z] at h1)
  have hg := h1
  refine kC O (aU (aA (dI results72 O ?_)))
  have TA := jo.f11.f11.f11.f11.f11.f11.f11.f11.f11.f11.f11
  have SA := V.jg (s := s) iZ dL TA
  exact ⟨by unfold bF.count; simp only [*]; first | rfl | (split <;> simp_all <;> omega) | simp_all, SA⟩
 ·(try simp only [Z] at h1)
  have hg := h1
  refine dh (aH (aX (bM O (dK O (bI 15 aj O ay O (fC aC O (jo).get.2 O (uf O (bM O (aQ (gW O O) (jr O (fun h2 => ?_) (fun h2 => ?_)))))))))))
  ·(try simp only [Z] at h2)
   refine aB (uf O (bM O (dK O (bI 14 aj O aS O (fC cZ O (jo).get.2 O (jr O (fun h3 => ?_) (fun h3 => ?_)))))))
   ·(try simp only [Z] at h3)
    refine bM O (aQ (ad1 O (by omega)) (fA O (aA (dI results72 O ?_))))
    have Ho7 := jo.f11.f11.f11.f11.f11.f11.f11.f11.f11.f11.f11
    have Hc8 := V.jg (s := s) iZ dL Ho7
    exact ⟨by unfold bF.count; simp only [*]; first | rfl | (split <;> simp_all <;> omega) | simp_all, Hc8⟩
   ·(try simp only [Z] at h3)
    refine fV (bM O (fA O (dI results72 O ?_)))
    have aaN := jo.f11.f11.f11.f11.f11.f11.f11.f11.f11.f11.f11
    have aaO := V.jg (s := s) iZ dL aaN
    exact ⟨by unfold bF.count; simp only [*]; first | rfl | (split <;> simp_all <;> omega) | simp_all, aaO⟩
  ·(try simp only [Z] at h2)
   refine fV (aI (bM O (dK O (bI 14 aj O aS O (fC cZ O (jo).get.2 O (jr O (fun h4 => ?_) (fun h4 => ?_)))))))
   ·(try simp only [Z] at h4)
    refine bM O (aQ (ad1 O (by omega)) (fA O (aA (dI results72 O ?_))))
    have afa := jo.f11.f11.f11.f11.f11.f11.f11.f11.f11.f11.f11
    have afb := V.jg (s := s) iZ dL afa
    exact ⟨by unfold bF.count; simp only [*]; first | rfl | (split <;> simp_all <;> omega) | simp_all, afb⟩
   ·(try simp only [Z] at h4)
    refine fV (bM O (fA O (dI results72 O ?_)))
    have aiu := jo.f11.f11.f11.f11.f11.f11.f11.f11.f11.f11.f11
    have aiv := V.jg (s := s) iZ dL aiu
    exact ⟨by unfold bF.count; simp only [*]; first | rfl | (split <;> simp_all <;> omega) | simp_all, aiv⟩
theorem Rl (H : V w0 w (eH e s • F)) : iQ prog 73 #[.pointer (some ⟨e, 0, none⟩)] w fun v w' => v = .bool s.given ∧ V w0 w' (eH e s • F) := by
  refine ji func73 ntmps73 ?_
  refine ku O (bM O (dS O func65 (tJ H) ?_))
  rintro _ _ ⟨rfl, rfl⟩
  refine aQ (kG O) ?_
  obtain ⟨zB, zC, zD, zF, zG, zH, zI, zJ, xM, wu, wz, wB, wC, wE, wF, wG, wH, wI, wJ, wK, iZ, dL, lU, jo⟩ := (H).JV
  refine xsE O (fun h1 => ?_)
  (try simp only [Z] at h1)
  refine aY (bJ O (aY (dK O (aY (bI 13 aj O aS O (aY (fC cZ O (jo).get.2 O (je O O (fA O (dI results73 O ?_))))))))))
  have TA := jo.f11.f11.f11.f11.f11.f11.f11.f11.f11.f11.f11
  have SA := V.jg (s := s) iZ dL TA
  exact ⟨O, SA⟩
theorem nI (H : V w0 w (eH e s • F)) : iQ prog 28 #[.pointer (some ⟨e, 0, none⟩)] w fun v w' => ∃ u, v = .agg (xX u s.c.pt s.c.mark) ∧ V w0 w' (jw 21 .i32 u s.c.L • eH e s • F) := by
 refine ji func28 ntmps28 ?_
 refine iy (kF (iR (l := [_, _, _]) H zeroValue46 O) ?_)
 rintro _ w1 ⟨b1, rfl, H1⟩
 refine rP (bM O (dS O func65 (tJ H1.f2) ?_))
 rintro _ _ ⟨rfl, rfl⟩
 refine iE (oh (fV (aI ?_)))
 obtain ⟨zB, zC, zD, zF, zG, zH, zI, zJ, xM, wu, wz, wB, wC, wE, wF, wG, wH, wI, wJ, wK, iZ, dL, lU, jo⟩ := (H1.f2).JV
 refine aB (oq O O (bI 0 aj O aV O (bI 0 aK O sD O (fC mZ O (jo).get.2 O (dS O func79 (Ht jo.f2) ?_)))))
 rintro _ w4 ⟨u4, rfl, H4⟩
 refine aJ (dG 0 (l' := [_, _, _]) (us := [_, _, _]) H4.f13 sizeOf46 O O O (bg (by first | rfl | exact Rd.one ((H4).aP)) (aG (aG bW))) O O) ?_
 rintro _ w5 H5
 refine zkc ?_
 refine sS (.inl O) (QA results28 O iD O (by rw [aat]; rfl) (H5).get.2) ?_
 have Ho7 := H5.f13.f13.f13.f13.f13.f13.f13.f13.f13.f12.f13
 have Hc8 := V.jg (s := s) iZ dL Ho7
 exact ⟨_, O, Hc8.f2.right.f2⟩
end
theorem CJ {L : List Int} {i j : Int} {l : List Int} (h : mF L i j l ≠ 0) : nR L i j l = [] ∧ nS L i j l = [] := by unfold nR nS; rw [if_neg h, if_neg h]; exact ⟨rfl, rfl⟩
theorem ac3 {L : List Int} {i j : Int} {l : List Int} (hL : L.length ≤ 1024) (h : 0 < (nR L i j l).length + (nS L i j l).length) : zA (uz L i j l, nR L i j l, nS L i j l) := by
  by_cases h0 : mF L i j l = 0
  · refine ⟨?_, h, ?_, ?_⟩
    · show 0 ≤ uz L i j l
      unfold uz; rw [if_pos h0]
      unfold mF at h0
      split at h0
      · cases h0
      · omega
    · show (nR L i j l).length ≤ 1024
      unfold nR; rw [if_pos h0]
      simp only [List.length_take, List.length_drop]; omega
    · show (nS L i j l).length ≤ 1024
      unfold nS; rw [if_pos h0]
      unfold mF at h0
      split at h0
      · cases h0
      · split at h0
        · cases h0
        · omega
  · rw [(CJ h0).1, (CJ h0).2] at h
    simp at h
theorem aa3 {L : List Int} {i j : Int} {l : List Int} (hL : L.length ≤ 1024) : (nR L i j l).length ≤ 1024 ∧ (nS L i j l).length ≤ 1024 := by
  by_cases h0 : mF L i j l = 0
  · refine ⟨?_, ?_⟩
    · unfold nR; rw [if_pos h0]
      simp only [List.length_take, List.length_drop]; omega
    · unfold nS; rw [if_pos h0]
      unfold mF at h0
      split at h0
      · cases h0
      · split at h0
        · cases h0
        · omega
  · rw [(CJ h0).1, (CJ h0).2]; simp
theorem Ik {s : bF} {x : jl} (h : x.2.1.length + x.2.2.length = 0) : s.qR x = s := by unfold bF.qR; rw [if_pos h]
theorem Fh {s : bF} {x : jl} (h : 0 < x.2.1.length + x.2.2.length) (k : ¬ 16384 ≤ ig s.here s.put) : s.qR x = { s with put := s.put ++ [x] } := by unfold bF.qR; rw [if_neg (by omega), if_neg k]
theorem Jl {s : bF} {x : jl} (h : 0 < x.2.1.length + x.2.2.length) (k : 16384 ≤ ig s.here s.put) : s.qR x = { s.lY [] with put := [x], c := { (s.lY []).c with run := false } } := by unfold bF.qR; rw [if_neg (by omega), if_pos k]
theorem qF (G : List (List jl)) (N : List jl) : ig G N = ig G [] + N.length := by unfold ig; simp
theorem Rn {s : bF} {x : jl} (h : nT s) (hx : 0 < x.2.1.length + x.2.2.length → zA x) : nT (s.qR x) := by
  by_cases h0 : x.2.1.length + x.2.2.length = 0
  · rw [Ik h0]; exact h
  · have hx' := hx (by omega)
    obtain ⟨h1, h2, h3, h4, h5, h6⟩ := h
    by_cases hf : 16384 ≤ ig s.here s.put
    · rw [Jl (by omega) hf]
      refine ⟨h1, h2, h3, fun e he => by rw [List.mem_singleton.1 he]; exact hx', ?_, ?_⟩
      · show ig (xk s.c.un s.c.place [] s.c.place) [x] ≤ 16384
        rw [iL]; simp [ig]
      · intro k g hg
        have hg' : g ∈ xk s.c.un s.c.place [] k := hg
        by_cases hk : k = s.c.place
        · subst hk; rw [iL] at hg'; cases hg'
        · rw [xq _ _ hk] at hg'; exact h6 k g hg'
    · rw [Fh (by omega) hf]
      refine ⟨h1, h2, h3, fun e he => ?_, ?_, h6⟩
      · rcases List.mem_append.1 he with he | he
        · exact h4 e he
        · rw [List.mem_singleton.1 he]; exact hx'
      · show ig s.here (s.put ++ [x]) ≤ 16384
        rw [QT]; omega
section
variable {w0 w : World} {F : HP} {e p h pr : Nat} {s : bF} {i j x : Int} {b : Bool} {v : Value} {l : List Int}
theorem tN (H : V w0 w (eH e s • F)) (hr : jh w0 F .i32 v l) : iQ prog 188 #[.pointer (some ⟨e, 0, none⟩), .int .i64 i, .int .i64 j, v] w fun v' w' => v' = .int .i64 (s.rF i j l) ∧ V w0 w' (eH e (s.mG i j l) • F) := by
 refine QD func188 ntmps188 ?_
 refine ku O (aI (bM O (dS O func81 (ru H) ?_)))
 rintro _ _ ⟨rfl, rfl⟩
 refine dZ O (bM O (aQ (gY O O) (jr O (fun h1 => ?_) (fun h1 => ?_))))
 ·(try simp only [Z] at h1)
  obtain ⟨hin, hpe⟩ := Ih h1
  refine bM O (fA O (aA (dI results188 O ?_)))
  rw [hpe]
  exact ⟨by simp [bF.rF, bF.mG, hin], by rw [show s.mG i j l = s from by simp [bF.rF, bF.mG, hin]]; exact H⟩
 ·(try simp only [Z] at h1)
  have hin := EC h1
  refine fV (aI ?_)
  obtain ⟨zB, zC, zD, zF, zG, zH, zI, zJ, xM, wu, wz, wB, wC, wE, wF, wG, wH, wI, wJ, wK, iZ, dL, lU, jo⟩ := (H).JV
  have hL : s.c.L.length ≤ 1024 := by obtain ⟨a, c, xs, f, t, h1, h2, h3, h4, h5, h6, h7, hc1, hc2, hl, H1⟩ := (jo.f2).buf; exact h4
  have hE : s.rF i j l = mF s.c.L i j l := by unfold bF.rF; rw [if_pos hin]
  have hS : s.mG i j l = (s.nZ (mV s.c.L i j l) (uy s.c.L s.c.pt i j l) (wY s.c.L s.c.mark i j l)).qR (uz s.c.L i j l, nR s.c.L i j l, nS s.c.L i j l) := by unfold bF.mG; rw [if_pos hin]
  have hln := aa3 (i := i) (j := j) (l := l) hL
  have hput : ig s.here s.put ≤ 16384 := iZ.2.2.2.2.1
  have hsp : ig s.here s.put = ig (s.c.un s.c.place) [] + s.put.length := qF _ _
  have hok := ac3 (i := i) (j := j) (l := l) hL
  have hno := CJ (L := s.c.L) (i := i) (j := j) (l := l)
  refine aB (oq O O (bI 0 aj O aV O (bI 0 aK O sD O (fC mZ O (jo).get.2 O (jX O O (bJ O (dS O func202 (KA jo.f2 (fun W HW => hr _ (HW.right.right.right.right.right.right.right.right.right.right))) ?_)))))))
  rintro _ w3 ⟨d3, s3, rfl, H3⟩
  refine bJ O (pW O O (pW O O (kF (iR (l := [_, _, _]) H3 dY O) ?_)))
  rintro _ w4 ⟨b4, rfl, H4⟩
  refine aJ (dG 0 (l' := [_, _, _]) (us := [_, _, _]) H4 dn O O O (aG (bg (by first | rfl | exact Rd.one ((H4.f2).aP)) (bg (by first | rfl | exact Rd.one ((H4.f3).aP)) bW))) O O) ?_
  rintro _ w5 H5
  refine uf O (bM O (aQ (eF O O) (jm O (fun h2 => ?_) (fun h2 => ?_))))
  ·(try simp only [Z] at h2)
   refine aY (bI 1 bD O bV O (aY (fC ah O (H5).get.2 O (aY (aQ (iT ((H5.f2).aP) ah O) (aY (bI 2 bD O bV O (aY (fC ah O (H5).get.2 O (aY (aQ (iT ((H5.f3).aP) ah O) (aY (aQ (fQ O O (by omega)) (aY (aQ (eX O O) (je O O (jr O (fun h3 => ?_) (fun h3 => ?_))))))))))))))))))
   ·(try simp only [Z] at h3)
    have hlen : 0 < (nR s.c.L i j l).length + (nS s.c.L i j l).length := by omega
    refine aI (aI ?_)
    have afc := H5.drew
    have MX := V.kp (afc.f9.right.f13.f13.f13.f13.f13.f13.f13.f13.f13.f13.f13.f13.f13)
    refine uN [6] MX O (gX 0 O MX O (gX 3 O MX O (jE 4 O MX O (gy 5 O MX 33 aj O bU O (jf 6 O MX (fun W hW => jv aW O ((Kp.h hW).f5).get.2 O) (iI 7 O MX (fun _ => kX ((afc.f12).aP) aW O) (mQ 1 O (wR O func134 (ED afc.f9.f8.f7)) ?_)))))))
    rintro _ w6 ⟨lp6, rfl, H6⟩
    have Gy := V.kp (H6.right.f14.f14.f14.f14.f14.f14.f14.f14.f14.f14.f14.f14.f14.f14)
    refine fD Gy (fun W hW => (Kp.h hW).right.f13.f13.f13.f13.f13.f13.f8.f13.f9.f13.f13.f13.f13) ?_
    refine mQ 2 O (wR O func203 (L9 H6)) ?_
    rintro _ w7 ⟨rfl, H7⟩
    have En := V.kp (H7.f15.f15.f15.f15.f15.f15.f15.f15.f15.f15.f15.f15.f15.f15.f15)
    refine fD En (fun W hW => (Kp.h hW).right.f14.f14.f14.f14.f14.f14.f14.f14.f14.f14.f14.f14.f14.f14) ?_
    refine iI 8 O En (fun _ => fQ O O (by omega)) (iI 9 O En (fun _ => lI O O) ?_)
    have Ho8 := H7.f2
    have Vr := V.Rf Ho8
    refine pq (aX (aZ O (fun h4 => ?_) (fun h4 => ?_)))
    ·(try simp only [Z] at h4)
     have Ue : 16384 ≤ ig (s.nZ (mV s.c.L i j l) (uy s.c.L s.c.pt i j l) (wY s.c.L s.c.mark i j l)).here (s.nZ (mV s.c.L i j l) (uy s.c.L s.c.pt i j l) (wY s.c.L s.c.mark i j l)).put := by show 16384 ≤ ig s.here s.put; omega
     refine bM O (dS O func134 (ED Vr.f3.f3) ?_)
     rintro _ w10 ⟨ajT, rfl, pz⟩
     refine dS O func204 (MG pz) ?_
     rintro _ FM rY
     have Rh := rY.f2
     have Ri := V.CG Rh
     refine iE (aB (jX O O (dK O (bI 33 aj O bU O (aJ (gG 33 Ri.f2 bU) ?_)))))
     rintro _ Pz yF
     refine dK O (bI 0 aj O aV O (bI 10 aK O aS O (aJ (gG 10 yF aS) ?_)))
     rintro _ QI yA
     refine iE ?_
     have aeh := yA.drew
     have GH := V.kp (aeh.f14.f14.f14.f14.f14.f14.f14.f14.f14.f14.f14.f14.f14.f14)
     refine uN [4, 5] GH O (gX 0 O GH O (gX 1 O GH O (jE 2 O GH O (gy 3 O GH 33 aj O bU O (jf 4 O GH (fun W hW => jv aW O ((Kp.h hW)).get.2 O) (jf 5 O GH (fun W hW => dV bD O dn O O ((Kp.h hW).f4).get.2) (mQ 6 O (vK aeh aW dn dY O O O (by decide) (by decide)) ?_)))))))
     rintro l16 w16 vN
     have yI := V.kp (vN.f15.f15.f15.f15.f15.f15.f15.f15.f15.f15.f15.f15.f15.f15.f15)
     refine fD yI (fun W hW => (Kp.h hW).right.f14.f14.f14.f14.f14.f14.f14.f14.f14.f14.f14.f14.f14.f14) ?_
     refine mQ 7 O (iY (vN.jO none) aW BP O O O ((vN).aP) (aG (bg (by first | rfl | exact Rd.one ((vN.f6).aP)) (bg (by first | rfl | exact Rd.one ((vN.f7).aP)) bW))) (by omega) (by omega)) ?_
     rintro l17 Z5 DF
     have Wy := DF.f2.right
     have Me := V.kp (Wy.f15.f15.f15.f15.f15.f15.f15.f15.f15.f15.f15.f15.f15.f15.f15)
     refine iK Me (by kernel_rfl) ?_
     refine jE 8 O Me O (gy 9 O Me 33 aj O bU O ?_)
     refine iH 10 O (by kernel_rfl) (gB 33 (l' := [_, _, _, _, _, _, _, _, _, _, _, _, _, _, _, _, _, _, _, _, _, _, _, _, _, _, _, _, _, _, _, _, _, _]) Wy.f2 bU O O (by first | rfl | exact Rd.one ((Wy).aP)) O O) ?_
     rintro _ w19 Ef
     have TR := V.kp (Ef.f15.f15.f15.f15.f15.f15.f15.f15.f15.f15.f15.f15.f15.f15.f15)
     refine iK TR (by kernel_rfl) ?_
     refine pq (aX (bM O (fA O (dI results188 O ?_))))
     have X := (Ef.f5.right.f12.right.f12.right.f12.f12.f12.f6.f12.f8.f12.f12.f9.f10.f12.f12).mY.swap.mY.swap
     have X2 := V.Ci (es := []) X.L6.f3.f3.f4
     exact ⟨by rw [hE]; rfl, by rw [hS, Jl (x := (uz s.c.L i j l, nR s.c.L i j l, nS s.c.L i j l)) hlen Ue]; exact V.aa1 (s := { (s.nZ (mV s.c.L i j l) (uy s.c.L s.c.pt i j l) (wY s.c.L s.c.mark i j l)).lY [] with put := [(uz s.c.L i j l, nR s.c.L i j l, nS s.c.L i j l)], c := { ((s.nZ (mV s.c.L i j l) (uy s.c.L s.c.pt i j l) (wY s.c.L s.c.mark i j l)).lY []).c with run := false } }) (Jl (x := (uz s.c.L i j l, nR s.c.L i j l, nS s.c.L i j l)) hlen Ue ▸ Rn (zX iZ _ _ _) hok) O X2⟩
    ·(try simp only [Z] at h4)
     have Ue : ¬ 16384 ≤ ig (s.nZ (mV s.c.L i j l) (uy s.c.L s.c.pt i j l) (wY s.c.L s.c.mark i j l)).here (s.nZ (mV s.c.L i j l) (uy s.c.L s.c.pt i j l) (wY s.c.L s.c.mark i j l)).put := by show ¬ 16384 ≤ ig s.here s.put; omega
     refine fV ?_
     have PX := Vr.drew
     have vG := V.kp (PX.f14.f14.f14.f14.f14.f14.f14.f14.f14.f14.f14.f14.f14.f14)
     refine uN [4, 5] vG O (gX 0 O vG O (gX 1 O vG O (jE 2 O vG O (gy 3 O vG 33 aj O bU O (jf 4 O vG (fun W hW => jv aW O ((Kp.h hW).f2).get.2 O) (jf 5 O vG (fun W hW => dV bD O dn O O ((Kp.h hW).f4).get.2) (mQ 6 O (vK PX aW dn dY O O O (by decide) (by decide)) ?_)))))))
     rintro l20 w20 E8
     have Ez := V.kp (E8.f15.f15.f15.f15.f15.f15.f15.f15.f15.f15.f15.f15.f15.f15.f15)
     refine fD Ez (fun W hW => (Kp.h hW).right.f14.f14.f14.f14.f14.f14.f14.f14.f14.f14.f14.f14.f14.f14) ?_
     refine mQ 7 O (iY E8.f13 aW BP O O O ((E8).aP) (aG (bg (by first | rfl | exact Rd.one ((E8.f6).aP)) (bg (by first | rfl | exact Rd.one ((E8.f7).aP)) bW))) (by omega) (by omega)) ?_
     rintro l21 w21 vF
     have Q8 := vF.f2.right
     have Ig := V.kp (Q8.f14.f14.f14.f14.f14.f14.f14.f14.f14.f14.f14.f14.f14.f14)
     refine iK Ig (by kernel_rfl) ?_
     refine jE 8 O Ig O (gy 9 O Ig 33 aj O bU O ?_)
     refine iH 10 O (by kernel_rfl) (gB 33 (l' := [_, _, _, _, _, _, _, _, _, _, _, _, _, _, _, _, _, _, _, _, _, _, _, _, _, _, _, _, _, _, _, _, _, _]) Q8.f3 bU O O (by first | rfl | exact Rd.one ((Q8).aP)) O O) ?_
     rintro _ w23 BK
     have JR := V.kp (BK.f14.f14.f14.f14.f14.f14.f14.f14.f14.f14.f14.f14.f14.f14)
     refine iK JR (by kernel_rfl) ?_
     refine pq (aX (bM O (fA O (dI results188 O ?_))))
     have X := (BK.f5.right.f13.f12.f12.f6.f12.f8.f12.f12.f9.f13.f11.f13.f13).mY.swap.mY.swap
     rw [← lU] at X
     have X2 := V.Ci X.f3
     exact ⟨by rw [hE]; rfl, by rw [hS, Fh (x := (uz s.c.L i j l, nR s.c.L i j l, nS s.c.L i j l)) hlen Ue]; exact V.aa1 (s := { s.nZ (mV s.c.L i j l) (uy s.c.L s.c.pt i j l) (wY s.c.L s.c.mark i j l) with put := s.put ++ [(uz s.c.L i j l, nR s.c.L i j l, nS s.c.L i j l)] }) (Fh (x := (uz s.c.L i j l, nR s.c.L i j l, nS s.c.L i j l)) hlen Ue ▸ Rn (zX iZ _ _ _) hok) (by rw [List.map_append, dL]; rfl) X2⟩
   ·(try simp only [Z] at h3)
    have hlen : (nR s.c.L i j l).length + (nS s.c.L i j l).length = 0 := by omega
    refine fV (bM O (fA O (dI results188 O ?_)))
    exact ⟨by rw [hE]; rfl, by rw [hS, Ik (x := (uz s.c.L i j l, nR s.c.L i j l, nS s.c.L i j l)) hlen]; exact V.jg (s := s.nZ (mV s.c.L i j l) (uy s.c.L s.c.pt i j l) (wY s.c.L s.c.mark i j l)) (zX iZ _ _ _) dL H5.right.right.right.f11.f11.f11.f11.f11.f11.f11.f11.f11.f10.f11⟩
  ·(try simp only [Z] at h2)
   have hlen : (nR s.c.L i j l).length + (nS s.c.L i j l).length = 0 := by rw [(hno h2).1, (hno h2).2]; rfl
   refine bn (bn (bn (bn (bn (bn (bn (bn (fG O O (iE (oh (fV (bM O (fA O (dI results188 O ?_))))))))))))))
   exact ⟨by rw [hE]; rfl, by rw [hS, Ik (x := (uz s.c.L i j l, nR s.c.L i j l, nS s.c.L i j l)) hlen]; exact V.jg (s := s.nZ (mV s.c.L i j l) (uy s.c.L s.c.pt i j l) (wY s.c.L s.c.mark i j l)) (zX iZ _ _ _) dL H5.right.right.right.f11.f11.f11.f11.f11.f11.f11.f11.f11.f10.f11⟩
theorem Ro (H : V w0 w (eH e s • F)) : iQ prog 200 #[.pointer (some ⟨e, 0, none⟩), .int .i64 i, .int .i64 j] w fun v' w' => v' = .int .i64 (s.rF i j []) ∧ V w0 w' (eH e (s.mG i j []) • F) := by
  refine zk func200 ntmps200 ?_
  refine ku O (bM O (jX O O (dS O func188 (tN H (fun W _ => fJ.nil W _ none 0 (by decide))) ?_)))
  rintro _ w1 ⟨rfl, H1⟩
  refine fA O (dI results200 O ?_)
  exact ⟨O, H1⟩
end
end Go.Proofs.YtpdeedplgmbopaaGreatDoor
end
