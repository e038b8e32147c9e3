import Derived.Test.YtddekefihgejoaaGreatDoorZ2
import Derived.Test.YtddekefihgejoaaGreatDoorZ10
set_option linter.unusedSimpArgs false
set_option linter.unusedVariables false
/- Texts of mine, joined, their names in short: EdB EdC EdMv. -/
section
namespace Go.Proofs.YtddekefihgejoaaGreatDoor
open Go.RowKit
open _root_.Go.Proofs.Tryz
section
variable {w0 w : World} {F : HP} {e p h pr : Nat} {s : bH} {hl : List lC} {base most m : Int} {v : Value} {l : List Int}
theorem aB.pK {b : Nat} (H : aB w0 w (dU lg b (fun _ => none) • F)) : aB w0 w (pV b (fun _ => []) • F) :=
  aB.xu (D := []) (P := fun _ => 0) List.nodup_nil (fun _ _ => rfl) (by rw [MZ]; exact H.of_eq (by show _ = (_ • emp • _); rw [YtddekefihgejoaaGreatDoor.ji]))
set_option maxHeartbeats 1000000 in
theorem yc {x0 x2 x3 x5 x6 x7 x8 x9 x10 x11 x12 zF x14 x15 x16 x17 x18 x19 x20 x21 yK x23 x24 x25 yL x27 x28 x29 x30 x31 x32 Bl : Value} {E : List (List Int)} {a : Nat} (H : aB w0 w (dh e (.cells (x0 :: .pointer (some ⟨pr, 0, none⟩) :: x2 :: x3 :: .int .i64 m :: x5 :: x6 :: x7 :: x8 :: x9 :: x10 :: x11 :: x12 :: zF :: x14 :: x15 :: x16 :: x17 :: x18 :: x19 :: x20 :: x21 :: yK :: x23 :: x24 :: x25 :: yL :: x27 :: x28 :: x29 :: x30 :: x31 :: x32 :: Bl :: []).toArray 69 (0, 0)) • dn h hl base most • F)) (hr : iG w0 F .i32 v l) (hshort : l.length ≤ 1024) :
  gG prog 79 #[.pointer (some ⟨e, 0, none⟩), .pointer (some ⟨h, 0, none⟩), v] w fun _ w' => ∃ pb pw pt pm ph, aB w0 w' (dh e (.cells (.pointer (some ⟨pb, 0, none⟩) :: .pointer (some ⟨pr, 0, none⟩) :: .pointer (some ⟨pw, 0, none⟩) :: .map (some pm) :: .int .i64 m :: .bool false :: .int .i64 0 :: .int .i64 0 :: .int .i64 0 :: .int .i64 0 :: .bool false :: .pointer (some ⟨ph, 0, none⟩) :: x12 :: .bool false :: .bool false :: .int .i64 (-1) :: x16 :: x17 :: x18 :: x19 :: x20 :: x21 :: yK :: x23 :: x24 :: x25 :: yL :: x27 :: x28 :: x29 :: x30 :: x31 :: x32 :: Bl :: []).toArray 69 (0, 0)) •
   dM pb l l.length (-1) • dh pw (.cells #[.int .i64 hl.length, .map (some pt)] 125 (0, 0)) • dU lg pt (fun _ => none) • pV pm (fun _ => []) • dn ph hl base most • dn h hl base most • F) := by
 refine iF func79 ntmps79 ?_
 dsimp only [bg, Nat.reduceAdd]
 refine ay (ah (aI rfl (dH rfl func87 (Ba H (fun W HW => hr _ (HW.right.right)) hshort) ?_)))
 rintro _ w1 ⟨p1, rfl, H1⟩
 refine aI rfl (wU rfl rfl (wU rfl rfl (aW rfl (aW rfl (aA (aj (ay (ah (aI rfl (aI rfl (dH rfl func77 (nT H1.f3) ?_)))))))))))
 rintro _ w2 ⟨q2, rfl, H2⟩
 refine bQ rfl (bC 11 underlying69 rfl sizeOf65 rfl (aJ (aS 11 (l' := [_, _, _, _, _, _, _, _, _, _, _, _, _, _, _, _, _, _, _, _, _, _, _, _, _, _, _, _, _, _, _, _, _, _]) H2.f4 sizeOf65 rfl rfl (by first | rfl | assumption) rfl rfl) ?_))
 rintro _ w3 H3
 refine aA (aj (ay ?_))
 have TS := H3.drew
 have sO := aB.kp (TS.f3.right.f3.f3.f3)
 refine wo [6, 17] sO rfl (gV 0 rfl sO rfl (gV 1 rfl sO rfl (gV 2 rfl sO rfl (iZ 3 rfl sO rfl (dV 4 rfl sO 0 underlying69 rfl sizeOf64 rfl (dV 5 rfl sO 1 underlying64 rfl sizeOf60 rfl (iy 6 rfl sO (fun W hW => iQ underlying60 rfl ((Kp.h hW)).get.2 rfl) (gV 7 rfl sO rfl (gV 13 rfl sO rfl (iZ 14 rfl sO rfl (dV 15 rfl sO 0 underlying69 rfl sizeOf64 rfl (dV 16 rfl sO 4 underlying64 rfl sizeOf3 rfl (iy 17 rfl sO (fun W hW => iQ underlying3 rfl ((Kp.h hW)).get.2 rfl) ?_)))))))))))))
 refine Pq (i := 8) (j := 9) (k := 12) (by kernel_rfl) ?_ ?_ ?_
 ·skip
  refine gZ 8 rfl (by kernel_rfl) (qP (qV rfl func84 rfl rfl) (jC TS.f3)) (lY rfl) ?_
  rintro _ w4 ⟨rfl, H4⟩
  have uz := aB.kp (H4.f4.f4.f4.f4)
  refine bW uz (fun W hW => (Kp.h hW).right.f3.f3.f3) ?_
  refine sW (i := 9) (j := 12) (by kernel_rfl) ?_ ?_
  ·skip
   refine gZ 9 rfl (by kernel_rfl) (iW (xH .i64) H4) (lY rfl) ?_
   rintro _ w5 ⟨b5, rfl, H5⟩
   have uG := aB.kp (H5.f5.f5.f5.f5.f5)
   refine bW uG (fun W hW => (Kp.h hW).right.f4.f4.f4.f4) ?_
   refine iR 10 rfl uG (fun _ => dF (zl := [.int .i64 0, .map none]) (pl := [(0, 1), (1, 1)]) [_, _] underlying125 zeroValue125 rfl (fun w => by kernel_rfl) rfl (.one (by first | rfl | assumption) (.one (by first | rfl | assumption) .nil)) rfl) ?_
   refine sW (i := 11) (j := 12) (by kernel_rfl) ?_ ?_
   ·skip
    refine gZ 11 rfl (by kernel_rfl) (jd (l := [_, _]) H5 rfl rfl) (lY rfl) ?_
    rintro _ w6 ⟨b6, rfl, H6⟩
    have BZ := aB.kp (H6.f6.f6.f6.f6.f6.f6)
    refine bW BZ (fun W hW => (Kp.h hW).right.f5.f5.f5.f5.f5) ?_
    refine jr 12 rfl (iW (xH .i64) H6) ?_
    rintro _ w7 ⟨b7, rfl, H7⟩
    have xG := aB.kp (H7.f7.f7.f7.f7.f7.f7.f7)
    refine bW xG (fun W hW => (Kp.h hW).right.f6.f6.f6.f6.f6.f6) ?_
    refine iR 18 rfl xG (fun _ => dF (zl := [.pointer none, .pointer none, .pointer none, .map none, .int .i64 0, .bool false, .int .i64 0, .int .i64 0, .int .i64 0, .int .i64 0, .bool false]) (pl := [(0, 1), (1, 1), (2, 1), (3, 1), (4, 1), (5, 1), (6, 1), (7, 1), (8, 1), (9, 1), (10, 1)]) [_, _, _, _, _, _, _, _, _, _, _] underlying64 zeroValue64 rfl (fun w => by kernel_rfl) rfl (.one (by first | rfl | assumption) (.one (by first | rfl | assumption) (.one (by first | rfl | assumption) (.one (by first | rfl | assumption) (.one (by first | rfl | assumption) (.zero (zs := [.bool false]) rfl (.zero (zs := [.int .i64 0]) rfl (.zero (zs := [.int .i64 0]) rfl (.zero (zs := [.int .i64 0]) rfl (.zero (zs := [.int .i64 0]) rfl (.zero (zs := [.bool false]) rfl .nil))))))))))) rfl) ?_
    refine iZ 19 rfl xG rfl (dV 20 rfl xG 0 underlying69 rfl sizeOf64 rfl ?_)
    refine dN 21 rfl (by kernel_rfl) (bG 0 (l' := [_, _, _, _, _, _, _, _, _, _, _, _, _, _, _, _, _, _, _, _, _, _, _, _, _, _, _, _, _, _, _, _, _, _]) (us := [_, _, _, _, _, _, _, _, _, _, _]) H7.f5 sizeOf64 rfl rfl rfl (aC (by first | rfl | assumption) (aC (by first | rfl | assumption) (aC (by first | rfl | assumption) (aC (by first | rfl | assumption) (aC (by first | rfl | assumption) (aC (by first | rfl | assumption) (aC (by first | rfl | assumption) (aC (by first | rfl | assumption) (aC (by first | rfl | assumption) (aC (by first | rfl | assumption) (aC (by first | rfl | assumption) bn))))))))))) rfl rfl) ?_
    rintro _ w8 H8
    have Jd := aB.kp (H8.f7.f7.f7.f7.f7.f7.f7)
    refine dR Jd (by kernel_rfl) ?_
    refine nJ (aj (ah (aI rfl (aI rfl (aI rfl (bQ rfl (bC 13 underlying69 rfl sizeOf4 rfl (aJ (aS 13 (l' := [_, _, _, _, _, _, _, _, _, _, _, _, _, _, _, _, _, _, _, _, _, _, _, _, _, _, _, _, _, _, _, _, _, _]) H8 sizeOf4 rfl rfl (by first | rfl | assumption) rfl rfl) ?_))))))))
    rintro _ w9 H9
    refine bQ rfl (bC 14 underlying69 rfl sizeOf4 rfl (aJ (aS 14 (l' := [_, _, _, _, _, _, _, _, _, _, _, _, _, _, _, _, _, _, _, _, _, _, _, _, _, _, _, _, _, _, _, _, _, _]) H9 sizeOf4 rfl rfl (by first | rfl | assumption) rfl rfl) ?_))
    rintro _ w10 qL
    refine bQ rfl (bC 15 underlying69 rfl sizeOf3 rfl (aJ (aS 15 (l' := [_, _, _, _, _, _, _, _, _, _, _, _, _, _, _, _, _, _, _, _, _, _, _, _, _, _, _, _, _, _, _, _, _, _]) qL sizeOf3 rfl rfl (by first | rfl | assumption) rfl rfl) ?_))
    rintro _ Gq sD
    refine aA (gB (.inr rfl) results79 ?_)
    have Lj := sD.f2
    have Ll := Lj.pK
    exact ⟨_, _, _, _, _, Ll.f5.f6.f3.f6.f6.f7.f7⟩
   ·skip
    refine gZ 12 rfl (by kernel_rfl) (iW (xH .i64) H5) (lY rfl) ?_
    rintro _ O8 ⟨b14, rfl, zN⟩
    have Je := aB.kp (zN.f6.f6.f6.f6.f6.f6)
    refine bW Je (fun W hW => (Kp.h hW).right.f5.f5.f5.f5.f5) ?_
    refine jr 11 rfl (jd (l := [_, _]) zN rfl rfl) ?_
    rintro _ Sv ⟨b15, rfl, xE⟩
    have vW := aB.kp (xE.f7.f7.f7.f7.f7.f7.f7)
    refine bW vW (fun W hW => (Kp.h hW).right.f6.f6.f6.f6.f6.f6) ?_
    refine iR 18 rfl vW (fun _ => dF (zl := [.pointer none, .pointer none, .pointer none, .map none, .int .i64 0, .bool false, .int .i64 0, .int .i64 0, .int .i64 0, .int .i64 0, .bool false]) (pl := [(0, 1), (1, 1), (2, 1), (3, 1), (4, 1), (5, 1), (6, 1), (7, 1), (8, 1), (9, 1), (10, 1)]) [_, _, _, _, _, _, _, _, _, _, _] underlying64 zeroValue64 rfl (fun w => by kernel_rfl) rfl (.one (by first | rfl | assumption) (.one (by first | rfl | assumption) (.one (by first | rfl | assumption) (.one (by first | rfl | assumption) (.one (by first | rfl | assumption) (.zero (zs := [.bool false]) rfl (.zero (zs := [.int .i64 0]) rfl (.zero (zs := [.int .i64 0]) rfl (.zero (zs := [.int .i64 0]) rfl (.zero (zs := [.int .i64 0]) rfl (.zero (zs := [.bool false]) rfl .nil))))))))))) rfl) ?_
    refine iZ 19 rfl vW rfl (dV 20 rfl vW 0 underlying69 rfl sizeOf64 rfl ?_)
    refine dN 21 rfl (by kernel_rfl) (bG 0 (l' := [_, _, _, _, _, _, _, _, _, _, _, _, _, _, _, _, _, _, _, _, _, _, _, _, _, _, _, _, _, _, _, _, _, _]) (us := [_, _, _, _, _, _, _, _, _, _, _]) xE.f5 sizeOf64 rfl rfl rfl (aC (by first | rfl | assumption) (aC (by first | rfl | assumption) (aC (by first | rfl | assumption) (aC (by first | rfl | assumption) (aC (by first | rfl | assumption) (aC (by first | rfl | assumption) (aC (by first | rfl | assumption) (aC (by first | rfl | assumption) (aC (by first | rfl | assumption) (aC (by first | rfl | assumption) (aC (by first | rfl | assumption) bn))))))))))) rfl rfl) ?_
    rintro _ w16 rV
    have zx := aB.kp (rV.f7.f7.f7.f7.f7.f7.f7)
    refine dR zx (by kernel_rfl) ?_
    refine nJ (aj (ah (aI rfl (aI rfl (aI rfl (bQ rfl (bC 13 underlying69 rfl sizeOf4 rfl (aJ (aS 13 (l' := [_, _, _, _, _, _, _, _, _, _, _, _, _, _, _, _, _, _, _, _, _, _, _, _, _, _, _, _, _, _, _, _, _, _]) rV sizeOf4 rfl rfl (by first | rfl | assumption) rfl rfl) ?_))))))))
    rintro _ UF zO
    refine bQ rfl (bC 14 underlying69 rfl sizeOf4 rfl (aJ (aS 14 (l' := [_, _, _, _, _, _, _, _, _, _, _, _, _, _, _, _, _, _, _, _, _, _, _, _, _, _, _, _, _, _, _, _, _, _]) zO sizeOf4 rfl rfl (by first | rfl | assumption) rfl rfl) ?_))
    rintro _ Tz Bd
    refine bQ rfl (bC 15 underlying69 rfl sizeOf3 rfl (aJ (aS 15 (l' := [_, _, _, _, _, _, _, _, _, _, _, _, _, _, _, _, _, _, _, _, _, _, _, _, _, _, _, _, _, _, _, _, _, _]) Bd sizeOf3 rfl rfl (by first | rfl | assumption) rfl rfl) ?_))
    rintro _ Sz xk
    refine aA (gB (.inr rfl) results79 ?_)
    have Z9 := xk.f3
    have aac := Z9.pK
    exact ⟨_, _, _, _, _, aac.f5.f6.f3.f6.f6.f7.f7⟩
  ·skip
   refine gZ 12 rfl (by kernel_rfl) (iW (xH .i64) H4) (lY rfl) ?_
   rintro _ Xh ⟨b22, rfl, J6⟩
   have zC := aB.kp (J6.f5.f5.f5.f5.f5)
   refine bW zC (fun W hW => (Kp.h hW).right.f4.f4.f4.f4) ?_
   refine jr 9 rfl (iW (xH .i64) J6) ?_
   rintro _ PZ ⟨b23, rfl, vY⟩
   have Bh := aB.kp (vY.f6.f6.f6.f6.f6.f6)
   refine bW Bh (fun W hW => (Kp.h hW).right.f5.f5.f5.f5.f5) ?_
   refine iR 10 rfl Bh (fun _ => dF (zl := [.int .i64 0, .map none]) (pl := [(0, 1), (1, 1)]) [_, _] underlying125 zeroValue125 rfl (fun w => by kernel_rfl) rfl (.one (by first | rfl | assumption) (.one (by first | rfl | assumption) .nil)) rfl) ?_
   refine jr 11 rfl (jd (l := [_, _]) vY rfl rfl) ?_
   rintro _ YP ⟨b24, rfl, SB⟩
   have Ed := aB.kp (SB.f7.f7.f7.f7.f7.f7.f7)
   refine bW Ed (fun W hW => (Kp.h hW).right.f6.f6.f6.f6.f6.f6) ?_
   refine iR 18 rfl Ed (fun _ => dF (zl := [.pointer none, .pointer none, .pointer none, .map none, .int .i64 0, .bool false, .int .i64 0, .int .i64 0, .int .i64 0, .int .i64 0, .bool false]) (pl := [(0, 1), (1, 1), (2, 1), (3, 1), (4, 1), (5, 1), (6, 1), (7, 1), (8, 1), (9, 1), (10, 1)]) [_, _, _, _, _, _, _, _, _, _, _] underlying64 zeroValue64 rfl (fun w => by kernel_rfl) rfl (.one (by first | rfl | assumption) (.one (by first | rfl | assumption) (.one (by first | rfl | assumption) (.one (by first | rfl | assumption) (.one (by first | rfl | assumption) (.zero (zs := [.bool false]) rfl (.zero (zs := [.int .i64 0]) rfl (.zero (zs := [.int .i64 0]) rfl (.zero (zs := [.int .i64 0]) rfl (.zero (zs := [.int .i64 0]) rfl (.zero (zs := [.bool false]) rfl .nil))))))))))) rfl) ?_
   refine iZ 19 rfl Ed rfl (dV 20 rfl Ed 0 underlying69 rfl sizeOf64 rfl ?_)
   refine dN 21 rfl (by kernel_rfl) (bG 0 (l' := [_, _, _, _, _, _, _, _, _, _, _, _, _, _, _, _, _, _, _, _, _, _, _, _, _, _, _, _, _, _, _, _, _, _]) (us := [_, _, _, _, _, _, _, _, _, _, _]) SB.f5 sizeOf64 rfl rfl rfl (aC (by first | rfl | assumption) (aC (by first | rfl | assumption) (aC (by first | rfl | assumption) (aC (by first | rfl | assumption) (aC (by first | rfl | assumption) (aC (by first | rfl | assumption) (aC (by first | rfl | assumption) (aC (by first | rfl | assumption) (aC (by first | rfl | assumption) (aC (by first | rfl | assumption) (aC (by first | rfl | assumption) bn))))))))))) rfl rfl) ?_
   rintro _ Xi IZ
   have QV := aB.kp (IZ.f7.f7.f7.f7.f7.f7.f7)
   refine dR QV (by kernel_rfl) ?_
   refine nJ (aj (ah (aI rfl (aI rfl (aI rfl (bQ rfl (bC 13 underlying69 rfl sizeOf4 rfl (aJ (aS 13 (l' := [_, _, _, _, _, _, _, _, _, _, _, _, _, _, _, _, _, _, _, _, _, _, _, _, _, _, _, _, _, _, _, _, _, _]) IZ sizeOf4 rfl rfl (by first | rfl | assumption) rfl rfl) ?_))))))))
   rintro _ YQ MI
   refine bQ rfl (bC 14 underlying69 rfl sizeOf4 rfl (aJ (aS 14 (l' := [_, _, _, _, _, _, _, _, _, _, _, _, _, _, _, _, _, _, _, _, _, _, _, _, _, _, _, _, _, _, _, _, _, _]) MI sizeOf4 rfl rfl (by first | rfl | assumption) rfl rfl) ?_))
   rintro _ YR Ih
   refine bQ rfl (bC 15 underlying69 rfl sizeOf3 rfl (aJ (aS 15 (l' := [_, _, _, _, _, _, _, _, _, _, _, _, _, _, _, _, _, _, _, _, _, _, _, _, _, _, _, _, _, _, _, _, _, _]) Ih sizeOf3 rfl rfl (by first | rfl | assumption) rfl rfl) ?_))
   rintro _ YS SC
   refine aA (gB (.inr rfl) results79 ?_)
   have VP := SC.f4
   have VQ := VP.pK
   exact ⟨_, _, _, _, _, VQ.f5.f6.f3.f6.f6.f7.f7⟩
 ·skip
  refine gZ 9 rfl (by kernel_rfl) (iW (xH .i64) TS) (lY rfl) ?_
  rintro _ Wv ⟨b31, rfl, J8⟩
  have QW := aB.kp (J8.f4.right.f4.f4.f4.f4)
  refine bW QW (fun W hW => (Kp.h hW).right.f3.f3.f3) ?_
  refine sW (i := 8) (j := 12) (by kernel_rfl) ?_ ?_
  ·skip
   refine gZ 8 rfl (by kernel_rfl) (qP (qV rfl func84 rfl rfl) (jC J8.f4)) (lY rfl) ?_
   rintro _ w32 ⟨rfl, EI⟩
   have Nb := aB.kp (EI.f5.f5.f5.f5.f5)
   refine bW Nb (fun W hW => (Kp.h hW).right.f4.f4.f4.f4) ?_
   refine iR 10 rfl Nb (fun _ => dF (zl := [.int .i64 0, .map none]) (pl := [(0, 1), (1, 1)]) [_, _] underlying125 zeroValue125 rfl (fun w => by kernel_rfl) rfl (.one (by first | rfl | assumption) (.one (by first | rfl | assumption) .nil)) rfl) ?_
   refine sW (i := 11) (j := 12) (by kernel_rfl) ?_ ?_
   ·skip
    refine gZ 11 rfl (by kernel_rfl) (jd (l := [_, _]) EI rfl rfl) (lY rfl) ?_
    rintro _ YU ⟨b33, rfl, KL⟩
    have Nc := aB.kp (KL.f6.f6.f6.f6.f6.f6)
    refine bW Nc (fun W hW => (Kp.h hW).right.f5.f5.f5.f5.f5) ?_
    refine jr 12 rfl (iW (xH .i64) KL) ?_
    rintro _ Y0 ⟨b34, rfl, Nh⟩
    have Bo := aB.kp (Nh.f7.f7.f7.f7.f7.f7.f7)
    refine bW Bo (fun W hW => (Kp.h hW).right.f6.f6.f6.f6.f6.f6) ?_
    refine iR 18 rfl Bo (fun _ => dF (zl := [.pointer none, .pointer none, .pointer none, .map none, .int .i64 0, .bool false, .int .i64 0, .int .i64 0, .int .i64 0, .int .i64 0, .bool false]) (pl := [(0, 1), (1, 1), (2, 1), (3, 1), (4, 1), (5, 1), (6, 1), (7, 1), (8, 1), (9, 1), (10, 1)]) [_, _, _, _, _, _, _, _, _, _, _] underlying64 zeroValue64 rfl (fun w => by kernel_rfl) rfl (.one (by first | rfl | assumption) (.one (by first | rfl | assumption) (.one (by first | rfl | assumption) (.one (by first | rfl | assumption) (.one (by first | rfl | assumption) (.zero (zs := [.bool false]) rfl (.zero (zs := [.int .i64 0]) rfl (.zero (zs := [.int .i64 0]) rfl (.zero (zs := [.int .i64 0]) rfl (.zero (zs := [.int .i64 0]) rfl (.zero (zs := [.bool false]) rfl .nil))))))))))) rfl) ?_
    refine iZ 19 rfl Bo rfl (dV 20 rfl Bo 0 underlying69 rfl sizeOf64 rfl ?_)
    refine dN 21 rfl (by kernel_rfl) (bG 0 (l' := [_, _, _, _, _, _, _, _, _, _, _, _, _, _, _, _, _, _, _, _, _, _, _, _, _, _, _, _, _, _, _, _, _, _]) (us := [_, _, _, _, _, _, _, _, _, _, _]) Nh.f5 sizeOf64 rfl rfl rfl (aC (by first | rfl | assumption) (aC (by first | rfl | assumption) (aC (by first | rfl | assumption) (aC (by first | rfl | assumption) (aC (by first | rfl | assumption) (aC (by first | rfl | assumption) (aC (by first | rfl | assumption) (aC (by first | rfl | assumption) (aC (by first | rfl | assumption) (aC (by first | rfl | assumption) (aC (by first | rfl | assumption) bn))))))))))) rfl rfl) ?_
    rintro _ w35 TT
    have QX := aB.kp (TT.f7.f7.f7.f7.f7.f7.f7)
    refine dR QX (by kernel_rfl) ?_
    refine nJ (aj (ah (aI rfl (aI rfl (aI rfl (bQ rfl (bC 13 underlying69 rfl sizeOf4 rfl (aJ (aS 13 (l' := [_, _, _, _, _, _, _, _, _, _, _, _, _, _, _, _, _, _, _, _, _, _, _, _, _, _, _, _, _, _, _, _, _, _]) TT sizeOf4 rfl rfl (by first | rfl | assumption) rfl rfl) ?_))))))))
    rintro _ w36 WE
    refine bQ rfl (bC 14 underlying69 rfl sizeOf4 rfl (aJ (aS 14 (l' := [_, _, _, _, _, _, _, _, _, _, _, _, _, _, _, _, _, _, _, _, _, _, _, _, _, _, _, _, _, _, _, _, _, _]) WE sizeOf4 rfl rfl (by first | rfl | assumption) rfl rfl) ?_))
    rintro _ w37 UW
    refine bQ rfl (bC 15 underlying69 rfl sizeOf3 rfl (aJ (aS 15 (l' := [_, _, _, _, _, _, _, _, _, _, _, _, _, _, _, _, _, _, _, _, _, _, _, _, _, _, _, _, _, _, _, _, _, _]) UW sizeOf3 rfl rfl (by first | rfl | assumption) rfl rfl) ?_))
    rintro _ Y1 Lm
    refine aA (gB (.inr rfl) results79 ?_)
    have aad := Lm.f2
    have aae := aad.pK
    exact ⟨_, _, _, _, _, aae.f4.f6.f3.f6.f6.f7.f7⟩
   ·skip
    refine gZ 12 rfl (by kernel_rfl) (iW (xH .i64) EI) (lY rfl) ?_
    rintro _ w41 ⟨b41, rfl, TU⟩
    have QY := aB.kp (TU.f6.f6.f6.f6.f6.f6)
    refine bW QY (fun W hW => (Kp.h hW).right.f5.f5.f5.f5.f5) ?_
    refine jr 11 rfl (jd (l := [_, _]) TU rfl rfl) ?_
    rintro _ w42 ⟨b42, rfl, SE⟩
    have FM := aB.kp (SE.f7.f7.f7.f7.f7.f7.f7)
    refine bW FM (fun W hW => (Kp.h hW).right.f6.f6.f6.f6.f6.f6) ?_
    refine iR 18 rfl FM (fun _ => dF (zl := [.pointer none, .pointer none, .pointer none, .map none, .int .i64 0, .bool false, .int .i64 0, .int .i64 0, .int .i64 0, .int .i64 0, .bool false]) (pl := [(0, 1), (1, 1), (2, 1), (3, 1), (4, 1), (5, 1), (6, 1), (7, 1), (8, 1), (9, 1), (10, 1)]) [_, _, _, _, _, _, _, _, _, _, _] underlying64 zeroValue64 rfl (fun w => by kernel_rfl) rfl (.one (by first | rfl | assumption) (.one (by first | rfl | assumption) (.one (by first | rfl | assumption) (.one (by first | rfl | assumption) (.one (by first | rfl | assumption) (.zero (zs := [.bool false]) rfl (.zero (zs := [.int .i64 0]) rfl (.zero (zs := [.int .i64 0]) rfl (.zero (zs := [.int .i64 0]) rfl (.zero (zs := [.int .i64 0]) rfl (.zero (zs := [.bool false]) rfl .nil))))))))))) rfl) ?_
    refine iZ 19 rfl FM rfl (dV 20 rfl FM 0 underlying69 rfl sizeOf64 rfl ?_)
    refine dN 21 rfl (by kernel_rfl) (bG 0 (l' := [_, _, _, _, _, _, _, _, _, _, _, _, _, _, _, _, _, _, _, _, _, _, _, _, _, _, _, _, _, _, _, _, _, _]) (us := [_, _, _, _, _, _, _, _, _, _, _]) SE.f5 sizeOf64 rfl rfl rfl (aC (by first | rfl | assumption) (aC (by first | rfl | assumption) (aC (by first | rfl | assumption) (aC (by first | rfl | assumption) (aC (by first | rfl | assumption) (aC (by first | rfl | assumption) (aC (by first | rfl | assumption) (aC (by first | rfl | assumption) (aC (by first | rfl | assumption) (aC (by first | rfl | assumption) (aC (by first | rfl | assumption) bn))))))))))) rfl rfl) ?_
    rintro _ Y2 SG
    have QZ := aB.kp (SG.f7.f7.f7.f7.f7.f7.f7)
    refine dR QZ (by kernel_rfl) ?_
    refine nJ (aj (ah (aI rfl (aI rfl (aI rfl (bQ rfl (bC 13 underlying69 rfl sizeOf4 rfl (aJ (aS 13 (l' := [_, _, _, _, _, _, _, _, _, _, _, _, _, _, _, _, _, _, _, _, _, _, _, _, _, _, _, _, _, _, _, _, _, _]) SG sizeOf4 rfl rfl (by first | rfl | assumption) rfl rfl) ?_))))))))
    rintro _ w44 UY
    refine bQ rfl (bC 14 underlying69 rfl sizeOf4 rfl (aJ (aS 14 (l' := [_, _, _, _, _, _, _, _, _, _, _, _, _, _, _, _, _, _, _, _, _, _, _, _, _, _, _, _, _, _, _, _, _, _]) UY sizeOf4 rfl rfl (by first | rfl | assumption) rfl rfl) ?_))
    rintro _ Y3 J9
    refine bQ rfl (bC 15 underlying69 rfl sizeOf3 rfl (aJ (aS 15 (l' := [_, _, _, _, _, _, _, _, _, _, _, _, _, _, _, _, _, _, _, _, _, _, _, _, _, _, _, _, _, _, _, _, _, _]) J9 sizeOf3 rfl rfl (by first | rfl | assumption) rfl rfl) ?_))
    rintro _ w46 H46
    refine aA (gB (.inr rfl) results79 ?_)
    have aaf := H46.f3
    have aag := aaf.pK
    exact ⟨_, _, _, _, _, aag.f4.f6.f3.f6.f6.f7.f7⟩
  ·skip
   refine gZ 12 rfl (by kernel_rfl) (iW (xH .i64) J8) (lY rfl) ?_
   rintro _ w49 ⟨b49, rfl, Y4⟩
   have X0 := aB.kp (Y4.f5.right.f5.f5.f5.f5.f5)
   refine bW X0 (fun W hW => (Kp.h hW).right.f4.f4.f4.f4) ?_
   refine jr 8 rfl (rX rfl func84 (jC Y4.f5)) ?_
   rintro _ w50 ⟨rfl, WG⟩
   have UZ := aB.kp (WG.f6.f6.f6.f6.f6.f6)
   refine bW UZ (fun W hW => (Kp.h hW).right.f5.f5.f5.f5.f5) ?_
   refine iR 10 rfl UZ (fun _ => dF (zl := [.int .i64 0, .map none]) (pl := [(0, 1), (1, 1)]) [_, _] underlying125 zeroValue125 rfl (fun w => by kernel_rfl) rfl (.one (by first | rfl | assumption) (.one (by first | rfl | assumption) .nil)) rfl) ?_
   refine jr 11 rfl (jd (l := [_, _]) WG rfl rfl) ?_
   rintro _ w51 ⟨b51, rfl, VR⟩
   have Nj := aB.kp (VR.f7.f7.f7.f7.f7.f7.f7)
   refine bW Nj (fun W hW => (Kp.h hW).right.f6.f6.f6.f6.f6.f6) ?_
   refine iR 18 rfl Nj (fun _ => dF (zl := [.pointer none, .pointer none, .pointer none, .map none, .int .i64 0, .bool false, .int .i64 0, .int .i64 0, .int .i64 0, .int .i64 0, .bool false]) (pl := [(0, 1), (1, 1), (2, 1), (3, 1), (4, 1), (5, 1), (6, 1), (7, 1), (8, 1), (9, 1), (10, 1)]) [_, _, _, _, _, _, _, _, _, _, _] underlying64 zeroValue64 rfl (fun w => by kernel_rfl) rfl (.one (by first | rfl | assumption) (.one (by first | rfl | assumption) (.one (by first | rfl | assumption) (.one (by first | rfl | assumption) (.one (by first | rfl | assumption) (.zero (zs := [.bool false]) rfl (.zero (zs := [.int .i64 0]) rfl (.zero (zs := [.int .i64 0]) rfl (.zero (zs := [.int .i64 0]) rfl (.zero (zs := [.int .i64 0]) rfl (.zero (zs := [.bool false]) rfl .nil))))))))))) rfl) ?_
   refine iZ 19 rfl Nj rfl (dV 20 rfl Nj 0 underlying69 rfl sizeOf64 rfl ?_)
   refine dN 21 rfl (by kernel_rfl) (bG 0 (l' := [_, _, _, _, _, _, _, _, _, _, _, _, _, _, _, _, _, _, _, _, _, _, _, _, _, _, _, _, _, _, _, _, _, _]) (us := [_, _, _, _, _, _, _, _, _, _, _]) VR.f5 sizeOf64 rfl rfl rfl (aC (by first | rfl | assumption) (aC (by first | rfl | assumption) (aC (by first | rfl | assumption) (aC (by first | rfl | assumption) (aC (by first | rfl | assumption) (aC (by first | rfl | assumption) (aC (by first | rfl | assumption) (aC (by first | rfl | assumption) (aC (by first | rfl | assumption) (aC (by first | rfl | assumption) (aC (by first | rfl | assumption) bn))))))))))) rfl rfl) ?_
   rintro _ w52 U0
   have X3 := aB.kp (U0.f7.f7.f7.f7.f7.f7.f7)
   refine dR X3 (by kernel_rfl) ?_
   refine nJ (aj (ah (aI rfl (aI rfl (aI rfl (bQ rfl (bC 13 underlying69 rfl sizeOf4 rfl (aJ (aS 13 (l' := [_, _, _, _, _, _, _, _, _, _, _, _, _, _, _, _, _, _, _, _, _, _, _, _, _, _, _, _, _, _, _, _, _, _]) U0 sizeOf4 rfl rfl (by first | rfl | assumption) rfl rfl) ?_))))))))
   rintro _ w53 WH
   refine bQ rfl (bC 14 underlying69 rfl sizeOf4 rfl (aJ (aS 14 (l' := [_, _, _, _, _, _, _, _, _, _, _, _, _, _, _, _, _, _, _, _, _, _, _, _, _, _, _, _, _, _, _, _, _, _]) WH sizeOf4 rfl rfl (by first | rfl | assumption) rfl rfl) ?_))
   rintro _ w54 H54
   refine bQ rfl (bC 15 underlying69 rfl sizeOf3 rfl (aJ (aS 15 (l' := [_, _, _, _, _, _, _, _, _, _, _, _, _, _, _, _, _, _, _, _, _, _, _, _, _, _, _, _, _, _, _, _, _, _]) H54 sizeOf3 rfl rfl (by first | rfl | assumption) rfl rfl) ?_))
   rintro _ w55 Y5
   refine aA (gB (.inr rfl) results79 ?_)
   have aah := Y5.f4
   have aai := aah.pK
   exact ⟨_, _, _, _, _, aai.f4.f6.f3.f6.f6.f7.f7⟩
 ·skip
  refine gZ 12 rfl (by kernel_rfl) (iW (xH .i64) TS) (lY rfl) ?_
  rintro _ w58 ⟨b58, rfl, TV⟩
  have X5 := aB.kp (TV.f4.right.f4.f4.f4.f4)
  refine bW X5 (fun W hW => (Kp.h hW).right.f3.f3.f3) ?_
  refine sW (i := 8) (j := 9) (by kernel_rfl) ?_ ?_
  ·skip
   refine gZ 8 rfl (by kernel_rfl) (qP (qV rfl func84 rfl rfl) (jC TV.f4)) (lY rfl) ?_
   rintro _ w59 ⟨rfl, X6⟩
   have X7 := aB.kp (X6.f5.f5.f5.f5.f5)
   refine bW X7 (fun W hW => (Kp.h hW).right.f4.f4.f4.f4) ?_
   refine jr 9 rfl (iW (xH .i64) X6) ?_
   rintro _ w60 ⟨b60, rfl, WI⟩
   have U1 := aB.kp (WI.f6.f6.f6.f6.f6.f6)
   refine bW U1 (fun W hW => (Kp.h hW).right.f5.f5.f5.f5.f5) ?_
   refine iR 10 rfl U1 (fun _ => dF (zl := [.int .i64 0, .map none]) (pl := [(0, 1), (1, 1)]) [_, _] underlying125 zeroValue125 rfl (fun w => by kernel_rfl) rfl (.one (by first | rfl | assumption) (.one (by first | rfl | assumption) .nil)) rfl) ?_
   refine jr 11 rfl (jd (l := [_, _]) WI rfl rfl) ?_
   rintro _ w61 ⟨b61, rfl, Y6⟩
   have Nk := aB.kp (Y6.f7.f7.f7.f7.f7.f7.f7)
   refine bW Nk (fun W hW => (Kp.h hW).right.f6.f6.f6.f6.f6.f6) ?_
   refine iR 18 rfl Nk (fun _ => dF (zl := [.pointer none, .pointer none, .pointer none, .map none, .int .i64 0, .bool false, .int .i64 0, .int .i64 0, .int .i64 0, .int .i64 0, .bool false]) (pl := [(0, 1), (1, 1), (2, 1), (3, 1), (4, 1), (5, 1), (6, 1), (7, 1), (8, 1), (9, 1), (10, 1)]) [_, _, _, _, _, _, _, _, _, _, _] underlying64 zeroValue64 rfl (fun w => by kernel_rfl) rfl (.one (by first | rfl | assumption) (.one (by first | rfl | assumption) (.one (by first | rfl | assumption) (.one (by first | rfl | assumption) (.one (by first | rfl | assumption) (.zero (zs := [.bool false]) rfl (.zero (zs := [.int .i64 0]) rfl (.zero (zs := [.int .i64 0]) rfl (.zero (zs := [.int .i64 0]) rfl (.zero (zs := [.int .i64 0]) rfl (.zero (zs := [.bool false]) rfl .nil))))))))))) rfl) ?_
   refine iZ 19 rfl Nk rfl (dV 20 rfl Nk 0 underlying69 rfl sizeOf64 rfl ?_)
   refine dN 21 rfl (by kernel_rfl) (bG 0 (l' := [_, _, _, _, _, _, _, _, _, _, _, _, _, _, _, _, _, _, _, _, _, _, _, _, _, _, _, _, _, _, _, _, _, _]) (us := [_, _, _, _, _, _, _, _, _, _, _]) Y6.f5 sizeOf64 rfl rfl rfl (aC (by first | rfl | assumption) (aC (by first | rfl | assumption) (aC (by first | rfl | assumption) (aC (by first | rfl | assumption) (aC (by first | rfl | assumption) (aC (by first | rfl | assumption) (aC (by first | rfl | assumption) (aC (by first | rfl | assumption) (aC (by first | rfl | assumption) (aC (by first | rfl | assumption) (aC (by first | rfl | assumption) bn))))))))))) rfl rfl) ?_
   rintro _ w62 X8
   have X9 := aB.kp (X8.f7.f7.f7.f7.f7.f7.f7)
   refine dR X9 (by kernel_rfl) ?_
   refine nJ (aj (ah (aI rfl (aI rfl (aI rfl (bQ rfl (bC 13 underlying69 rfl sizeOf4 rfl (aJ (aS 13 (l' := [_, _, _, _, _, _, _, _, _, _, _, _, _, _, _, _, _, _, _, _, _, _, _, _, _, _, _, _, _, _, _, _, _, _]) X8 sizeOf4 rfl rfl (by first | rfl | assumption) rfl rfl) ?_))))))))
   rintro _ w63 Ya
   refine bQ rfl (bC 14 underlying69 rfl sizeOf4 rfl (aJ (aS 14 (l' := [_, _, _, _, _, _, _, _, _, _, _, _, _, _, _, _, _, _, _, _, _, _, _, _, _, _, _, _, _, _, _, _, _, _]) Ya sizeOf4 rfl rfl (by first | rfl | assumption) rfl rfl) ?_))
   rintro _ w64 Yb
   refine bQ rfl (bC 15 underlying69 rfl sizeOf3 rfl (aJ (aS 15 (l' := [_, _, _, _, _, _, _, _, _, _, _, _, _, _, _, _, _, _, _, _, _, _, _, _, _, _, _, _, _, _, _, _, _, _]) Yb sizeOf3 rfl rfl (by first | rfl | assumption) rfl rfl) ?_))
   rintro _ w65 H65
   refine aA (gB (.inr rfl) results79 ?_)
   have aaj := H65.f5
   have aak := aaj.pK
   exact ⟨_, _, _, _, _, aak.f5.f6.f3.f6.f6.f7.f7⟩
  ·skip
   refine gZ 9 rfl (by kernel_rfl) (iW (xH .i64) TV) (lY rfl) ?_
   rintro _ w68 ⟨b68, rfl, Y7⟩
   have Yc := aB.kp (Y7.f5.right.f5.f5.f5.f5.f5)
   refine bW Yc (fun W hW => (Kp.h hW).right.f4.f4.f4.f4) ?_
   refine jr 8 rfl (rX rfl func84 (jC Y7.f5)) ?_
   rintro _ w69 ⟨rfl, Y8⟩
   have U2 := aB.kp (Y8.f6.f6.f6.f6.f6.f6)
   refine bW U2 (fun W hW => (Kp.h hW).right.f5.f5.f5.f5.f5) ?_
   refine iR 10 rfl U2 (fun _ => dF (zl := [.int .i64 0, .map none]) (pl := [(0, 1), (1, 1)]) [_, _] underlying125 zeroValue125 rfl (fun w => by kernel_rfl) rfl (.one (by first | rfl | assumption) (.one (by first | rfl | assumption) .nil)) rfl) ?_
   refine jr 11 rfl (jd (l := [_, _]) Y8 rfl rfl) ?_
   rintro _ w70 ⟨b70, rfl, Yd⟩
   have Nl := aB.kp (Yd.f7.f7.f7.f7.f7.f7.f7)
   refine bW Nl (fun W hW => (Kp.h hW).right.f6.f6.f6.f6.f6.f6) ?_
   refine iR 18 rfl Nl (fun _ => dF (zl := [.pointer none, .pointer none, .pointer none, .map none, .int .i64 0, .bool false, .int .i64 0, .int .i64 0, .int .i64 0, .int .i64 0, .bool false]) (pl := [(0, 1), (1, 1), (2, 1), (3, 1), (4, 1), (5, 1), (6, 1), (7, 1), (8, 1), (9, 1), (10, 1)]) [_, _, _, _, _, _, _, _, _, _, _] underlying64 zeroValue64 rfl (fun w => by kernel_rfl) rfl (.one (by first | rfl | assumption) (.one (by first | rfl | assumption) (.one (by first | rfl | assumption) (.one (by first | rfl | assumption) (.one (by first | rfl | assumption) (.zero (zs := [.bool false]) rfl (.zero (zs := [.int .i64 0]) rfl (.zero (zs := [.int .i64 0]) rfl (.zero (zs := [.int .i64 0]) rfl (.zero (zs := [.int .i64 0]) rfl (.zero (zs := [.bool false]) rfl .nil))))))))))) rfl) ?_
   refine iZ 19 rfl Nl rfl (dV 20 rfl Nl 0 underlying69 rfl sizeOf64 rfl ?_)
   refine dN 21 rfl (by kernel_rfl) (bG 0 (l' := [_, _, _, _, _, _, _, _, _, _, _, _, _, _, _, _, _, _, _, _, _, _, _, _, _, _, _, _, _, _, _, _, _, _]) (us := [_, _, _, _, _, _, _, _, _, _, _]) Yd.f5 sizeOf64 rfl rfl rfl (aC (by first | rfl | assumption) (aC (by first | rfl | assumption) (aC (by first | rfl | assumption) (aC (by first | rfl | assumption) (aC (by first | rfl | assumption) (aC (by first | rfl | assumption) (aC (by first | rfl | assumption) (aC (by first | rfl | assumption) (aC (by first | rfl | assumption) (aC (by first | rfl | assumption) (aC (by first | rfl | assumption) bn))))))))))) rfl rfl) ?_
   rintro _ w71 WJ
   have Ye := aB.kp (WJ.f7.f7.f7.f7.f7.f7.f7)
   refine dR Ye (by kernel_rfl) ?_
   refine nJ (aj (ah (aI rfl (aI rfl (aI rfl (bQ rfl (bC 13 underlying69 rfl sizeOf4 rfl (aJ (aS 13 (l' := [_, _, _, _, _, _, _, _, _, _, _, _, _, _, _, _, _, _, _, _, _, _, _, _, _, _, _, _, _, _, _, _, _, _]) WJ sizeOf4 rfl rfl (by first | rfl | assumption) rfl rfl) ?_))))))))
   rintro _ w72 H72
   refine bQ rfl (bC 14 underlying69 rfl sizeOf4 rfl (aJ (aS 14 (l' := [_, _, _, _, _, _, _, _, _, _, _, _, _, _, _, _, _, _, _, _, _, _, _, _, _, _, _, _, _, _, _, _, _, _]) H72 sizeOf4 rfl rfl (by first | rfl | assumption) rfl rfl) ?_))
   rintro _ w73 H73
   refine bQ rfl (bC 15 underlying69 rfl sizeOf3 rfl (aJ (aS 15 (l' := [_, _, _, _, _, _, _, _, _, _, _, _, _, _, _, _, _, _, _, _, _, _, _, _, _, _, _, _, _, _, _, _, _, _]) H73 sizeOf3 rfl rfl (by first | rfl | assumption) rfl rfl) ?_))
   rintro _ w74 H74
   refine aA (gB (.inr rfl) results79 ?_)
   have aal := H74.f5
   have aam := aal.pK
   exact ⟨_, _, _, _, _, aam.f4.f6.f3.f6.f6.f7.f7⟩
theorem aB.yD {c : lK} {u : List Value} (H : aB w0 w F) : aB w0 w (rP false c u • F) := by
  unfold rP
  rw [if_neg (by decide)]
  exact H.yN
theorem aB.VT {pb pr pw pt pm : Nat} {c : lK} (H : aB w0 w (dM pb c.L c.pt c.mark • dW pr c.E c.at_ • dh pw (.cells #[.int .i64 c.place, .map (some pt)] 125 (0, 0)) • dU lg pt (lq c.tx) • pV pm c.un • F)) : aB w0 w (rP true c (Ju pb pr pw pm c) • F) := by
  unfold rP
  rw [if_pos rfl]
  exact aB.gK (pb, pr, pw, pt, pm) (aB.deep (aB.jP rfl (H.of_eq (by unfold Lc; simp only [bI]))))
theorem aB.was {c : lK} {u : List Value} (H : aB w0 w (rP true c u • F)) : ∃ pb pr pw pt pm, u = Ju pb pr pw pm c ∧ aB w0 w (dM pb c.L c.pt c.mark • dW pr c.E c.at_ • dh pw (.cells #[.int .i64 c.place, .map (some pt)] 125 (0, 0)) • dU lg pt (lq c.tx) • pV pm c.un • F) := by
  unfold rP at H
  rw [if_pos rfl] at H
  obtain ⟨⟨pb, pr, pw, pt, pm⟩, H⟩ := H.lD
  obtain ⟨h, H⟩ := H.flat.fact
  exact ⟨pb, pr, pw, pt, pm, h, H.of_eq (by unfold Lc; simp only [bI])⟩
theorem aB.Ee {pb pr pw pt pm ph bl : Nat} {u0 u1 u2 u3 u4 u5 u6 u7 u8 u9 ua : Value} (h1 : jY s) (hp : s.put = []) (H : aB w0 w (dh e (.cells (.pointer (some ⟨pb, 0, none⟩) :: .pointer (some ⟨pr, 0, none⟩) :: .pointer (some ⟨pw, 0, none⟩) :: .map (some pm) :: .int .i64 s.c.mode :: .bool s.c.over :: .int .i64 s.c.last :: .int .i64 s.c.fr :: .int .i64 s.c.to :: .int .i64 s.c.res :: .bool s.c.run :: .pointer (some ⟨ph, 0, none⟩) :: .pointer (some ⟨bl, 0, none⟩) :: .bool s.given :: .bool s.minus :: .int .i64 s.arg :: .bool s.inn :: u0 :: u1 :: u2 :: u3 :: u4 :: u5 :: u6 :: u7 :: u8 :: u9 :: ua :: .int .i64 s.cls :: .bool s.killed :: .bool s.lW :: .bool s.argues :: .bool s.whole :: .slice none 0 0 :: []).toArray 69 (0, 0)) • dM pb s.c.L s.c.pt s.c.mark • dW pr s.c.E s.c.at_ • dh pw (.cells #[.int .i64 s.c.place, .map (some pt)] 125 (0, 0)) • dU lg pt (lq s.c.tx) • pV pm s.c.un • dn ph s.hl s.base s.most • dh bl (.cells #[.int .i64 s.sH] 144 (0, 0)) • rP s.inn s.was [u0, u1, u2, u3, u4, u5, u6, u7, u8, u9, ua] • F)) : aB w0 w (dO e s • F) := by
  refine aB.dY (pb := pb) (pr := pr) (pw := pw) (pt := pt) (pm := pm) (ph := ph) (bl := bl) (u0 := u0) (u1 := u1) (u2 := u2) (u3 := u3) (u4 := u4) (u5 := u5) (u6 := u6) (u7 := u7) (u8 := u8) (u9 := u9) (ua := ua) (pv := .slice none 0 0) (es := []) h1 (by rw [hp]; rfl) ?_
  rw [hp]
  exact (H.oU none).of_eq (by unfold EO; ac_rfl)
theorem aB.Lp {pb pr pw pt pm ph bl : Nat} {u0 u1 u2 u3 u4 u5 u6 u7 u8 u9 ua : Value} (h1 : jY s) (hp : s.put = []) (hi : s.inn = false) (H : aB w0 w (dh e (.cells (.pointer (some ⟨pb, 0, none⟩) :: .pointer (some ⟨pr, 0, none⟩) :: .pointer (some ⟨pw, 0, none⟩) :: .map (some pm) :: .int .i64 s.c.mode :: .bool s.c.over :: .int .i64 s.c.last :: .int .i64 s.c.fr :: .int .i64 s.c.to :: .int .i64 s.c.res :: .bool s.c.run :: .pointer (some ⟨ph, 0, none⟩) :: .pointer (some ⟨bl, 0, none⟩) :: .bool s.given :: .bool s.minus :: .int .i64 s.arg :: .bool false :: u0 :: u1 :: u2 :: u3 :: u4 :: u5 :: u6 :: u7 :: u8 :: u9 :: ua :: .int .i64 s.cls :: .bool s.killed :: .bool s.lW :: .bool s.argues :: .bool s.whole :: .slice none 0 0 :: []).toArray 69 (0, 0)) • dM pb s.c.L s.c.pt s.c.mark • dW pr s.c.E s.c.at_ • dh pw (.cells #[.int .i64 s.c.place, .map (some pt)] 125 (0, 0)) • dU lg pt (lq s.c.tx) • pV pm s.c.un • dn ph s.hl s.base s.most • dh bl (.cells #[.int .i64 s.sH] 144 (0, 0)) • F)) : aB w0 w (dO e s • F) := by
  refine aB.Ee (pb := pb) (pr := pr) (pw := pw) (pt := pt) (pm := pm) (ph := ph) (bl := bl) (u0 := u0) (u1 := u1) (u2 := u2) (u3 := u3) (u4 := u4) (u5 := u5) (u6 := u6) (u7 := u7) (u8 := u8) (u9 := u9) (ua := ua) h1 hp ?_
  rw [hi]
  exact (H.yD (c := s.was) (u := [u0, u1, u2, u3, u4, u5, u6, u7, u8, u9, ua])).of_eq (by ac_rfl)
theorem aB.Q5 {pb pr pw pt pm ph bl : Nat} {u0 u1 u2 u3 u4 u5 u6 u7 u8 u9 ua : Value} {pv : Value} {es : List dw} (h1 : jY s) (h2 : es.map dw.says = s.put) (H : aB w0 w (EO pv es • dh e (.cells (.pointer (some ⟨pb, 0, none⟩) :: .pointer (some ⟨pr, 0, none⟩) :: .pointer (some ⟨pw, 0, none⟩) :: .map (some pm) :: .int .i64 s.c.mode :: .bool s.c.over :: .int .i64 s.c.last :: .int .i64 s.c.fr :: .int .i64 s.c.to :: .int .i64 s.c.res :: .bool s.c.run :: .pointer (some ⟨ph, 0, none⟩) :: .pointer (some ⟨bl, 0, none⟩) :: .bool s.given :: .bool s.minus :: .int .i64 s.arg :: .bool s.inn :: u0 :: u1 :: u2 :: u3 :: u4 :: u5 :: u6 :: u7 :: u8 :: u9 :: ua :: .int .i64 s.cls :: .bool s.killed :: .bool s.lW :: .bool s.argues :: .bool s.whole :: pv :: []).toArray 69 (0, 0)) • dM pb s.c.L s.c.pt s.c.mark • dW pr s.c.E s.c.at_ • dh pw (.cells #[.int .i64 s.c.place, .map (some pt)] 125 (0, 0)) • dU lg pt (lq s.c.tx) • pV pm s.c.un • dn ph s.hl s.base s.most • dh bl (.cells #[.int .i64 s.sH] 144 (0, 0)) • rP s.inn s.was [u0, u1, u2, u3, u4, u5, u6, u7, u8, u9, ua] • F)) : aB w0 w (dO e s • F) := by
  refine aB.dY (pb := pb) (pr := pr) (pw := pw) (pt := pt) (pm := pm) (ph := ph) (bl := bl) (u0 := u0) (u1 := u1) (u2 := u2) (u3 := u3) (u4 := u4) (u5 := u5) (u6 := u6) (u7 := u7) (u8 := u8) (u9 := u9) (ua := ua) (pv := pv) (es := es) h1 h2 ?_
  have hl : s.put.length = es.length := by rw [← h2]; simp
  rw [hl]
  exact H.of_eq (by unfold EO; ac_rfl)
theorem Jz (hl : List lC) (l : List Int) (E : List (List Int)) (a : Nat) (m : Int) : Am hl (lK.fresh l E a hl.length m) := ⟨by simp [lK.fresh], by simp [lK.fresh], by simp [lK.fresh]⟩
theorem VU (hl : List lC) (base most : Int) : jY (bH.new hl base most) :=
  ⟨Jz _ _ _ _ _, by simp [bH.new], by simp [bH.new], by simp [bH.new], by simp [bH.new, bH.here, lK.fresh, eY], by simp [bH.new, lK.fresh]⟩
theorem Lr (H : aB w0 w (dn h hl base most • F)) : gG prog 34 #[.pointer (some ⟨h, 0, none⟩)] w fun v w' => ∃ e, v = .tuple #[.pointer (some ⟨e, 0, none⟩), .int .i64 0] ∧ aB w0 w' (dO e (bH.new hl base most) • dn h hl base most • F) := by
 refine iF func34 ntmps34 ?_
 dsimp only [bg, Nat.reduceAdd]
 refine ay (ah (aW rfl (aW rfl (aA (aj (ay (ay (ah (aI rfl (dH rfl func77 (nT H) ?_))))))))))
 rintro _ w1 ⟨q1, rfl, H1⟩
 refine aU (iI underlying65 rfl rfl) (aA (aj (aP rfl (fun h => by exfalso; (try simp only [aG] at h); simp at h) (fun h1 => ?_))))
 (try simp only [aG] at h1)
 refine aO (aj (ay (ah (aU (dF (zl := [.int .i64 0]) (pl := [(0, 0), (0, 0), (0, 1)]) [_] underlying144 zeroValue144 rfl (fun w => by kernel_rfl) rfl (.zero (zs := []) rfl (.zero (zs := []) rfl (.zero (zs := [.int .i64 0]) rfl .nil))) rfl) (iw (jd (l := [_]) H1 rfl rfl) ?_)))))
 rintro _ w2 ⟨b2, rfl, H2⟩
 refine aU (dF (zl := [.pointer none, .pointer none, .pointer none, .map none, .int .i64 0, .bool false, .int .i64 0, .int .i64 0, .int .i64 0, .int .i64 0, .bool false, .pointer none, .pointer none, .bool false, .bool false, .int .i64 0, .bool false, .pointer none, .pointer none, .pointer none, .map none, .int .i64 0, .bool false, .int .i64 0, .int .i64 0, .int .i64 0, .int .i64 0, .bool false, .int .i64 0, .bool false, .bool false, .bool false, .bool false, .slice none 0 0]) (pl := [(0, 11), (11, 1), (12, 1), (13, 1), (14, 1), (15, 1), (16, 1), (17, 11), (28, 1), (29, 1), (30, 1), (31, 1), (32, 1), (33, 1)]) [_, _, _, _, _, _, _, _, _, _, _, _, _, _, _, _, _, _, _, _, _, _, _, _, _, _, _, _, _, _, _, _, _, _] underlying69 zeroValue69 rfl (fun w => by kernel_rfl) rfl (.zero (zs := [.pointer none, .pointer none, .pointer none, .map none, .int .i64 0, .bool false, .int .i64 0, .int .i64 0, .int .i64 0, .int .i64 0, .bool false]) rfl (.zero (zs := [.pointer none]) rfl (.one (by first | rfl | assumption) (.zero (zs := [.bool false]) rfl (.zero (zs := [.bool false]) rfl (.zero (zs := [.int .i64 0]) rfl (.zero (zs := [.bool false]) rfl (.zero (zs := [.pointer none, .pointer none, .pointer none, .map none, .int .i64 0, .bool false, .int .i64 0, .int .i64 0, .int .i64 0, .int .i64 0, .bool false]) rfl (.zero (zs := [.int .i64 0]) rfl (.zero (zs := [.bool false]) rfl (.zero (zs := [.bool false]) rfl (.zero (zs := [.bool false]) rfl (.zero (zs := [.bool false]) rfl (.zero (zs := [.slice none 0 0]) rfl .nil)))))))))))))) rfl) ?_
 refine iw (jd (l := [_, _, _, _, _, _, _, _, _, _, _, _, _, _, _, _, _, _, _, _, _, _, _, _, _, _, _, _, _, _, _, _, _, _]) H2 rfl rfl) ?_
 rintro _ w3 ⟨b3, rfl, H3⟩
 refine aW rfl (aA (aj (ay (ah (aI rfl (dH rfl func78 (Gu H3) ?_))))))
 rintro _ w4 ⟨p4, rfl, H4⟩
 refine bQ rfl (bC 0 underlying69 rfl sizeOf64 rfl (bC 1 underlying64 rfl sizeOf60 rfl (aJ (aS 1 (l' := [_, _, _, _, _, _, _, _, _, _, _, _, _, _, _, _, _, _, _, _, _, _, _, _, _, _, _, _, _, _, _, _, _, _]) H4.f2 sizeOf60 rfl rfl (by first | rfl | assumption) rfl rfl) ?_)))
 rintro _ w5 H5
 refine aA (aj (ay (ah (aI rfl (aI rfl (dH rfl func79 (yc (E := []) (a := 0) H5.f4.right.f3.f3.f4.f4 (l := []) (fun W _ => jc.nil W _ none 0 (by decide)) (by decide)) ?_))))))
 rintro _ w6 ⟨qb, qw, qt, qm, qh, H6⟩
 refine aA (aj (ay (ah (aI rfl (aW rfl (aW rfl (aA (aj (aK (gW (.inl rfl) results34 rfl rfl ?_))))))))))
 exact ⟨_, rfl, aB.Lp (s := bH.new hl base most) (VU _ _ _) rfl rfl H6.f7.f9.f8.f8.f8.f8.f9.f9.f9⟩
end
end Go.Proofs.YtddekefihgejoaaGreatDoor
end
section
namespace Go.Proofs.YtddekefihgejoaaGreatDoor
open Go.RowKit
open _root_.Go.Proofs.Tryz
section
variable {w0 w : World} {F : HP} {e p h pr : Nat} {s : bH} {hl : List lC} {base most m : Int} {v : Value} {l : List Int}
theorem Ap (h : s.inn = false) : s.gX = { s with inn := true, was := s.c, cls := 0, killed := false, lW := false, argues := false, whole := true, put := [] } := by unfold bH.gX; rw [if_neg (by simp [h])]
theorem Ls (h : s.inn = true) : s.gX = s := by unfold bH.gX; rw [if_pos h]
theorem Np {G : List (List fJ)} {N : List fJ} (h : eY G N ≤ 16384) : eY G [] ≤ 16384 := by unfold eY at *; simp at *; omega
theorem Q7 (h : jY s) (hi : s.inn = false) : jY s.gX := by
  rw [Ap hi]
  obtain ⟨h1, h2, h3, h4, h5, h6⟩ := h
  exact ⟨h1, fun _ => ⟨h1, Np h5, h6⟩, h3, by simp, Np h5, h6⟩
theorem qI (H : aB w0 w (dO e s • F)) : gG prog 36 #[.pointer (some ⟨e, 0, none⟩)] w fun v w' => v = .int .i64 s.rO ∧ aB w0 w' (dO e s.gX • F) := by
 refine iF func36 ntmps36 ?_
 dsimp only [bg, Nat.reduceAdd]
 refine ay (ah (aW rfl (aA (aj (ay (bf (ay (ah (aI rfl (dH rfl func54 (pJ H) ?_))))))))))
 rintro _ _ ⟨rfl, rfl⟩
 refine aW rfl (aA (aj (nY (ay ?_))))
 obtain ⟨qy, qA, qB, qC, qE, qF, qG, qH, oq, mM, mO, mP, mQ, mV, mW, mX, mY, mZ, ng, ni, dI, bM, ig, eH⟩ := (H).D9
 refine ah (aI rfl (bQ rfl (bC 16 underlying69 rfl sizeOf4 rfl (eu underlying4 rfl (eH).get.2 rfl (aW rfl (aA (aj (aP rfl (fun h1 => ?_) (fun h1 => ?_)))))))))
 ·(try simp only [aG] at h1)
  try (exfalso; first | contradiction | omega)
  all_goals
   have hin := h1
   refine ay (ah (aW rfl (aA (aj (aK (aX (aN (aQ (.inl rfl) results36 rfl ?_))))))))
   exact ⟨by unfold bH.rO; rw [if_pos hin], by rw [Ls hin]; exact aB.dY dI bM eH.f11.f11.f11.f11.f11.f11.f11.f11.f11.f11.f11⟩
 ·(try simp only [aG] at h1)
  try (exfalso; first | contradiction | omega)
  all_goals
   have hin := h1
   refine aO (aH (aj (ay (ah (aI rfl (aI rfl (aI rfl (bQ rfl (bC 0 underlying69 rfl sizeOf64 rfl (aU (pq 0 (xs := [_, _, _, _, _, _, _, _, _, _, _]) underlying64 rfl sizeOf64 rfl rfl (eH).get.2 rfl) (dH rfl func80 (QO eH.f6.f6.f6.f6.f6) ?_)))))))))))
   rintro _ w3 ⟨qb3, qr3, qw3, qt3, qm3, rfl, H3⟩
   refine bQ rfl (bC 16 underlying69 rfl sizeOf4 rfl (aJ (aS 16 (l' := [_, _, _, _, _, _, _, _, _, _, _, _, _, _, _, _, _, _, _, _, _, _, _, _, _, _, _, _, _, _, _, _, _, _]) H3.f11 sizeOf4 rfl rfl (by first | rfl | assumption) rfl rfl) ?_))
   rintro _ w4 H4
   refine bQ rfl (bC 17 underlying69 rfl sizeOf64 rfl (aJ (bG 17 (l' := [_, _, _, _, _, _, _, _, _, _, _, _, _, _, _, _, _, _, _, _, _, _, _, _, _, _, _, _, _, _, _, _, _, _]) (us := [_, _, _, _, _, _, _, _, _, _, _]) H4 sizeOf64 rfl rfl rfl (aC (by first | rfl | assumption) (aC (by first | rfl | assumption) (aC (by first | rfl | assumption) (aC (by first | rfl | assumption) (aC (by first | rfl | assumption) (aC (by first | rfl | assumption) (aC (by first | rfl | assumption) (aC (by first | rfl | assumption) (aC (by first | rfl | assumption) (aC (by first | rfl | assumption) (aC (by first | rfl | assumption) bn))))))))))) rfl rfl) ?_))
   rintro _ w5 H5
   refine aA (aj (ay (ah (aI rfl (aI rfl (aI rfl (aI rfl (aI rfl (aI rfl (bQ rfl (bC 28 underlying69 rfl sizeOf3 rfl (aJ (aS 28 (l' := [_, _, _, _, _, _, _, _, _, _, _, _, _, _, _, _, _, _, _, _, _, _, _, _, _, _, _, _, _, _, _, _, _, _]) H5 sizeOf3 rfl rfl (by first | rfl | assumption) rfl rfl) ?_))))))))))))
   rintro _ w6 H6
   refine bQ rfl (bC 29 underlying69 rfl sizeOf4 rfl (aJ (aS 29 (l' := [_, _, _, _, _, _, _, _, _, _, _, _, _, _, _, _, _, _, _, _, _, _, _, _, _, _, _, _, _, _, _, _, _, _]) H6 sizeOf4 rfl rfl (by first | rfl | assumption) rfl rfl) ?_))
   rintro _ w7 H7
   refine bQ rfl (bC 30 underlying69 rfl sizeOf4 rfl (aJ (aS 30 (l' := [_, _, _, _, _, _, _, _, _, _, _, _, _, _, _, _, _, _, _, _, _, _, _, _, _, _, _, _, _, _, _, _, _, _]) H7 sizeOf4 rfl rfl (by first | rfl | assumption) rfl rfl) ?_))
   rintro _ w8 H8
   refine bQ rfl (bC 31 underlying69 rfl sizeOf4 rfl (aJ (aS 31 (l' := [_, _, _, _, _, _, _, _, _, _, _, _, _, _, _, _, _, _, _, _, _, _, _, _, _, _, _, _, _, _, _, _, _, _]) H8 sizeOf4 rfl rfl (by first | rfl | assumption) rfl rfl) ?_))
   rintro _ w9 H9
   refine bQ rfl (bC 32 underlying69 rfl sizeOf4 rfl (aJ (aS 32 (l' := [_, _, _, _, _, _, _, _, _, _, _, _, _, _, _, _, _, _, _, _, _, _, _, _, _, _, _, _, _, _, _, _, _, _]) H9 sizeOf4 rfl rfl (by first | rfl | assumption) rfl rfl) ?_))
   rintro _ w10 qL
   refine bQ rfl (bC 33 underlying69 rfl sizeOf67 rfl (aJ (aS 33 (l' := [_, _, _, _, _, _, _, _, _, _, _, _, _, _, _, _, _, _, _, _, _, _, _, _, _, _, _, _, _, _, _, _, _, _]) qL sizeOf67 rfl rfl (by first | rfl | assumption) rfl rfl) ?_))
   rintro _ Gq sD
   refine aA (aj (ay (ah (aW rfl (aA (aj (aK (aQ (.inl rfl) results36 rfl ?_))))))))
   have Lj := sD.f6.f6.f6.f6.f6
   have Ll := aB.VT (c := s.c) Lj
   exact ⟨by unfold bH.rO; rw [if_neg (by simp [hin])], by rw [Ap hin]; exact aB.Ee (Ap hin ▸ Q7 dI hin) rfl Ll.f10.right.f10.right.f10.right.f9.f9.f9.f9.f9.f9.f9.f9⟩
end
end Go.Proofs.YtddekefihgejoaaGreatDoor
end
section
namespace Go.Proofs.YtddekefihgejoaaGreatDoor
open Go.RowKit
open _root_.Go.Proofs.Tryz
section
variable {w0 w : World} {F : HP} {e p h pr : Nat} {s : bH} {x : Int} {b : Bool}
theorem uN (h : jY s) (L : List Int) (pt mk : Int) : jY (s.jO L pt mk) := h
theorem Bq (H : aB w0 w (dO e s • F)) : gG prog 40 #[.pointer (some ⟨e, 0, none⟩), .int .i64 x] w fun v w' => v = .int .i64 (s.FC x) ∧ aB w0 w' (dO e (s.wM x) • F) := by
 refine iF func40 ntmps40 ?_
 dsimp only [bg, Nat.reduceAdd]
 refine ay (ah (aW rfl (aA (aj (ay (ay (ah (aI rfl (dH rfl func81 (kR H) ?_)))))))))
 rintro _ _ ⟨rfl, rfl⟩
 refine aW rfl (aA (aj (ay (ah (aI rfl (aU (gy rfl rfl) (aA (aj (aP rfl (fun h1 => ?_) (fun h1 => ?_))))))))))
 ·(try simp only [aG] at h1)
  obtain ⟨hin, hpe⟩ := CQ h1
  refine ay (ah (aI rfl (aW rfl (aA (aj (aK (aN (aQ (.inl rfl) results40 rfl ?_))))))))
  rw [hpe]
  exact ⟨by simp [bH.FC, bH.wM, hin], by rw [show s.wM x = s from by simp [bH.FC, bH.wM, hin]]; exact H⟩
 ·(try simp only [aG] at h1)
  have hin := zD h1
  refine aO (aj (ay ?_))
  obtain ⟨qy, qA, qB, qC, qE, qF, qG, qH, oq, mM, mO, mP, mQ, mV, mW, mX, mY, mZ, ng, ni, dI, bM, ig, eH⟩ := (H).D9
  refine ah (aI rfl (bQ rfl (bC 0 underlying69 rfl sizeOf64 rfl (bC 0 underlying64 rfl sizeOf59 rfl (eu underlying59 rfl (eH).get.2 rfl (aI rfl (dH rfl func90 (Gs eH.f2) ?_)))))))
  rintro _ w3 ⟨rfl, H3⟩
  refine aW rfl (aA (aj (aK (aQ (.inl rfl) results40 rfl ?_))))
  exact ⟨by simp [bH.FC, hin], by rw [show s.wM x = s.jO s.c.L (UG s.c.L.length s.c.pt x) s.c.mark from by simp [bH.wM, hin]]; exact aB.dY (uN dI _ _ _) bM H3.f11.f11.f11.f11.f11.f11.f11.f11.f11.f10.f11⟩
theorem Bv (H : aB w0 w (dO e s • F)) : gG prog 32 #[.pointer (some ⟨e, 0, none⟩)] w fun v w' => ∃ u, v = .agg (oG u s.c.pt s.c.mark) ∧ aB w0 w' (iD 21 .i32 u s.c.L • dO e s • F) := by
 refine iF func32 ntmps32 ?_
 dsimp only [bg, Nat.reduceAdd]
 refine ay (ah (iw (cZ (l := [_, _, _]) H zeroValue41 rfl) ?_))
 rintro _ w1 ⟨b1, rfl, H1⟩
 refine aA (aj (ay (ay (ah (aI rfl (dH rfl func54 (pJ H1.f2) ?_))))))
 rintro _ _ ⟨rfl, rfl⟩
 refine aA (aj (nY (aO (aj (ay ?_)))))
 obtain ⟨qy, qA, qB, qC, qE, qF, qG, qH, oq, mM, mO, mP, mQ, mV, mW, mX, mY, mZ, ng, ni, dI, bM, ig, eH⟩ := (H1.f2).D9
 refine ah (aI rfl (bQ rfl (bC 0 underlying69 rfl sizeOf64 rfl (bC 0 underlying64 rfl sizeOf59 rfl (eu underlying59 rfl (eH).get.2 rfl (dH rfl func74 (y7 eH.f2) ?_))))))
 rintro _ w4 ⟨u4, rfl, H4⟩
 refine aJ (bG 0 (l' := [_, _, _]) (us := [_, _, _]) H4.f13 sizeOf41 rfl rfl rfl (aC (by first | rfl | exact Rd.one ((H4).aT)) (aC (by first | rfl | assumption) (aC (by first | rfl | assumption) bn))) rfl rfl) ?_
 rintro _ w5 H5
 refine aA (aj (aK ?_))
 refine kM (.inl rfl) (Gl results32 rfl underlying41 rfl (by rw [show (prog.info? 41).map (·.size) = some 3 from by kernel_rfl]; rfl) (H5).get.2) ?_
 have Qu := H5.f13.f13.f13.f13.f13.f13.f13.f13.f13.f12.f13
 have Oo := aB.dY (s := s) dI bM Qu
 exact ⟨_, rfl, Oo.f2.right.f2⟩
theorem JA (H : aB w0 w (dO e s • F)) : gG prog 49 #[.pointer (some ⟨e, 0, none⟩)] w fun v w' => ∃ q, v = .pointer (some ⟨q, 0, none⟩) ∧ aB w0 w' (dn q s.hl s.base s.most • dO e s • F) := by
 refine iF func49 ntmps49 ?_
 dsimp only [bg, Nat.reduceAdd]
 refine ay (ah (aW rfl (aA (aj (ay (ay (ah (aI rfl (dH rfl func54 (pJ H) ?_)))))))))
 rintro _ _ ⟨rfl, rfl⟩
 refine aA (aj (nY (aO (aj (ay ?_)))))
 obtain ⟨qy, qA, qB, qC, qE, qF, qG, qH, oq, mM, mO, mP, mQ, mV, mW, mX, mY, mZ, ng, ni, dI, bM, ig, eH⟩ := (H).D9
 refine ah (aI rfl (bQ rfl (bC 11 underlying69 rfl sizeOf65 rfl (eu underlying65 rfl (eH).get.2 rfl (dH rfl func77 (nT eH.f7) ?_)))))
 rintro _ w3 ⟨q3, rfl, H3⟩
 refine aW rfl (aA (aj (aK (aQ (.inl rfl) results49 rfl ?_))))
 have XD := H3.f12.f12.f12.f12.f6.f12.f12.f12.f12.f12.f12
 have XE := aB.dY (s := s) dI bM XD
 exact ⟨_, rfl, XE.f2⟩
end
end Go.Proofs.YtddekefihgejoaaGreatDoor
end
