import Derived.Test.YtddekefihgejoaaGreatDoorZ2
import Derived.Test.YtddekefihgejoaaGreatDoorZ11
set_option linter.unusedSimpArgs false
set_option linter.unusedVariables false
/- Texts of mine, joined, their names in short: EdB EdC EdMv. -/
section
namespace Go.Proofs.YtddekefihgejoaaGreatDoor
open Go.RowKit
open _root_.Go.Proofs.Tryz
section
variable {w0 w : World} {F : HP} {e p h pr : Nat} {s : bH} {hl : List lg} {base most m : Int} {v : Value} {l : List Int}
theorem aA.qp {b : Nat} (H : aA w0 w (dY lI b (fun _ => none) • F)) : aA w0 w (qF b (fun _ => []) • F) :=
  aA.xZ (D := []) (P := fun _ => 0) List.nodup_nil (fun _ _ => rfl) (by rw [NW]; exact H.of_eq (by show _ = (_ • emp • _); rw [YtddekefihgejoaaGreatDoor.ji]))
set_option maxHeartbeats 1000000 in
theorem yJ {x0 x2 x3 x5 x6 x7 x8 x9 x10 x11 x12 Aa x14 x15 x16 x17 x18 x19 x20 x21 zi x23 x24 x25 zk x27 x28 x29 x30 x31 x32 BQ : Value} {E : List (List Int)} {a : Nat} (H : aA w0 w (cO e (.cells (x0 :: .pointer (some ⟨pr, 0, none⟩) :: x2 :: x3 :: .int .i64 m :: x5 :: x6 :: x7 :: x8 :: x9 :: x10 :: x11 :: x12 :: Aa :: x14 :: x15 :: x16 :: x17 :: x18 :: x19 :: x20 :: x21 :: zi :: x23 :: x24 :: x25 :: zk :: x27 :: x28 :: x29 :: x30 :: x31 :: x32 :: BQ :: []).toArray 69 (0, 0)) • dn h hl base most • F)) (hr : gV w0 F .i32 v l) (hshort : l.length ≤ 1024) :
  fQ prog 79 #[.pointer (some ⟨e, 0, none⟩), .pointer (some ⟨h, 0, none⟩), v] w fun _ w' => ∃ pb pw pt pm ph, aA w0 w' (cO e (.cells (.pointer (some ⟨pb, 0, none⟩) :: .pointer (some ⟨pr, 0, none⟩) :: .pointer (some ⟨pw, 0, none⟩) :: .map (some pm) :: .int .i64 m :: .bool false :: .int .i64 0 :: .int .i64 0 :: .int .i64 0 :: .int .i64 0 :: .bool false :: .pointer (some ⟨ph, 0, none⟩) :: x12 :: .bool false :: .bool false :: .int .i64 (-1) :: x16 :: x17 :: x18 :: x19 :: x20 :: x21 :: zi :: x23 :: x24 :: x25 :: zk :: x27 :: x28 :: x29 :: x30 :: x31 :: x32 :: BQ :: []).toArray 69 (0, 0)) •
   dQ pb l l.length (-1) • cO pw (.cells #[.int .i64 hl.length, .map (some pt)] 125 (0, 0)) • dY lI pt (fun _ => none) • qF pm (fun _ => []) • dn ph hl base most • dn h hl base most • F) := by
 refine iw func79 ntmps79 ?_
 dsimp only [aZ, Nat.reduceAdd]
 refine ay (ah (aP rfl (dD rfl func87 (BK H (fun W HW => hr _ (HW.right.right)) hshort) ?_)))
 rintro _ w1 ⟨p1, rfl, H1⟩
 refine aP rfl (wQ rfl rfl (wQ rfl rfl (aW rfl (aW rfl (aB (aj (ay (ah (aP rfl (aP rfl (dD rfl func77 (og H1.f3) ?_)))))))))))
 rintro _ w2 ⟨q2, rfl, H2⟩
 refine bT rfl (bf 11 underlying69 rfl sizeOf65 rfl (aI (aS 11 (l' := [_, _, _, _, _, _, _, _, _, _, _, _, _, _, _, _, _, _, _, _, _, _, _, _, _, _, _, _, _, _, _, _, _, _]) H2.f4 sizeOf65 rfl rfl (by first | rfl | assumption) rfl rfl) ?_))
 rintro _ w3 H3
 refine aB (aj (ay ?_))
 have UN := H3.drew
 have tX := aA.kp (UN.f3.right.f3.f3.f3)
 refine vJ [6, 17] tX rfl (fU 0 rfl tX rfl (fU 1 rfl tX rfl (fU 2 rfl tX rfl (iZ 3 rfl tX rfl (dU 4 rfl tX 0 underlying69 rfl sizeOf64 rfl (dU 5 rfl tX 1 underlying64 rfl sizeOf60 rfl (gG 6 rfl tX (fun W hW => iF underlying60 rfl ((Kp.h hW)).get.2 rfl) (fU 7 rfl tX rfl (fU 13 rfl tX rfl (iZ 14 rfl tX rfl (dU 15 rfl tX 0 underlying69 rfl sizeOf64 rfl (dU 16 rfl tX 4 underlying64 rfl sizeOf3 rfl (gG 17 rfl tX (fun W hW => iF underlying3 rfl ((Kp.h hW)).get.2 rfl) ?_)))))))))))))
 refine Qn (i := 8) (j := 9) (k := 12) (by kernel_rfl) ?_ ?_ ?_
 ·skip
  refine iy 8 rfl (by kernel_rfl) (lN (mG rfl func84 rfl rfl) (jF UN.f3)) (jg rfl) ?_
  rintro _ w4 ⟨rfl, H4⟩
  have uO := aA.kp (H4.f4.f4.f4.f4)
  refine bU uO (fun W hW => (Kp.h hW).right.f3.f3.f3) ?_
  refine tZ (i := 9) (j := 12) (by kernel_rfl) ?_ ?_
  ·skip
   refine iy 9 rfl (by kernel_rfl) (iY (yt .i64) H4) (jg rfl) ?_
   rintro _ w5 ⟨b5, rfl, H5⟩
   have sN := aA.kp (H5.f5.f5.f5.f5.f5)
   refine bU sN (fun W hW => (Kp.h hW).right.f4.f4.f4.f4) ?_
   refine gZ 10 rfl sN (fun _ => dJ (zl := [.int .i64 0, .map none]) (pl := [(0, 1), (1, 1)]) [_, _] underlying125 zeroValue125 rfl (fun w => by kernel_rfl) rfl (.one (by first | rfl | assumption) (.one (by first | rfl | assumption) .nil)) rfl) ?_
   refine tZ (i := 11) (j := 12) (by kernel_rfl) ?_ ?_
   ·skip
    refine iy 11 rfl (by kernel_rfl) (ig (l := [_, _]) H5 rfl rfl) (jg rfl) ?_
    rintro _ w6 ⟨b6, rfl, H6⟩
    have zY := aA.kp (H6.f6.f6.f6.f6.f6.f6)
    refine bU zY (fun W hW => (Kp.h hW).right.f5.f5.f5.f5.f5) ?_
    refine jm 12 rfl (iY (yt .i64) H6) ?_
    rintro _ w7 ⟨b7, rfl, H7⟩
    have vY := aA.kp (H7.f7.f7.f7.f7.f7.f7.f7)
    refine bU vY (fun W hW => (Kp.h hW).right.f6.f6.f6.f6.f6.f6) ?_
    refine gZ 18 rfl vY (fun _ => dJ (zl := [.pointer none, .pointer none, .pointer none, .map none, .int .i64 0, .bool false, .int .i64 0, .int .i64 0, .int .i64 0, .int .i64 0, .bool false]) (pl := [(0, 1), (1, 1), (2, 1), (3, 1), (4, 1), (5, 1), (6, 1), (7, 1), (8, 1), (9, 1), (10, 1)]) [_, _, _, _, _, _, _, _, _, _, _] underlying64 zeroValue64 rfl (fun w => by kernel_rfl) rfl (.one (by first | rfl | assumption) (.one (by first | rfl | assumption) (.one (by first | rfl | assumption) (.one (by first | rfl | assumption) (.one (by first | rfl | assumption) (.zero (zs := [.bool false]) rfl (.zero (zs := [.int .i64 0]) rfl (.zero (zs := [.int .i64 0]) rfl (.zero (zs := [.int .i64 0]) rfl (.zero (zs := [.int .i64 0]) rfl (.zero (zs := [.bool false]) rfl .nil))))))))))) rfl) ?_
    refine iZ 19 rfl vY rfl (dU 20 rfl vY 0 underlying69 rfl sizeOf64 rfl ?_)
    refine dO 21 rfl (by kernel_rfl) (bC 0 (l' := [_, _, _, _, _, _, _, _, _, _, _, _, _, _, _, _, _, _, _, _, _, _, _, _, _, _, _, _, _, _, _, _, _, _]) (us := [_, _, _, _, _, _, _, _, _, _, _]) H7.f5 sizeOf64 rfl rfl rfl (aC (by first | rfl | assumption) (aC (by first | rfl | assumption) (aC (by first | rfl | assumption) (aC (by first | rfl | assumption) (aC (by first | rfl | assumption) (aC (by first | rfl | assumption) (aC (by first | rfl | assumption) (aC (by first | rfl | assumption) (aC (by first | rfl | assumption) (aC (by first | rfl | assumption) (aC (by first | rfl | assumption) bg))))))))))) rfl rfl) ?_
    rintro _ w8 H8
    have JF := aA.kp (H8.f7.f7.f7.f7.f7.f7.f7)
    refine dS JF (by kernel_rfl) ?_
    refine mD (aj (ah (aP rfl (aP rfl (aP rfl (bT rfl (bf 13 underlying69 rfl sizeOf4 rfl (aI (aS 13 (l' := [_, _, _, _, _, _, _, _, _, _, _, _, _, _, _, _, _, _, _, _, _, _, _, _, _, _, _, _, _, _, _, _, _, _]) H8 sizeOf4 rfl rfl (by first | rfl | assumption) rfl rfl) ?_))))))))
    rintro _ w9 H9
    refine bT rfl (bf 14 underlying69 rfl sizeOf4 rfl (aI (aS 14 (l' := [_, _, _, _, _, _, _, _, _, _, _, _, _, _, _, _, _, _, _, _, _, _, _, _, _, _, _, _, _, _, _, _, _, _]) H9 sizeOf4 rfl rfl (by first | rfl | assumption) rfl rfl) ?_))
    rintro _ w10 qK
    refine bT rfl (bf 15 underlying69 rfl sizeOf3 rfl (aI (aS 15 (l' := [_, _, _, _, _, _, _, _, _, _, _, _, _, _, _, _, _, _, _, _, _, _, _, _, _, _, _, _, _, _, _, _, _, _]) qK sizeOf3 rfl rfl (by first | rfl | assumption) rfl rfl) ?_))
    rintro _ IV vK
    refine aB (gq (.inr rfl) results79 ?_)
    have MH := vK.f2
    have MI := MH.qp
    exact ⟨_, _, _, _, _, MI.f5.f6.f3.f6.f6.f7.f7⟩
   ·skip
    refine iy 12 rfl (by kernel_rfl) (iY (yt .i64) H5) (jg rfl) ?_
    rintro _ OZ ⟨b14, rfl, yR⟩
    have JG := aA.kp (yR.f6.f6.f6.f6.f6.f6)
    refine bU JG (fun W hW => (Kp.h hW).right.f5.f5.f5.f5.f5) ?_
    refine jm 11 rfl (ig (l := [_, _]) yR rfl rfl) ?_
    rintro _ QV ⟨b15, rfl, xu⟩
    have wR := aA.kp (xu.f7.f7.f7.f7.f7.f7.f7)
    refine bU wR (fun W hW => (Kp.h hW).right.f6.f6.f6.f6.f6.f6) ?_
    refine gZ 18 rfl wR (fun _ => dJ (zl := [.pointer none, .pointer none, .pointer none, .map none, .int .i64 0, .bool false, .int .i64 0, .int .i64 0, .int .i64 0, .int .i64 0, .bool false]) (pl := [(0, 1), (1, 1), (2, 1), (3, 1), (4, 1), (5, 1), (6, 1), (7, 1), (8, 1), (9, 1), (10, 1)]) [_, _, _, _, _, _, _, _, _, _, _] underlying64 zeroValue64 rfl (fun w => by kernel_rfl) rfl (.one (by first | rfl | assumption) (.one (by first | rfl | assumption) (.one (by first | rfl | assumption) (.one (by first | rfl | assumption) (.one (by first | rfl | assumption) (.zero (zs := [.bool false]) rfl (.zero (zs := [.int .i64 0]) rfl (.zero (zs := [.int .i64 0]) rfl (.zero (zs := [.int .i64 0]) rfl (.zero (zs := [.int .i64 0]) rfl (.zero (zs := [.bool false]) rfl .nil))))))))))) rfl) ?_
    refine iZ 19 rfl wR rfl (dU 20 rfl wR 0 underlying69 rfl sizeOf64 rfl ?_)
    refine dO 21 rfl (by kernel_rfl) (bC 0 (l' := [_, _, _, _, _, _, _, _, _, _, _, _, _, _, _, _, _, _, _, _, _, _, _, _, _, _, _, _, _, _, _, _, _, _]) (us := [_, _, _, _, _, _, _, _, _, _, _]) xu.f5 sizeOf64 rfl rfl rfl (aC (by first | rfl | assumption) (aC (by first | rfl | assumption) (aC (by first | rfl | assumption) (aC (by first | rfl | assumption) (aC (by first | rfl | assumption) (aC (by first | rfl | assumption) (aC (by first | rfl | assumption) (aC (by first | rfl | assumption) (aC (by first | rfl | assumption) (aC (by first | rfl | assumption) (aC (by first | rfl | assumption) bg))))))))))) rfl rfl) ?_
    rintro _ w16 sW
    have zT := aA.kp (sW.f7.f7.f7.f7.f7.f7.f7)
    refine dS zT (by kernel_rfl) ?_
    refine mD (aj (ah (aP rfl (aP rfl (aP rfl (bT rfl (bf 13 underlying69 rfl sizeOf4 rfl (aI (aS 13 (l' := [_, _, _, _, _, _, _, _, _, _, _, _, _, _, _, _, _, _, _, _, _, _, _, _, _, _, _, _, _, _, _, _, _, _]) sW sizeOf4 rfl rfl (by first | rfl | assumption) rfl rfl) ?_))))))))
    rintro _ UA zf
    refine bT rfl (bf 14 underlying69 rfl sizeOf4 rfl (aI (aS 14 (l' := [_, _, _, _, _, _, _, _, _, _, _, _, _, _, _, _, _, _, _, _, _, _, _, _, _, _, _, _, _, _, _, _, _, _]) zf sizeOf4 rfl rfl (by first | rfl | assumption) rfl rfl) ?_))
    rintro _ TR Au
    refine bT rfl (bf 15 underlying69 rfl sizeOf3 rfl (aI (aS 15 (l' := [_, _, _, _, _, _, _, _, _, _, _, _, _, _, _, _, _, _, _, _, _, _, _, _, _, _, _, _, _, _, _, _, _, _]) Au sizeOf3 rfl rfl (by first | rfl | assumption) rfl rfl) ?_))
    rintro _ TS xX
    refine aB (gq (.inr rfl) results79 ?_)
    have aaJ := xX.f3
    have aaK := aaJ.qp
    exact ⟨_, _, _, _, _, aaK.f5.f6.f3.f6.f6.f7.f7⟩
  ·skip
   refine iy 12 rfl (by kernel_rfl) (iY (yt .i64) H4) (jg rfl) ?_
   rintro _ XC ⟨b22, rfl, IW⟩
   have zX := aA.kp (IW.f5.f5.f5.f5.f5)
   refine bU zX (fun W hW => (Kp.h hW).right.f4.f4.f4.f4) ?_
   refine jm 9 rfl (iY (yt .i64) IW) ?_
   rintro _ Qh ⟨b23, rfl, vN⟩
   have BO := aA.kp (vN.f6.f6.f6.f6.f6.f6)
   refine bU BO (fun W hW => (Kp.h hW).right.f5.f5.f5.f5.f5) ?_
   refine gZ 10 rfl BO (fun _ => dJ (zl := [.int .i64 0, .map none]) (pl := [(0, 1), (1, 1)]) [_, _] underlying125 zeroValue125 rfl (fun w => by kernel_rfl) rfl (.one (by first | rfl | assumption) (.one (by first | rfl | assumption) .nil)) rfl) ?_
   refine jm 11 rfl (ig (l := [_, _]) vN rfl rfl) ?_
   rintro _ Yb ⟨b24, rfl, Qi⟩
   have EF := aA.kp (Qi.f7.f7.f7.f7.f7.f7.f7)
   refine bU EF (fun W hW => (Kp.h hW).right.f6.f6.f6.f6.f6.f6) ?_
   refine gZ 18 rfl EF (fun _ => dJ (zl := [.pointer none, .pointer none, .pointer none, .map none, .int .i64 0, .bool false, .int .i64 0, .int .i64 0, .int .i64 0, .int .i64 0, .bool false]) (pl := [(0, 1), (1, 1), (2, 1), (3, 1), (4, 1), (5, 1), (6, 1), (7, 1), (8, 1), (9, 1), (10, 1)]) [_, _, _, _, _, _, _, _, _, _, _] underlying64 zeroValue64 rfl (fun w => by kernel_rfl) rfl (.one (by first | rfl | assumption) (.one (by first | rfl | assumption) (.one (by first | rfl | assumption) (.one (by first | rfl | assumption) (.one (by first | rfl | assumption) (.zero (zs := [.bool false]) rfl (.zero (zs := [.int .i64 0]) rfl (.zero (zs := [.int .i64 0]) rfl (.zero (zs := [.int .i64 0]) rfl (.zero (zs := [.int .i64 0]) rfl (.zero (zs := [.bool false]) rfl .nil))))))))))) rfl) ?_
   refine iZ 19 rfl EF rfl (dU 20 rfl EF 0 underlying69 rfl sizeOf64 rfl ?_)
   refine dO 21 rfl (by kernel_rfl) (bC 0 (l' := [_, _, _, _, _, _, _, _, _, _, _, _, _, _, _, _, _, _, _, _, _, _, _, _, _, _, _, _, _, _, _, _, _, _]) (us := [_, _, _, _, _, _, _, _, _, _, _]) Qi.f5 sizeOf64 rfl rfl rfl (aC (by first | rfl | assumption) (aC (by first | rfl | assumption) (aC (by first | rfl | assumption) (aC (by first | rfl | assumption) (aC (by first | rfl | assumption) (aC (by first | rfl | assumption) (aC (by first | rfl | assumption) (aC (by first | rfl | assumption) (aC (by first | rfl | assumption) (aC (by first | rfl | assumption) (aC (by first | rfl | assumption) bg))))))))))) rfl rfl) ?_
   rintro _ Yc Jz
   have Sj := aA.kp (Jz.f7.f7.f7.f7.f7.f7.f7)
   refine dS Sj (by kernel_rfl) ?_
   refine mD (aj (ah (aP rfl (aP rfl (aP rfl (bT rfl (bf 13 underlying69 rfl sizeOf4 rfl (aI (aS 13 (l' := [_, _, _, _, _, _, _, _, _, _, _, _, _, _, _, _, _, _, _, _, _, _, _, _, _, _, _, _, _, _, _, _, _, _]) Jz sizeOf4 rfl rfl (by first | rfl | assumption) rfl rfl) ?_))))))))
   rintro _ ZH ND
   refine bT rfl (bf 14 underlying69 rfl sizeOf4 rfl (aI (aS 14 (l' := [_, _, _, _, _, _, _, _, _, _, _, _, _, _, _, _, _, _, _, _, _, _, _, _, _, _, _, _, _, _, _, _, _, _]) ND sizeOf4 rfl rfl (by first | rfl | assumption) rfl rfl) ?_))
   rintro _ Yd IX
   refine bT rfl (bf 15 underlying69 rfl sizeOf3 rfl (aI (aS 15 (l' := [_, _, _, _, _, _, _, _, _, _, _, _, _, _, _, _, _, _, _, _, _, _, _, _, _, _, _, _, _, _, _, _, _, _]) IX sizeOf3 rfl rfl (by first | rfl | assumption) rfl rfl) ?_))
   rintro _ Ye LU
   refine aB (gq (.inr rfl) results79 ?_)
   have WU := LU.f4
   have WV := WU.qp
   exact ⟨_, _, _, _, _, WV.f5.f6.f3.f6.f6.f7.f7⟩
 ·skip
  refine iy 9 rfl (by kernel_rfl) (iY (yt .i64) UN) (jg rfl) ?_
  rintro _ XD ⟨b31, rfl, Lc⟩
  have Sl := aA.kp (Lc.f4.right.f4.f4.f4.f4)
  refine bU Sl (fun W hW => (Kp.h hW).right.f3.f3.f3) ?_
  refine tZ (i := 8) (j := 12) (by kernel_rfl) ?_ ?_
  ·skip
   refine iy 8 rfl (by kernel_rfl) (lN (mG rfl func84 rfl rfl) (jF Lc.f4)) (jg rfl) ?_
   rintro _ w32 ⟨rfl, CW⟩
   have BR := aA.kp (CW.f5.f5.f5.f5.f5)
   refine bU BR (fun W hW => (Kp.h hW).right.f4.f4.f4.f4) ?_
   refine gZ 10 rfl BR (fun _ => dJ (zl := [.int .i64 0, .map none]) (pl := [(0, 1), (1, 1)]) [_, _] underlying125 zeroValue125 rfl (fun w => by kernel_rfl) rfl (.one (by first | rfl | assumption) (.one (by first | rfl | assumption) .nil)) rfl) ?_
   refine tZ (i := 11) (j := 12) (by kernel_rfl) ?_ ?_
   ·skip
    refine iy 11 rfl (by kernel_rfl) (ig (l := [_, _]) CW rfl rfl) (jg rfl) ?_
    rintro _ ZJ ⟨b33, rfl, LV⟩
    have NZ := aA.kp (LV.f6.f6.f6.f6.f6.f6)
    refine bU NZ (fun W hW => (Kp.h hW).right.f5.f5.f5.f5.f5) ?_
    refine jm 12 rfl (iY (yt .i64) LV) ?_
    rintro _ ZQ ⟨b34, rfl, N7⟩
    have BU := aA.kp (N7.f7.f7.f7.f7.f7.f7.f7)
    refine bU BU (fun W hW => (Kp.h hW).right.f6.f6.f6.f6.f6.f6) ?_
    refine gZ 18 rfl BU (fun _ => dJ (zl := [.pointer none, .pointer none, .pointer none, .map none, .int .i64 0, .bool false, .int .i64 0, .int .i64 0, .int .i64 0, .int .i64 0, .bool false]) (pl := [(0, 1), (1, 1), (2, 1), (3, 1), (4, 1), (5, 1), (6, 1), (7, 1), (8, 1), (9, 1), (10, 1)]) [_, _, _, _, _, _, _, _, _, _, _] underlying64 zeroValue64 rfl (fun w => by kernel_rfl) rfl (.one (by first | rfl | assumption) (.one (by first | rfl | assumption) (.one (by first | rfl | assumption) (.one (by first | rfl | assumption) (.one (by first | rfl | assumption) (.zero (zs := [.bool false]) rfl (.zero (zs := [.int .i64 0]) rfl (.zero (zs := [.int .i64 0]) rfl (.zero (zs := [.int .i64 0]) rfl (.zero (zs := [.int .i64 0]) rfl (.zero (zs := [.bool false]) rfl .nil))))))))))) rfl) ?_
    refine iZ 19 rfl BU rfl (dU 20 rfl BU 0 underlying69 rfl sizeOf64 rfl ?_)
    refine dO 21 rfl (by kernel_rfl) (bC 0 (l' := [_, _, _, _, _, _, _, _, _, _, _, _, _, _, _, _, _, _, _, _, _, _, _, _, _, _, _, _, _, _, _, _, _, _]) (us := [_, _, _, _, _, _, _, _, _, _, _]) N7.f5 sizeOf64 rfl rfl rfl (aC (by first | rfl | assumption) (aC (by first | rfl | assumption) (aC (by first | rfl | assumption) (aC (by first | rfl | assumption) (aC (by first | rfl | assumption) (aC (by first | rfl | assumption) (aC (by first | rfl | assumption) (aC (by first | rfl | assumption) (aC (by first | rfl | assumption) (aC (by first | rfl | assumption) (aC (by first | rfl | assumption) bg))))))))))) rfl rfl) ?_
    rintro _ w35 UO
    have Sm := aA.kp (UO.f7.f7.f7.f7.f7.f7.f7)
    refine dS Sm (by kernel_rfl) ?_
    refine mD (aj (ah (aP rfl (aP rfl (aP rfl (bT rfl (bf 13 underlying69 rfl sizeOf4 rfl (aI (aS 13 (l' := [_, _, _, _, _, _, _, _, _, _, _, _, _, _, _, _, _, _, _, _, _, _, _, _, _, _, _, _, _, _, _, _, _, _]) UO sizeOf4 rfl rfl (by first | rfl | assumption) rfl rfl) ?_))))))))
    rintro _ w36 XE
    refine bT rfl (bf 14 underlying69 rfl sizeOf4 rfl (aI (aS 14 (l' := [_, _, _, _, _, _, _, _, _, _, _, _, _, _, _, _, _, _, _, _, _, _, _, _, _, _, _, _, _, _, _, _, _, _]) XE sizeOf4 rfl rfl (by first | rfl | assumption) rfl rfl) ?_))
    rintro _ w37 VG
    refine bT rfl (bf 15 underlying69 rfl sizeOf3 rfl (aI (aS 15 (l' := [_, _, _, _, _, _, _, _, _, _, _, _, _, _, _, _, _, _, _, _, _, _, _, _, _, _, _, _, _, _, _, _, _, _]) VG sizeOf3 rfl rfl (by first | rfl | assumption) rfl rfl) ?_))
    rintro _ ZR MJ
    refine aB (gq (.inr rfl) results79 ?_)
    have aaL := MJ.f2
    have aaM := aaL.qp
    exact ⟨_, _, _, _, _, aaM.f4.f6.f3.f6.f6.f7.f7⟩
   ·skip
    refine iy 12 rfl (by kernel_rfl) (iY (yt .i64) CW) (jg rfl) ?_
    rintro _ w41 ⟨b41, rfl, UQ⟩
    have Sr := aA.kp (UQ.f6.f6.f6.f6.f6.f6)
    refine bU Sr (fun W hW => (Kp.h hW).right.f5.f5.f5.f5.f5) ?_
    refine jm 11 rfl (ig (l := [_, _]) UQ rfl rfl) ?_
    rintro _ w42 ⟨b42, rfl, TU⟩
    have Gp := aA.kp (TU.f7.f7.f7.f7.f7.f7.f7)
    refine bU Gp (fun W hW => (Kp.h hW).right.f6.f6.f6.f6.f6.f6) ?_
    refine gZ 18 rfl Gp (fun _ => dJ (zl := [.pointer none, .pointer none, .pointer none, .map none, .int .i64 0, .bool false, .int .i64 0, .int .i64 0, .int .i64 0, .int .i64 0, .bool false]) (pl := [(0, 1), (1, 1), (2, 1), (3, 1), (4, 1), (5, 1), (6, 1), (7, 1), (8, 1), (9, 1), (10, 1)]) [_, _, _, _, _, _, _, _, _, _, _] underlying64 zeroValue64 rfl (fun w => by kernel_rfl) rfl (.one (by first | rfl | assumption) (.one (by first | rfl | assumption) (.one (by first | rfl | assumption) (.one (by first | rfl | assumption) (.one (by first | rfl | assumption) (.zero (zs := [.bool false]) rfl (.zero (zs := [.int .i64 0]) rfl (.zero (zs := [.int .i64 0]) rfl (.zero (zs := [.int .i64 0]) rfl (.zero (zs := [.int .i64 0]) rfl (.zero (zs := [.bool false]) rfl .nil))))))))))) rfl) ?_
    refine iZ 19 rfl Gp rfl (dU 20 rfl Gp 0 underlying69 rfl sizeOf64 rfl ?_)
    refine dO 21 rfl (by kernel_rfl) (bC 0 (l' := [_, _, _, _, _, _, _, _, _, _, _, _, _, _, _, _, _, _, _, _, _, _, _, _, _, _, _, _, _, _, _, _, _, _]) (us := [_, _, _, _, _, _, _, _, _, _, _]) TU.f5 sizeOf64 rfl rfl rfl (aC (by first | rfl | assumption) (aC (by first | rfl | assumption) (aC (by first | rfl | assumption) (aC (by first | rfl | assumption) (aC (by first | rfl | assumption) (aC (by first | rfl | assumption) (aC (by first | rfl | assumption) (aC (by first | rfl | assumption) (aC (by first | rfl | assumption) (aC (by first | rfl | assumption) (aC (by first | rfl | assumption) bg))))))))))) rfl rfl) ?_
    rintro _ ZT TV
    have Sv := aA.kp (TV.f7.f7.f7.f7.f7.f7.f7)
    refine dS Sv (by kernel_rfl) ?_
    refine mD (aj (ah (aP rfl (aP rfl (aP rfl (bT rfl (bf 13 underlying69 rfl sizeOf4 rfl (aI (aS 13 (l' := [_, _, _, _, _, _, _, _, _, _, _, _, _, _, _, _, _, _, _, _, _, _, _, _, _, _, _, _, _, _, _, _, _, _]) TV sizeOf4 rfl rfl (by first | rfl | assumption) rfl rfl) ?_))))))))
    rintro _ w44 VH
    refine bT rfl (bf 14 underlying69 rfl sizeOf4 rfl (aI (aS 14 (l' := [_, _, _, _, _, _, _, _, _, _, _, _, _, _, _, _, _, _, _, _, _, _, _, _, _, _, _, _, _, _, _, _, _, _]) VH sizeOf4 rfl rfl (by first | rfl | assumption) rfl rfl) ?_))
    rintro _ ZU Ld
    refine bT rfl (bf 15 underlying69 rfl sizeOf3 rfl (aI (aS 15 (l' := [_, _, _, _, _, _, _, _, _, _, _, _, _, _, _, _, _, _, _, _, _, _, _, _, _, _, _, _, _, _, _, _, _, _]) Ld sizeOf3 rfl rfl (by first | rfl | assumption) rfl rfl) ?_))
    rintro _ w46 H46
    refine aB (gq (.inr rfl) results79 ?_)
    have aaN := H46.f3
    have aaO := aaN.qp
    exact ⟨_, _, _, _, _, aaO.f4.f6.f3.f6.f6.f7.f7⟩
  ·skip
   refine iy 12 rfl (by kernel_rfl) (iY (yt .i64) Lc) (jg rfl) ?_
   rintro _ w49 ⟨b49, rfl, ZV⟩
   have YN := aA.kp (ZV.f5.right.f5.f5.f5.f5.f5)
   refine bU YN (fun W hW => (Kp.h hW).right.f4.f4.f4.f4) ?_
   refine jm 8 rfl (rX rfl func84 (jF ZV.f5)) ?_
   rintro _ w50 ⟨rfl, XF⟩
   have VI := aA.kp (XF.f6.f6.f6.f6.f6.f6)
   refine bU VI (fun W hW => (Kp.h hW).right.f5.f5.f5.f5.f5) ?_
   refine gZ 10 rfl VI (fun _ => dJ (zl := [.int .i64 0, .map none]) (pl := [(0, 1), (1, 1)]) [_, _] underlying125 zeroValue125 rfl (fun w => by kernel_rfl) rfl (.one (by first | rfl | assumption) (.one (by first | rfl | assumption) .nil)) rfl) ?_
   refine jm 11 rfl (ig (l := [_, _]) XF rfl rfl) ?_
   rintro _ w51 ⟨b51, rfl, WW⟩
   have N8 := aA.kp (WW.f7.f7.f7.f7.f7.f7.f7)
   refine bU N8 (fun W hW => (Kp.h hW).right.f6.f6.f6.f6.f6.f6) ?_
   refine gZ 18 rfl N8 (fun _ => dJ (zl := [.pointer none, .pointer none, .pointer none, .map none, .int .i64 0, .bool false, .int .i64 0, .int .i64 0, .int .i64 0, .int .i64 0, .bool false]) (pl := [(0, 1), (1, 1), (2, 1), (3, 1), (4, 1), (5, 1), (6, 1), (7, 1), (8, 1), (9, 1), (10, 1)]) [_, _, _, _, _, _, _, _, _, _, _] underlying64 zeroValue64 rfl (fun w => by kernel_rfl) rfl (.one (by first | rfl | assumption) (.one (by first | rfl | assumption) (.one (by first | rfl | assumption) (.one (by first | rfl | assumption) (.one (by first | rfl | assumption) (.zero (zs := [.bool false]) rfl (.zero (zs := [.int .i64 0]) rfl (.zero (zs := [.int .i64 0]) rfl (.zero (zs := [.int .i64 0]) rfl (.zero (zs := [.int .i64 0]) rfl (.zero (zs := [.bool false]) rfl .nil))))))))))) rfl) ?_
   refine iZ 19 rfl N8 rfl (dU 20 rfl N8 0 underlying69 rfl sizeOf64 rfl ?_)
   refine dO 21 rfl (by kernel_rfl) (bC 0 (l' := [_, _, _, _, _, _, _, _, _, _, _, _, _, _, _, _, _, _, _, _, _, _, _, _, _, _, _, _, _, _, _, _, _, _]) (us := [_, _, _, _, _, _, _, _, _, _, _]) WW.f5 sizeOf64 rfl rfl rfl (aC (by first | rfl | assumption) (aC (by first | rfl | assumption) (aC (by first | rfl | assumption) (aC (by first | rfl | assumption) (aC (by first | rfl | assumption) (aC (by first | rfl | assumption) (aC (by first | rfl | assumption) (aC (by first | rfl | assumption) (aC (by first | rfl | assumption) (aC (by first | rfl | assumption) (aC (by first | rfl | assumption) bg))))))))))) rfl rfl) ?_
   rintro _ w52 VJ
   have YO := aA.kp (VJ.f7.f7.f7.f7.f7.f7.f7)
   refine dS YO (by kernel_rfl) ?_
   refine mD (aj (ah (aP rfl (aP rfl (aP rfl (bT rfl (bf 13 underlying69 rfl sizeOf4 rfl (aI (aS 13 (l' := [_, _, _, _, _, _, _, _, _, _, _, _, _, _, _, _, _, _, _, _, _, _, _, _, _, _, _, _, _, _, _, _, _, _]) VJ sizeOf4 rfl rfl (by first | rfl | assumption) rfl rfl) ?_))))))))
   rintro _ w53 XG
   refine bT rfl (bf 14 underlying69 rfl sizeOf4 rfl (aI (aS 14 (l' := [_, _, _, _, _, _, _, _, _, _, _, _, _, _, _, _, _, _, _, _, _, _, _, _, _, _, _, _, _, _, _, _, _, _]) XG sizeOf4 rfl rfl (by first | rfl | assumption) rfl rfl) ?_))
   rintro _ w54 H54
   refine bT rfl (bf 15 underlying69 rfl sizeOf3 rfl (aI (aS 15 (l' := [_, _, _, _, _, _, _, _, _, _, _, _, _, _, _, _, _, _, _, _, _, _, _, _, _, _, _, _, _, _, _, _, _, _]) H54 sizeOf3 rfl rfl (by first | rfl | assumption) rfl rfl) ?_))
   rintro _ w55 ZW
   refine aB (gq (.inr rfl) results79 ?_)
   have aaP := ZW.f4
   have aaQ := aaP.qp
   exact ⟨_, _, _, _, _, aaQ.f4.f6.f3.f6.f6.f7.f7⟩
 ·skip
  refine iy 12 rfl (by kernel_rfl) (iY (yt .i64) UN) (jg rfl) ?_
  rintro _ w58 ⟨b58, rfl, UR⟩
  have YP := aA.kp (UR.f4.right.f4.f4.f4.f4)
  refine bU YP (fun W hW => (Kp.h hW).right.f3.f3.f3) ?_
  refine tZ (i := 8) (j := 9) (by kernel_rfl) ?_ ?_
  ·skip
   refine iy 8 rfl (by kernel_rfl) (lN (mG rfl func84 rfl rfl) (jF UR.f4)) (jg rfl) ?_
   rintro _ w59 ⟨rfl, YQ⟩
   have YR := aA.kp (YQ.f5.f5.f5.f5.f5)
   refine bU YR (fun W hW => (Kp.h hW).right.f4.f4.f4.f4) ?_
   refine jm 9 rfl (iY (yt .i64) YQ) ?_
   rintro _ w60 ⟨b60, rfl, XH⟩
   have VK := aA.kp (XH.f6.f6.f6.f6.f6.f6)
   refine bU VK (fun W hW => (Kp.h hW).right.f5.f5.f5.f5.f5) ?_
   refine gZ 10 rfl VK (fun _ => dJ (zl := [.int .i64 0, .map none]) (pl := [(0, 1), (1, 1)]) [_, _] underlying125 zeroValue125 rfl (fun w => by kernel_rfl) rfl (.one (by first | rfl | assumption) (.one (by first | rfl | assumption) .nil)) rfl) ?_
   refine jm 11 rfl (ig (l := [_, _]) XH rfl rfl) ?_
   rintro _ w61 ⟨b61, rfl, ZX⟩
   have N9 := aA.kp (ZX.f7.f7.f7.f7.f7.f7.f7)
   refine bU N9 (fun W hW => (Kp.h hW).right.f6.f6.f6.f6.f6.f6) ?_
   refine gZ 18 rfl N9 (fun _ => dJ (zl := [.pointer none, .pointer none, .pointer none, .map none, .int .i64 0, .bool false, .int .i64 0, .int .i64 0, .int .i64 0, .int .i64 0, .bool false]) (pl := [(0, 1), (1, 1), (2, 1), (3, 1), (4, 1), (5, 1), (6, 1), (7, 1), (8, 1), (9, 1), (10, 1)]) [_, _, _, _, _, _, _, _, _, _, _] underlying64 zeroValue64 rfl (fun w => by kernel_rfl) rfl (.one (by first | rfl | assumption) (.one (by first | rfl | assumption) (.one (by first | rfl | assumption) (.one (by first | rfl | assumption) (.one (by first | rfl | assumption) (.zero (zs := [.bool false]) rfl (.zero (zs := [.int .i64 0]) rfl (.zero (zs := [.int .i64 0]) rfl (.zero (zs := [.int .i64 0]) rfl (.zero (zs := [.int .i64 0]) rfl (.zero (zs := [.bool false]) rfl .nil))))))))))) rfl) ?_
   refine iZ 19 rfl N9 rfl (dU 20 rfl N9 0 underlying69 rfl sizeOf64 rfl ?_)
   refine dO 21 rfl (by kernel_rfl) (bC 0 (l' := [_, _, _, _, _, _, _, _, _, _, _, _, _, _, _, _, _, _, _, _, _, _, _, _, _, _, _, _, _, _, _, _, _, _]) (us := [_, _, _, _, _, _, _, _, _, _, _]) ZX.f5 sizeOf64 rfl rfl rfl (aC (by first | rfl | assumption) (aC (by first | rfl | assumption) (aC (by first | rfl | assumption) (aC (by first | rfl | assumption) (aC (by first | rfl | assumption) (aC (by first | rfl | assumption) (aC (by first | rfl | assumption) (aC (by first | rfl | assumption) (aC (by first | rfl | assumption) (aC (by first | rfl | assumption) (aC (by first | rfl | assumption) bg))))))))))) rfl rfl) ?_
   rintro _ w62 YS
   have YT := aA.kp (YS.f7.f7.f7.f7.f7.f7.f7)
   refine dS YT (by kernel_rfl) ?_
   refine mD (aj (ah (aP rfl (aP rfl (aP rfl (bT rfl (bf 13 underlying69 rfl sizeOf4 rfl (aI (aS 13 (l' := [_, _, _, _, _, _, _, _, _, _, _, _, _, _, _, _, _, _, _, _, _, _, _, _, _, _, _, _, _, _, _, _, _, _]) YS sizeOf4 rfl rfl (by first | rfl | assumption) rfl rfl) ?_))))))))
   rintro _ w63 YU
   refine bT rfl (bf 14 underlying69 rfl sizeOf4 rfl (aI (aS 14 (l' := [_, _, _, _, _, _, _, _, _, _, _, _, _, _, _, _, _, _, _, _, _, _, _, _, _, _, _, _, _, _, _, _, _, _]) YU sizeOf4 rfl rfl (by first | rfl | assumption) rfl rfl) ?_))
   rintro _ w64 YV
   refine bT rfl (bf 15 underlying69 rfl sizeOf3 rfl (aI (aS 15 (l' := [_, _, _, _, _, _, _, _, _, _, _, _, _, _, _, _, _, _, _, _, _, _, _, _, _, _, _, _, _, _, _, _, _, _]) YV sizeOf3 rfl rfl (by first | rfl | assumption) rfl rfl) ?_))
   rintro _ w65 H65
   refine aB (gq (.inr rfl) results79 ?_)
   have aaR := H65.f5
   have aaS := aaR.qp
   exact ⟨_, _, _, _, _, aaS.f5.f6.f3.f6.f6.f7.f7⟩
  ·skip
   refine iy 9 rfl (by kernel_rfl) (iY (yt .i64) UR) (jg rfl) ?_
   rintro _ w68 ⟨b68, rfl, ZY⟩
   have YW := aA.kp (ZY.f5.right.f5.f5.f5.f5.f5)
   refine bU YW (fun W hW => (Kp.h hW).right.f4.f4.f4.f4) ?_
   refine jm 8 rfl (rX rfl func84 (jF ZY.f5)) ?_
   rintro _ w69 ⟨rfl, Z4⟩
   have VL := aA.kp (Z4.f6.f6.f6.f6.f6.f6)
   refine bU VL (fun W hW => (Kp.h hW).right.f5.f5.f5.f5.f5) ?_
   refine gZ 10 rfl VL (fun _ => dJ (zl := [.int .i64 0, .map none]) (pl := [(0, 1), (1, 1)]) [_, _] underlying125 zeroValue125 rfl (fun w => by kernel_rfl) rfl (.one (by first | rfl | assumption) (.one (by first | rfl | assumption) .nil)) rfl) ?_
   refine jm 11 rfl (ig (l := [_, _]) Z4 rfl rfl) ?_
   rintro _ w70 ⟨b70, rfl, YX⟩
   have Oa := aA.kp (YX.f7.f7.f7.f7.f7.f7.f7)
   refine bU Oa (fun W hW => (Kp.h hW).right.f6.f6.f6.f6.f6.f6) ?_
   refine gZ 18 rfl Oa (fun _ => dJ (zl := [.pointer none, .pointer none, .pointer none, .map none, .int .i64 0, .bool false, .int .i64 0, .int .i64 0, .int .i64 0, .int .i64 0, .bool false]) (pl := [(0, 1), (1, 1), (2, 1), (3, 1), (4, 1), (5, 1), (6, 1), (7, 1), (8, 1), (9, 1), (10, 1)]) [_, _, _, _, _, _, _, _, _, _, _] underlying64 zeroValue64 rfl (fun w => by kernel_rfl) rfl (.one (by first | rfl | assumption) (.one (by first | rfl | assumption) (.one (by first | rfl | assumption) (.one (by first | rfl | assumption) (.one (by first | rfl | assumption) (.zero (zs := [.bool false]) rfl (.zero (zs := [.int .i64 0]) rfl (.zero (zs := [.int .i64 0]) rfl (.zero (zs := [.int .i64 0]) rfl (.zero (zs := [.int .i64 0]) rfl (.zero (zs := [.bool false]) rfl .nil))))))))))) rfl) ?_
   refine iZ 19 rfl Oa rfl (dU 20 rfl Oa 0 underlying69 rfl sizeOf64 rfl ?_)
   refine dO 21 rfl (by kernel_rfl) (bC 0 (l' := [_, _, _, _, _, _, _, _, _, _, _, _, _, _, _, _, _, _, _, _, _, _, _, _, _, _, _, _, _, _, _, _, _, _]) (us := [_, _, _, _, _, _, _, _, _, _, _]) YX.f5 sizeOf64 rfl rfl rfl (aC (by first | rfl | assumption) (aC (by first | rfl | assumption) (aC (by first | rfl | assumption) (aC (by first | rfl | assumption) (aC (by first | rfl | assumption) (aC (by first | rfl | assumption) (aC (by first | rfl | assumption) (aC (by first | rfl | assumption) (aC (by first | rfl | assumption) (aC (by first | rfl | assumption) (aC (by first | rfl | assumption) bg))))))))))) rfl rfl) ?_
   rintro _ w71 XI
   have YZ := aA.kp (XI.f7.f7.f7.f7.f7.f7.f7)
   refine dS YZ (by kernel_rfl) ?_
   refine mD (aj (ah (aP rfl (aP rfl (aP rfl (bT rfl (bf 13 underlying69 rfl sizeOf4 rfl (aI (aS 13 (l' := [_, _, _, _, _, _, _, _, _, _, _, _, _, _, _, _, _, _, _, _, _, _, _, _, _, _, _, _, _, _, _, _, _, _]) XI sizeOf4 rfl rfl (by first | rfl | assumption) rfl rfl) ?_))))))))
   rintro _ w72 H72
   refine bT rfl (bf 14 underlying69 rfl sizeOf4 rfl (aI (aS 14 (l' := [_, _, _, _, _, _, _, _, _, _, _, _, _, _, _, _, _, _, _, _, _, _, _, _, _, _, _, _, _, _, _, _, _, _]) H72 sizeOf4 rfl rfl (by first | rfl | assumption) rfl rfl) ?_))
   rintro _ w73 H73
   refine bT rfl (bf 15 underlying69 rfl sizeOf3 rfl (aI (aS 15 (l' := [_, _, _, _, _, _, _, _, _, _, _, _, _, _, _, _, _, _, _, _, _, _, _, _, _, _, _, _, _, _, _, _, _, _]) H73 sizeOf3 rfl rfl (by first | rfl | assumption) rfl rfl) ?_))
   rintro _ w74 H74
   refine aB (gq (.inr rfl) results79 ?_)
   have aaT := H74.f5
   have aaU := aaT.qp
   exact ⟨_, _, _, _, _, aaU.f4.f6.f3.f6.f6.f7.f7⟩
theorem aA.yX {c : lV} {u : List Value} (H : aA w0 w F) : aA w0 w (sS false c u • F) := by
  unfold sS
  rw [if_neg (by decide)]
  exact H.zo
theorem aA.WX {pb pr pw pt pm : Nat} {c : lV} (H : aA w0 w (dQ pb c.L c.pt c.mark • eu pr c.E c.at_ • cO pw (.cells #[.int .i64 c.place, .map (some pt)] 125 (0, 0)) • dY lI pt (lJ c.tx) • qF pm c.un • F)) : aA w0 w (sS true c (JZ pb pr pw pm c) • F) := by
  unfold sS
  rw [if_pos rfl]
  exact aA.gY (pb, pr, pw, pt, pm) (aA.deep (aA.jU rfl (H.of_eq (by unfold MB; simp only [bF]))))
theorem aA.was {c : lV} {u : List Value} (H : aA w0 w (sS true c u • F)) : ∃ pb pr pw pt pm, u = JZ pb pr pw pm c ∧ aA w0 w (dQ pb c.L c.pt c.mark • eu pr c.E c.at_ • cO pw (.cells #[.int .i64 c.place, .map (some pt)] 125 (0, 0)) • dY lI pt (lJ c.tx) • qF pm c.un • F) := by
  unfold sS at H
  rw [if_pos rfl] at H
  obtain ⟨⟨pb, pr, pw, pt, pm⟩, H⟩ := H.kU
  obtain ⟨h, H⟩ := H.flat.fact
  exact ⟨pb, pr, pw, pt, pm, h, H.of_eq (by unfold MB; simp only [bF])⟩
theorem aA.EG {pb pr pw pt pm ph bl : Nat} {u0 u1 u2 u3 u4 u5 u6 u7 u8 u9 ua : Value} (h1 : kF s) (hp : s.put = []) (H : aA w0 w (cO e (.cells (.pointer (some ⟨pb, 0, none⟩) :: .pointer (some ⟨pr, 0, none⟩) :: .pointer (some ⟨pw, 0, none⟩) :: .map (some pm) :: .int .i64 s.c.mode :: .bool s.c.over :: .int .i64 s.c.last :: .int .i64 s.c.fr :: .int .i64 s.c.to :: .int .i64 s.c.res :: .bool s.c.run :: .pointer (some ⟨ph, 0, none⟩) :: .pointer (some ⟨bl, 0, none⟩) :: .bool s.given :: .bool s.minus :: .int .i64 s.arg :: .bool s.inn :: u0 :: u1 :: u2 :: u3 :: u4 :: u5 :: u6 :: u7 :: u8 :: u9 :: ua :: .int .i64 s.cls :: .bool s.killed :: .bool s.mM :: .bool s.argues :: .bool s.whole :: .slice none 0 0 :: []).toArray 69 (0, 0)) • dQ pb s.c.L s.c.pt s.c.mark • eu pr s.c.E s.c.at_ • cO pw (.cells #[.int .i64 s.c.place, .map (some pt)] 125 (0, 0)) • dY lI pt (lJ s.c.tx) • qF pm s.c.un • dn ph s.hl s.base s.most • cO bl (.cells #[.int .i64 s.ql] 144 (0, 0)) • sS s.inn s.was [u0, u1, u2, u3, u4, u5, u6, u7, u8, u9, ua] • F)) : aA w0 w (dN e s • F) := by
  refine aA.eG (pb := pb) (pr := pr) (pw := pw) (pt := pt) (pm := pm) (ph := ph) (bl := bl) (u0 := u0) (u1 := u1) (u2 := u2) (u3 := u3) (u4 := u4) (u5 := u5) (u6 := u6) (u7 := u7) (u8 := u8) (u9 := u9) (ua := ua) (pv := .slice none 0 0) (es := []) h1 (by rw [hp]; rfl) ?_
  rw [hp]
  exact (H.pI none).of_eq (by unfold Fv; ac_rfl)
theorem aA.MK {pb pr pw pt pm ph bl : Nat} {u0 u1 u2 u3 u4 u5 u6 u7 u8 u9 ua : Value} (h1 : kF s) (hp : s.put = []) (hi : s.inn = false) (H : aA w0 w (cO e (.cells (.pointer (some ⟨pb, 0, none⟩) :: .pointer (some ⟨pr, 0, none⟩) :: .pointer (some ⟨pw, 0, none⟩) :: .map (some pm) :: .int .i64 s.c.mode :: .bool s.c.over :: .int .i64 s.c.last :: .int .i64 s.c.fr :: .int .i64 s.c.to :: .int .i64 s.c.res :: .bool s.c.run :: .pointer (some ⟨ph, 0, none⟩) :: .pointer (some ⟨bl, 0, none⟩) :: .bool s.given :: .bool s.minus :: .int .i64 s.arg :: .bool false :: u0 :: u1 :: u2 :: u3 :: u4 :: u5 :: u6 :: u7 :: u8 :: u9 :: ua :: .int .i64 s.cls :: .bool s.killed :: .bool s.mM :: .bool s.argues :: .bool s.whole :: .slice none 0 0 :: []).toArray 69 (0, 0)) • dQ pb s.c.L s.c.pt s.c.mark • eu pr s.c.E s.c.at_ • cO pw (.cells #[.int .i64 s.c.place, .map (some pt)] 125 (0, 0)) • dY lI pt (lJ s.c.tx) • qF pm s.c.un • dn ph s.hl s.base s.most • cO bl (.cells #[.int .i64 s.ql] 144 (0, 0)) • F)) : aA w0 w (dN e s • F) := by
  refine aA.EG (pb := pb) (pr := pr) (pw := pw) (pt := pt) (pm := pm) (ph := ph) (bl := bl) (u0 := u0) (u1 := u1) (u2 := u2) (u3 := u3) (u4 := u4) (u5 := u5) (u6 := u6) (u7 := u7) (u8 := u8) (u9 := u9) (ua := ua) h1 hp ?_
  rw [hi]
  exact (H.yX (c := s.was) (u := [u0, u1, u2, u3, u4, u5, u6, u7, u8, u9, ua])).of_eq (by ac_rfl)
theorem aA.Sz {pb pr pw pt pm ph bl : Nat} {u0 u1 u2 u3 u4 u5 u6 u7 u8 u9 ua : Value} {pv : Value} {es : List dw} (h1 : kF s) (h2 : es.map dw.says = s.put) (H : aA w0 w (Fv pv es • cO e (.cells (.pointer (some ⟨pb, 0, none⟩) :: .pointer (some ⟨pr, 0, none⟩) :: .pointer (some ⟨pw, 0, none⟩) :: .map (some pm) :: .int .i64 s.c.mode :: .bool s.c.over :: .int .i64 s.c.last :: .int .i64 s.c.fr :: .int .i64 s.c.to :: .int .i64 s.c.res :: .bool s.c.run :: .pointer (some ⟨ph, 0, none⟩) :: .pointer (some ⟨bl, 0, none⟩) :: .bool s.given :: .bool s.minus :: .int .i64 s.arg :: .bool s.inn :: u0 :: u1 :: u2 :: u3 :: u4 :: u5 :: u6 :: u7 :: u8 :: u9 :: ua :: .int .i64 s.cls :: .bool s.killed :: .bool s.mM :: .bool s.argues :: .bool s.whole :: pv :: []).toArray 69 (0, 0)) • dQ pb s.c.L s.c.pt s.c.mark • eu pr s.c.E s.c.at_ • cO pw (.cells #[.int .i64 s.c.place, .map (some pt)] 125 (0, 0)) • dY lI pt (lJ s.c.tx) • qF pm s.c.un • dn ph s.hl s.base s.most • cO bl (.cells #[.int .i64 s.ql] 144 (0, 0)) • sS s.inn s.was [u0, u1, u2, u3, u4, u5, u6, u7, u8, u9, ua] • F)) : aA w0 w (dN e s • F) := by
  refine aA.eG (pb := pb) (pr := pr) (pw := pw) (pt := pt) (pm := pm) (ph := ph) (bl := bl) (u0 := u0) (u1 := u1) (u2 := u2) (u3 := u3) (u4 := u4) (u5 := u5) (u6 := u6) (u7 := u7) (u8 := u8) (u9 := u9) (ua := ua) (pv := pv) (es := es) h1 h2 ?_
  have hl : s.put.length = es.length := by rw [← h2]; simp
  rw [hl]
  exact H.of_eq (by unfold Fv; ac_rfl)
theorem J6 (hl : List lg) (l : List Int) (E : List (List Int)) (a : Nat) (m : Int) : Bg hl (lV.fresh l E a hl.length m) := ⟨by simp [lV.fresh], by simp [lV.fresh], by simp [lV.fresh]⟩
theorem WY (hl : List lg) (base most : Int) : kF (bH.new hl base most) :=
  ⟨J6 _ _ _ _ _, by simp [bH.new], by simp [bH.new], by simp [bH.new], by simp [bH.new, bH.here, lV.fresh, fB], by simp [bH.new, lV.fresh]⟩
theorem EH (H : aA w0 w (dn h hl base most • F)) : fQ prog 34 #[.pointer (some ⟨h, 0, none⟩)] w fun v w' => ∃ e, v = .tuple #[.pointer (some ⟨e, 0, none⟩), .int .i64 0] ∧ aA w0 w' (dN e (bH.new hl base most) • dn h hl base most • F) := by
 refine iw func34 ntmps34 ?_
 dsimp only [aZ, Nat.reduceAdd]
 refine ay (ah (aW rfl (aW rfl (aB (aj (ay (ay (ah (aP rfl (dD rfl func77 (og H) ?_))))))))))
 rintro _ w1 ⟨q1, rfl, H1⟩
 refine aU (fO underlying65 rfl rfl) (aB (aj (aO rfl (fun h => by exfalso; (try simp only [aG] at h); simp at h) (fun h1 => ?_))))
 (try simp only [aG] at h1)
 refine aQ (aj (ay (ah (aU (dJ (zl := [.int .i64 0]) (pl := [(0, 0), (0, 0), (0, 1)]) [_] underlying144 zeroValue144 rfl (fun w => by kernel_rfl) rfl (.zero (zs := []) rfl (.zero (zs := []) rfl (.zero (zs := [.int .i64 0]) rfl .nil))) rfl) (gB (ig (l := [_]) H1 rfl rfl) ?_)))))
 rintro _ w2 ⟨b2, rfl, H2⟩
 refine aU (dJ (zl := [.pointer none, .pointer none, .pointer none, .map none, .int .i64 0, .bool false, .int .i64 0, .int .i64 0, .int .i64 0, .int .i64 0, .bool false, .pointer none, .pointer none, .bool false, .bool false, .int .i64 0, .bool false, .pointer none, .pointer none, .pointer none, .map none, .int .i64 0, .bool false, .int .i64 0, .int .i64 0, .int .i64 0, .int .i64 0, .bool false, .int .i64 0, .bool false, .bool false, .bool false, .bool false, .slice none 0 0]) (pl := [(0, 11), (11, 1), (12, 1), (13, 1), (14, 1), (15, 1), (16, 1), (17, 11), (28, 1), (29, 1), (30, 1), (31, 1), (32, 1), (33, 1)]) [_, _, _, _, _, _, _, _, _, _, _, _, _, _, _, _, _, _, _, _, _, _, _, _, _, _, _, _, _, _, _, _, _, _] underlying69 zeroValue69 rfl (fun w => by kernel_rfl) rfl (.zero (zs := [.pointer none, .pointer none, .pointer none, .map none, .int .i64 0, .bool false, .int .i64 0, .int .i64 0, .int .i64 0, .int .i64 0, .bool false]) rfl (.zero (zs := [.pointer none]) rfl (.one (by first | rfl | assumption) (.zero (zs := [.bool false]) rfl (.zero (zs := [.bool false]) rfl (.zero (zs := [.int .i64 0]) rfl (.zero (zs := [.bool false]) rfl (.zero (zs := [.pointer none, .pointer none, .pointer none, .map none, .int .i64 0, .bool false, .int .i64 0, .int .i64 0, .int .i64 0, .int .i64 0, .bool false]) rfl (.zero (zs := [.int .i64 0]) rfl (.zero (zs := [.bool false]) rfl (.zero (zs := [.bool false]) rfl (.zero (zs := [.bool false]) rfl (.zero (zs := [.bool false]) rfl (.zero (zs := [.slice none 0 0]) rfl .nil)))))))))))))) rfl) ?_
 refine gB (ig (l := [_, _, _, _, _, _, _, _, _, _, _, _, _, _, _, _, _, _, _, _, _, _, _, _, _, _, _, _, _, _, _, _, _, _]) H2 rfl rfl) ?_
 rintro _ w3 ⟨b3, rfl, H3⟩
 refine aW rfl (aB (aj (ay (ah (aP rfl (dD rfl func78 (Ho H3) ?_))))))
 rintro _ w4 ⟨p4, rfl, H4⟩
 refine bT rfl (bf 0 underlying69 rfl sizeOf64 rfl (bf 1 underlying64 rfl sizeOf60 rfl (aI (aS 1 (l' := [_, _, _, _, _, _, _, _, _, _, _, _, _, _, _, _, _, _, _, _, _, _, _, _, _, _, _, _, _, _, _, _, _, _]) H4.f2 sizeOf60 rfl rfl (by first | rfl | assumption) rfl rfl) ?_)))
 rintro _ w5 H5
 refine aB (aj (ay (ah (aP rfl (aP rfl (dD rfl func79 (yJ (E := []) (a := 0) H5.f4.right.f3.f3.f4.f4 (l := []) (fun W _ => iI.nil W _ none 0 (by decide)) (by decide)) ?_))))))
 rintro _ w6 ⟨qb, qw, qt, qm, qh, H6⟩
 refine aB (aj (ay (ah (aP rfl (aW rfl (aW rfl (aB (aj (aN (gQ (.inl rfl) results34 rfl rfl ?_))))))))))
 exact ⟨_, rfl, aA.MK (s := bH.new hl base most) (WY _ _ _) rfl rfl H6.f7.f9.f8.f8.f8.f8.f9.f9.f9⟩
end
end Go.Proofs.YtddekefihgejoaaGreatDoor
end
section
namespace Go.Proofs.YtddekefihgejoaaGreatDoor
open Go.RowKit
open _root_.Go.Proofs.Tryz
section
variable {w0 w : World} {F : HP} {e p h pr : Nat} {s : bH} {hl : List lg} {base most m : Int} {v : Value} {l : List Int}
theorem Bh (h : s.inn = false) : s.iq = { s with inn := true, was := s.c, cls := 0, killed := false, mM := false, argues := false, whole := true, put := [] } := by unfold bH.iq; rw [if_neg (by simp [h])]
theorem ML (h : s.inn = true) : s.iq = s := by unfold bH.iq; rw [if_pos h]
theorem Ob {G : List (List fG)} {N : List fG} (h : fB G N ≤ 16384) : fB G [] ≤ 16384 := by unfold fB at *; simp at *; omega
theorem SA (h : kF s) (hi : s.inn = false) : kF s.iq := by
  rw [Bh hi]
  obtain ⟨h1, h2, h3, h4, h5, h6⟩ := h
  exact ⟨h1, fun _ => ⟨h1, Ob h5, h6⟩, h3, by simp, Ob h5, h6⟩
theorem rJ (H : aA w0 w (dN e s • F)) : fQ prog 36 #[.pointer (some ⟨e, 0, none⟩)] w fun v w' => v = .int .i64 s.sQ ∧ aA w0 w' (dN e s.iq • F) := by
 refine iw func36 ntmps36 ?_
 dsimp only [aZ, Nat.reduceAdd]
 refine ay (ah (aW rfl (aB (aj (ay (aY (ay (ah (aP rfl (dD rfl func54 (qo H) ?_))))))))))
 rintro _ _ ⟨rfl, rfl⟩
 refine aW rfl (aB (aj (pW (ay ?_))))
 obtain ⟨qZ, ru, rC, rD, rE, rF, rG, rH, oL, mZ, ng, ni, ny, nC, nD, nG, nH, nI, nJ, nK, dL, bM, iC, eU⟩ := (H).Ey
 refine ah (aP rfl (bT rfl (bf 16 underlying69 rfl sizeOf4 rfl (dA underlying4 rfl (eU).get.2 rfl (aW rfl (aB (aj (aO rfl (fun h1 => ?_) (fun h1 => ?_)))))))))
 ·(try simp only [aG] at h1)
  try (exfalso; first | contradiction | omega)
  all_goals
   have hin := h1
   refine ay (ah (aW rfl (aB (aj (aN (aX (aK (aT (.inl rfl) results36 rfl ?_))))))))
   exact ⟨by unfold bH.sQ; rw [if_pos hin], by rw [ML hin]; exact aA.eG dL bM eU.f11.f11.f11.f11.f11.f11.f11.f11.f11.f11.f11⟩
 ·(try simp only [aG] at h1)
  try (exfalso; first | contradiction | omega)
  all_goals
   have hin := h1
   refine aQ (aH (aj (ay (ah (aP rfl (aP rfl (aP rfl (bT rfl (bf 0 underlying69 rfl sizeOf64 rfl (aU (kY 0 (xs := [_, _, _, _, _, _, _, _, _, _, _]) underlying64 rfl sizeOf64 rfl rfl (eU).get.2 rfl) (dD rfl func80 (RX eU.f6.f6.f6.f6.f6) ?_)))))))))))
   rintro _ w3 ⟨qb3, qr3, qw3, qt3, qm3, rfl, H3⟩
   refine bT rfl (bf 16 underlying69 rfl sizeOf4 rfl (aI (aS 16 (l' := [_, _, _, _, _, _, _, _, _, _, _, _, _, _, _, _, _, _, _, _, _, _, _, _, _, _, _, _, _, _, _, _, _, _]) H3.f11 sizeOf4 rfl rfl (by first | rfl | assumption) rfl rfl) ?_))
   rintro _ w4 H4
   refine bT rfl (bf 17 underlying69 rfl sizeOf64 rfl (aI (bC 17 (l' := [_, _, _, _, _, _, _, _, _, _, _, _, _, _, _, _, _, _, _, _, _, _, _, _, _, _, _, _, _, _, _, _, _, _]) (us := [_, _, _, _, _, _, _, _, _, _, _]) H4 sizeOf64 rfl rfl rfl (aC (by first | rfl | assumption) (aC (by first | rfl | assumption) (aC (by first | rfl | assumption) (aC (by first | rfl | assumption) (aC (by first | rfl | assumption) (aC (by first | rfl | assumption) (aC (by first | rfl | assumption) (aC (by first | rfl | assumption) (aC (by first | rfl | assumption) (aC (by first | rfl | assumption) (aC (by first | rfl | assumption) bg))))))))))) rfl rfl) ?_))
   rintro _ w5 H5
   refine aB (aj (ay (ah (aP rfl (aP rfl (aP rfl (aP rfl (aP rfl (aP rfl (bT rfl (bf 28 underlying69 rfl sizeOf3 rfl (aI (aS 28 (l' := [_, _, _, _, _, _, _, _, _, _, _, _, _, _, _, _, _, _, _, _, _, _, _, _, _, _, _, _, _, _, _, _, _, _]) H5 sizeOf3 rfl rfl (by first | rfl | assumption) rfl rfl) ?_))))))))))))
   rintro _ w6 H6
   refine bT rfl (bf 29 underlying69 rfl sizeOf4 rfl (aI (aS 29 (l' := [_, _, _, _, _, _, _, _, _, _, _, _, _, _, _, _, _, _, _, _, _, _, _, _, _, _, _, _, _, _, _, _, _, _]) H6 sizeOf4 rfl rfl (by first | rfl | assumption) rfl rfl) ?_))
   rintro _ w7 H7
   refine bT rfl (bf 30 underlying69 rfl sizeOf4 rfl (aI (aS 30 (l' := [_, _, _, _, _, _, _, _, _, _, _, _, _, _, _, _, _, _, _, _, _, _, _, _, _, _, _, _, _, _, _, _, _, _]) H7 sizeOf4 rfl rfl (by first | rfl | assumption) rfl rfl) ?_))
   rintro _ w8 H8
   refine bT rfl (bf 31 underlying69 rfl sizeOf4 rfl (aI (aS 31 (l' := [_, _, _, _, _, _, _, _, _, _, _, _, _, _, _, _, _, _, _, _, _, _, _, _, _, _, _, _, _, _, _, _, _, _]) H8 sizeOf4 rfl rfl (by first | rfl | assumption) rfl rfl) ?_))
   rintro _ w9 H9
   refine bT rfl (bf 32 underlying69 rfl sizeOf4 rfl (aI (aS 32 (l' := [_, _, _, _, _, _, _, _, _, _, _, _, _, _, _, _, _, _, _, _, _, _, _, _, _, _, _, _, _, _, _, _, _, _]) H9 sizeOf4 rfl rfl (by first | rfl | assumption) rfl rfl) ?_))
   rintro _ w10 qK
   refine bT rfl (bf 33 underlying69 rfl sizeOf67 rfl (aI (aS 33 (l' := [_, _, _, _, _, _, _, _, _, _, _, _, _, _, _, _, _, _, _, _, _, _, _, _, _, _, _, _, _, _, _, _, _, _]) qK sizeOf67 rfl rfl (by first | rfl | assumption) rfl rfl) ?_))
   rintro _ IV vK
   refine aB (aj (ay (ah (aW rfl (aB (aj (aN (aT (.inl rfl) results36 rfl ?_))))))))
   have MH := vK.f6.f6.f6.f6.f6
   have MI := aA.WX (c := s.c) MH
   exact ⟨by unfold bH.sQ; rw [if_neg (by simp [hin])], by rw [Bh hin]; exact aA.EG (Bh hin ▸ SA dL hin) rfl MI.f10.right.f10.right.f10.right.f9.f9.f9.f9.f9.f9.f9.f9⟩
end
end Go.Proofs.YtddekefihgejoaaGreatDoor
end
section
namespace Go.Proofs.YtddekefihgejoaaGreatDoor
open Go.RowKit
open _root_.Go.Proofs.Tryz
section
variable {w0 w : World} {F : HP} {e p h pr : Nat} {s : bH} {x : Int} {b : Bool}
theorem uY (h : kF s) (L : List Int) (pt mk : Int) : kF (s.jS L pt mk) := h
theorem BX (H : aA w0 w (dN e s • F)) : fQ prog 40 #[.pointer (some ⟨e, 0, none⟩), .int .i64 x] w fun v w' => v = .int .i64 (s.Gi x) ∧ aA w0 w' (dN e (s.xC x) • F) := by
 refine iw func40 ntmps40 ?_
 dsimp only [aZ, Nat.reduceAdd]
 refine ay (ah (aW rfl (aB (aj (ay (ay (ah (aP rfl (dD rfl func81 (lq H) ?_)))))))))
 rintro _ _ ⟨rfl, rfl⟩
 refine aW rfl (aB (aj (ay (ah (aP rfl (aU (dG rfl rfl) (aB (aj (aO rfl (fun h1 => ?_) (fun h1 => ?_))))))))))
 ·(try simp only [aG] at h1)
  obtain ⟨hin, hpe⟩ := Dt h1
  refine ay (ah (aP rfl (aW rfl (aB (aj (aN (aK (aT (.inl rfl) results40 rfl ?_))))))))
  rw [hpe]
  exact ⟨by simp [bH.Gi, bH.xC, hin], by rw [show s.xC x = s from by simp [bH.Gi, bH.xC, hin]]; exact H⟩
 ·(try simp only [aG] at h1)
  have hin := zZ h1
  refine aQ (aj (ay ?_))
  obtain ⟨qZ, ru, rC, rD, rE, rF, rG, rH, oL, mZ, ng, ni, ny, nC, nD, nG, nH, nI, nJ, nK, dL, bM, iC, eU⟩ := (H).Ey
  refine ah (aP rfl (bT rfl (bf 0 underlying69 rfl sizeOf64 rfl (bf 0 underlying64 rfl sizeOf59 rfl (dA underlying59 rfl (eU).get.2 rfl (aP rfl (dD rfl func90 (Hg eU.f2) ?_)))))))
  rintro _ w3 ⟨rfl, H3⟩
  refine aW rfl (aB (aj (aN (aT (.inl rfl) results40 rfl ?_))))
  exact ⟨by simp [bH.Gi, hin], by rw [show s.xC x = s.jS s.c.L (Vt s.c.L.length s.c.pt x) s.c.mark from by simp [bH.xC, hin]]; exact aA.eG (uY dL _ _ _) bM H3.f11.f11.f11.f11.f11.f11.f11.f11.f11.f10.f11⟩
theorem BZ (H : aA w0 w (dN e s • F)) : fQ prog 32 #[.pointer (some ⟨e, 0, none⟩)] w fun v w' => ∃ u, v = .agg (jy u s.c.pt s.c.mark) ∧ aA w0 w' (gW 21 .i32 u s.c.L • dN e s • F) := by
 refine iw func32 ntmps32 ?_
 dsimp only [aZ, Nat.reduceAdd]
 refine ay (ah (gB (bW (l := [_, _, _]) H zeroValue41 rfl) ?_))
 rintro _ w1 ⟨b1, rfl, H1⟩
 refine aB (aj (ay (ay (ah (aP rfl (dD rfl func54 (qo H1.f2) ?_))))))
 rintro _ _ ⟨rfl, rfl⟩
 refine aB (aj (pW (aQ (aj (ay ?_)))))
 obtain ⟨qZ, ru, rC, rD, rE, rF, rG, rH, oL, mZ, ng, ni, ny, nC, nD, nG, nH, nI, nJ, nK, dL, bM, iC, eU⟩ := (H1.f2).Ey
 refine ah (aP rfl (bT rfl (bf 0 underlying69 rfl sizeOf64 rfl (bf 0 underlying64 rfl sizeOf59 rfl (dA underlying59 rfl (eU).get.2 rfl (dD rfl func74 (zL eU.f2) ?_))))))
 rintro _ w4 ⟨u4, rfl, H4⟩
 refine aI (bC 0 (l' := [_, _, _]) (us := [_, _, _]) H4.f13 sizeOf41 rfl rfl rfl (aC (by first | rfl | exact Rd.one ((H4).aJ)) (aC (by first | rfl | assumption) (aC (by first | rfl | assumption) bg))) rfl rfl) ?_
 rintro _ w5 H5
 refine aB (aj (aN ?_))
 refine kM (.inl rfl) (Fq results32 rfl underlying41 rfl (by rw [show (prog.info? 41).map (·.size) = some 3 from by kernel_rfl]; rfl) (H5).get.2) ?_
 have Ru := H5.f13.f13.f13.f13.f13.f13.f13.f13.f13.f12.f13
 have Pj := aA.eG (s := s) dL bM Ru
 exact ⟨_, rfl, Pj.f2.right.f2⟩
theorem J7 (H : aA w0 w (dN e s • F)) : fQ prog 49 #[.pointer (some ⟨e, 0, none⟩)] w fun v w' => ∃ q, v = .pointer (some ⟨q, 0, none⟩) ∧ aA w0 w' (dn q s.hl s.base s.most • dN e s • F) := by
 refine iw func49 ntmps49 ?_
 dsimp only [aZ, Nat.reduceAdd]
 refine ay (ah (aW rfl (aB (aj (ay (ay (ah (aP rfl (dD rfl func54 (qo H) ?_)))))))))
 rintro _ _ ⟨rfl, rfl⟩
 refine aB (aj (pW (aQ (aj (ay ?_)))))
 obtain ⟨qZ, ru, rC, rD, rE, rF, rG, rH, oL, mZ, ng, ni, ny, nC, nD, nG, nH, nI, nJ, nK, dL, bM, iC, eU⟩ := (H).Ey
 refine ah (aP rfl (bT rfl (bf 11 underlying69 rfl sizeOf65 rfl (dA underlying65 rfl (eU).get.2 rfl (dD rfl func77 (og eU.f7) ?_)))))
 rintro _ w3 ⟨q3, rfl, H3⟩
 refine aW rfl (aB (aj (aN (aT (.inl rfl) results49 rfl ?_))))
 have Yt := H3.f12.f12.f12.f12.f6.f12.f12.f12.f12.f12.f12
 have Yu := aA.eG (s := s) dL bM Yt
 exact ⟨_, rfl, Yu.f2⟩
end
end Go.Proofs.YtddekefihgejoaaGreatDoor
end
