import Derived.Test.YtgndbccogcofjaaGreatDoorZ2
import Derived.Test.YtgndbccogcofjaaGreatDoorZ12
set_option linter.unusedSimpArgs false
set_option linter.unusedVariables false
/- Texts of mine, joined, their names in short: EdB EdC EdMv. -/
section
namespace Go.Proofs.YtgndbccogcofjaaGreatDoor
open Go.RowKit
open _root_.Go.Proofs.Tryz
section
variable {w0 w : World} {F : HP} {e p h pr : Nat} {s : aZ} {hl : List oG} {base most m : Int} {v : Value} {l : List Int}
theorem aB.oI {b : Nat} (H : aB w0 w (dY oz b (fun _ => none) • F)) : aB w0 w (sN b (fun _ => []) • F) :=
  aB.Az (D := []) (P := fun _ => 0) List.nodup_nil (fun _ _ => rfl) (by rw [KX]; exact H.of_eq (by show _ = (_ • emp • _); rw [YtgndbccogcofjaaGreatDoor.iY]))
set_option maxHeartbeats 1000000 in
theorem wU {x0 x2 x3 x5 x6 x7 x8 x9 x10 x11 x12 Xd x14 x15 x16 x17 x18 x19 x20 x21 VQ x23 x24 x25 VR x27 x28 x29 x30 x31 x32 VT : Value} {E : List (List Int)} {a : Nat} (H : aB w0 w (dB e (.cells (x0 :: .pointer (some ⟨pr, 0, none⟩) :: x2 :: x3 :: .int .i64 m :: x5 :: x6 :: x7 :: x8 :: x9 :: x10 :: x11 :: x12 :: Xd :: x14 :: x15 :: x16 :: x17 :: x18 :: x19 :: x20 :: x21 :: VQ :: x23 :: x24 :: x25 :: VR :: x27 :: x28 :: x29 :: x30 :: x31 :: x32 :: VT :: []).toArray 37 (0, 0)) • eG h hl base most • F)) (hr : gJ w0 F .i32 v l) (hshort : l.length ≤ 1024) :
  fA prog 110 #[.pointer (some ⟨e, 0, none⟩), .pointer (some ⟨h, 0, none⟩), v] w fun _ w' => ∃ pb pw pt pm ph, aB w0 w' (dB e (.cells (.pointer (some ⟨pb, 0, none⟩) :: .pointer (some ⟨pr, 0, none⟩) :: .pointer (some ⟨pw, 0, none⟩) :: .map (some pm) :: .int .i64 m :: .bool false :: .int .i64 0 :: .int .i64 0 :: .int .i64 0 :: .int .i64 0 :: .bool false :: .pointer (some ⟨ph, 0, none⟩) :: x12 :: .bool false :: .bool false :: .int .i64 (-1) :: x16 :: x17 :: x18 :: x19 :: x20 :: x21 :: VQ :: x23 :: x24 :: x25 :: VR :: x27 :: x28 :: x29 :: x30 :: x31 :: x32 :: VT :: []).toArray 37 (0, 0)) •
   dJ pb l l.length (-1) • dB pw (.cells #[.int .i64 hl.length, .map (some pt)] 85 (0, 0)) • dY oz pt (fun _ => none) • sN pm (fun _ => []) • eG ph hl base most • eG h hl base most • F) := by
 refine fU func110 ntmps110 ?_
 dsimp only [aY, Nat.reduceAdd]
 refine ay (ah (aO rfl (bZ rfl func184 (Ho H (fun W HW => hr _ (HW.right.right)) hshort) ?_)))
 rintro _ w1 ⟨p1, rfl, H1⟩
 refine aO rfl (Ar rfl rfl (Ar rfl rfl (aU rfl (aU rfl (aA (aj (ay (ah (aO rfl (aO rfl (bZ rfl func45 (mF H1.f3) ?_)))))))))))
 rintro _ w2 ⟨q2, rfl, H2⟩
 refine bP rfl (bg 11 underlying37 rfl sizeOf33 rfl (aG (aQ 11 (l' := [_, _, _, _, _, _, _, _, _, _, _, _, _, _, _, _, _, _, _, _, _, _, _, _, _, _, _, _, _, _, _, _, _, _]) H2.f4 sizeOf33 rfl rfl (by first | rfl | assumption) rfl rfl) ?_))
 rintro _ w3 H3
 refine aA (aj (ay ?_))
 have QN := H3.drew
 have qP := aB.kp (QN.f3.right.f3.f3.f3)
 refine yQ [6, 17] qP rfl (iE 0 rfl qP rfl (iE 1 rfl qP rfl (iE 2 rfl qP rfl (jF 3 rfl qP rfl (gG 4 rfl qP 0 underlying37 rfl sizeOf32 rfl (gG 5 rfl qP 1 underlying32 rfl sizeOf28 rfl (je 6 rfl qP (fun W hW => jE underlying28 rfl ((Kp.h hW)).get.2 rfl) (iE 7 rfl qP rfl (iE 13 rfl qP rfl (jF 14 rfl qP rfl (gG 15 rfl qP 0 underlying37 rfl sizeOf32 rfl (gG 16 rfl qP 4 underlying32 rfl sizeOf3 rfl (je 17 rfl qP (fun W hW => jE underlying3 rfl ((Kp.h hW)).get.2 rfl) ?_)))))))))))))
 refine NQ (i := 8) (j := 9) (k := 12) (by kernel_rfl) ?_ ?_ ?_
 ·skip
  refine kG 8 rfl (by kernel_rfl) (wW (yV rfl func102 rfl rfl) (mD QN.f3)) (oJ rfl) ?_
  rintro _ w4 ⟨rfl, H4⟩
  have wG := aB.kp (H4.f4.f4.f4.f4)
  refine dP wG (fun W hW => (Kp.h hW).right.f3.f3.f3) ?_
  refine Bc (i := 9) (j := 12) (by kernel_rfl) ?_ ?_
  ·skip
   refine kG 9 rfl (by kernel_rfl) (gU (wF .i64) H4) (oJ rfl) ?_
   rintro _ w5 ⟨b5, rfl, H5⟩
   have JC := aB.kp (H5.f5.f5.f5.f5.f5)
   refine dP JC (fun W hW => (Kp.h hW).right.f4.f4.f4.f4) ?_
   refine jc 10 rfl JC (fun _ => eH (zl := [.int .i64 0, .map none]) (pl := [(0, 1), (1, 1)]) [_, _] underlying85 zeroValue85 rfl (fun w => by kernel_rfl) rfl (.one (by first | rfl | assumption) (.one (by first | rfl | assumption) .nil)) rfl) ?_
   refine Bc (i := 11) (j := 12) (by kernel_rfl) ?_ ?_
   ·skip
    refine kG 11 rfl (by kernel_rfl) (iG (l := [_, _]) H5 rfl rfl) (oJ rfl) ?_
    rintro _ w6 ⟨b6, rfl, H6⟩
    have Iy := aB.kp (H6.f6.f6.f6.f6.f6.f6)
    refine dP Iy (fun W hW => (Kp.h hW).right.f5.f5.f5.f5.f5) ?_
    refine jQ 12 rfl (gU (wF .i64) H6) ?_
    rintro _ w7 ⟨b7, rfl, H7⟩
    have zf := aB.kp (H7.f7.f7.f7.f7.f7.f7.f7)
    refine dP zf (fun W hW => (Kp.h hW).right.f6.f6.f6.f6.f6.f6) ?_
    refine jc 18 rfl zf (fun _ => eH (zl := [.pointer none, .pointer none, .pointer none, .map none, .int .i64 0, .bool false, .int .i64 0, .int .i64 0, .int .i64 0, .int .i64 0, .bool false]) (pl := [(0, 1), (1, 1), (2, 1), (3, 1), (4, 1), (5, 1), (6, 1), (7, 1), (8, 1), (9, 1), (10, 1)]) [_, _, _, _, _, _, _, _, _, _, _] underlying32 zeroValue32 rfl (fun w => by kernel_rfl) rfl (.one (by first | rfl | assumption) (.one (by first | rfl | assumption) (.one (by first | rfl | assumption) (.one (by first | rfl | assumption) (.one (by first | rfl | assumption) (.zero (zs := [.bool false]) rfl (.zero (zs := [.int .i64 0]) rfl (.zero (zs := [.int .i64 0]) rfl (.zero (zs := [.int .i64 0]) rfl (.zero (zs := [.int .i64 0]) rfl (.zero (zs := [.bool false]) rfl .nil))))))))))) rfl) ?_
    refine jF 19 rfl zf rfl (gG 20 rfl zf 0 underlying37 rfl sizeOf32 rfl ?_)
    refine fH 21 rfl (by kernel_rfl) (cZ 0 (l' := [_, _, _, _, _, _, _, _, _, _, _, _, _, _, _, _, _, _, _, _, _, _, _, _, _, _, _, _, _, _, _, _, _, _]) (us := [_, _, _, _, _, _, _, _, _, _, _]) H7.f5 sizeOf32 rfl rfl rfl (aC (by first | rfl | assumption) (aC (by first | rfl | assumption) (aC (by first | rfl | assumption) (aC (by first | rfl | assumption) (aC (by first | rfl | assumption) (aC (by first | rfl | assumption) (aC (by first | rfl | assumption) (aC (by first | rfl | assumption) (aC (by first | rfl | assumption) (aC (by first | rfl | assumption) (aC (by first | rfl | assumption) bU))))))))))) rfl rfl) ?_
    rintro _ w8 H8
    have MN := aB.kp (H8.f7.f7.f7.f7.f7.f7.f7)
    refine fF MN (by kernel_rfl) ?_
    refine pU (aj (ah (aO rfl (aO rfl (aO rfl (bP rfl (bg 13 underlying37 rfl sizeOf4 rfl (aG (aQ 13 (l' := [_, _, _, _, _, _, _, _, _, _, _, _, _, _, _, _, _, _, _, _, _, _, _, _, _, _, _, _, _, _, _, _, _, _]) H8 sizeOf4 rfl rfl (by first | rfl | assumption) rfl rfl) ?_))))))))
    rintro _ w9 H9
    refine bP rfl (bg 14 underlying37 rfl sizeOf4 rfl (aG (aQ 14 (l' := [_, _, _, _, _, _, _, _, _, _, _, _, _, _, _, _, _, _, _, _, _, _, _, _, _, _, _, _, _, _, _, _, _, _]) H9 sizeOf4 rfl rfl (by first | rfl | assumption) rfl rfl) ?_))
    rintro _ w10 mJ
    refine bP rfl (bg 15 underlying37 rfl sizeOf3 rfl (aG (aQ 15 (l' := [_, _, _, _, _, _, _, _, _, _, _, _, _, _, _, _, _, _, _, _, _, _, _, _, _, _, _, _, _, _, _, _, _, _]) mJ sizeOf3 rfl rfl (by first | rfl | assumption) rfl rfl) ?_))
    rintro _ He uO
    refine aA (fM (.inr rfl) results110 ?_)
    have JR := uO.f2
    have JU := JR.oI
    exact ⟨_, _, _, _, _, JU.f5.f6.f3.f6.f6.f7.f7⟩
   ·skip
    refine kG 12 rfl (by kernel_rfl) (gU (wF .i64) H5) (oJ rfl) ?_
    rintro _ Me ⟨b14, rfl, yc⟩
    have OA := aB.kp (yc.f6.f6.f6.f6.f6.f6)
    refine dP OA (fun W hW => (Kp.h hW).right.f5.f5.f5.f5.f5) ?_
    refine jQ 11 rfl (iG (l := [_, _]) yc rfl rfl) ?_
    rintro _ Oe ⟨b15, rfl, xO⟩
    have wP := aB.kp (xO.f7.f7.f7.f7.f7.f7.f7)
    refine dP wP (fun W hW => (Kp.h hW).right.f6.f6.f6.f6.f6.f6) ?_
    refine jc 18 rfl wP (fun _ => eH (zl := [.pointer none, .pointer none, .pointer none, .map none, .int .i64 0, .bool false, .int .i64 0, .int .i64 0, .int .i64 0, .int .i64 0, .bool false]) (pl := [(0, 1), (1, 1), (2, 1), (3, 1), (4, 1), (5, 1), (6, 1), (7, 1), (8, 1), (9, 1), (10, 1)]) [_, _, _, _, _, _, _, _, _, _, _] underlying32 zeroValue32 rfl (fun w => by kernel_rfl) rfl (.one (by first | rfl | assumption) (.one (by first | rfl | assumption) (.one (by first | rfl | assumption) (.one (by first | rfl | assumption) (.one (by first | rfl | assumption) (.zero (zs := [.bool false]) rfl (.zero (zs := [.int .i64 0]) rfl (.zero (zs := [.int .i64 0]) rfl (.zero (zs := [.int .i64 0]) rfl (.zero (zs := [.int .i64 0]) rfl (.zero (zs := [.bool false]) rfl .nil))))))))))) rfl) ?_
    refine jF 19 rfl wP rfl (gG 20 rfl wP 0 underlying37 rfl sizeOf32 rfl ?_)
    refine fH 21 rfl (by kernel_rfl) (cZ 0 (l' := [_, _, _, _, _, _, _, _, _, _, _, _, _, _, _, _, _, _, _, _, _, _, _, _, _, _, _, _, _, _, _, _, _, _]) (us := [_, _, _, _, _, _, _, _, _, _, _]) xO.f5 sizeOf32 rfl rfl rfl (aC (by first | rfl | assumption) (aC (by first | rfl | assumption) (aC (by first | rfl | assumption) (aC (by first | rfl | assumption) (aC (by first | rfl | assumption) (aC (by first | rfl | assumption) (aC (by first | rfl | assumption) (aC (by first | rfl | assumption) (aC (by first | rfl | assumption) (aC (by first | rfl | assumption) (aC (by first | rfl | assumption) bU))))))))))) rfl rfl) ?_
    rintro _ w16 tJ
    have Il := aB.kp (tJ.f7.f7.f7.f7.f7.f7.f7)
    refine fF Il (by kernel_rfl) ?_
    refine pU (aj (ah (aO rfl (aO rfl (aO rfl (bP rfl (bg 13 underlying37 rfl sizeOf4 rfl (aG (aQ 13 (l' := [_, _, _, _, _, _, _, _, _, _, _, _, _, _, _, _, _, _, _, _, _, _, _, _, _, _, _, _, _, _, _, _, _, _]) tJ sizeOf4 rfl rfl (by first | rfl | assumption) rfl rfl) ?_))))))))
    rintro _ Uw Fj
    refine bP rfl (bg 14 underlying37 rfl sizeOf4 rfl (aG (aQ 14 (l' := [_, _, _, _, _, _, _, _, _, _, _, _, _, _, _, _, _, _, _, _, _, _, _, _, _, _, _, _, _, _, _, _, _, _]) Fj sizeOf4 rfl rfl (by first | rfl | assumption) rfl rfl) ?_))
    rintro _ Rx Ei
    refine bP rfl (bg 15 underlying37 rfl sizeOf3 rfl (aG (aQ 15 (l' := [_, _, _, _, _, _, _, _, _, _, _, _, _, _, _, _, _, _, _, _, _, _, _, _, _, _, _, _, _, _, _, _, _, _]) Ei sizeOf3 rfl rfl (by first | rfl | assumption) rfl rfl) ?_))
    rintro _ RF BF
    refine aA (fM (.inr rfl) results110 ?_)
    have Yv := BF.f3
    have Yw := Yv.oI
    exact ⟨_, _, _, _, _, Yw.f5.f6.f3.f6.f6.f7.f7⟩
  ·skip
   refine kG 12 rfl (by kernel_rfl) (gU (wF .i64) H4) (oJ rfl) ?_
   rintro _ WS ⟨b22, rfl, GV⟩
   have CV := aB.kp (GV.f5.f5.f5.f5.f5)
   refine dP CV (fun W hW => (Kp.h hW).right.f4.f4.f4.f4) ?_
   refine jQ 9 rfl (gU (wF .i64) GV) ?_
   rintro _ RG ⟨b23, rfl, yR⟩
   have EF := aB.kp (yR.f6.f6.f6.f6.f6.f6)
   refine dP EF (fun W hW => (Kp.h hW).right.f5.f5.f5.f5.f5) ?_
   refine jc 10 rfl EF (fun _ => eH (zl := [.int .i64 0, .map none]) (pl := [(0, 1), (1, 1)]) [_, _] underlying85 zeroValue85 rfl (fun w => by kernel_rfl) rfl (.one (by first | rfl | assumption) (.one (by first | rfl | assumption) .nil)) rfl) ?_
   refine jQ 11 rfl (iG (l := [_, _]) yR rfl rfl) ?_
   rintro _ WT ⟨b24, rfl, MB⟩
   have KY := aB.kp (MB.f7.f7.f7.f7.f7.f7.f7)
   refine dP KY (fun W hW => (Kp.h hW).right.f6.f6.f6.f6.f6.f6) ?_
   refine jc 18 rfl KY (fun _ => eH (zl := [.pointer none, .pointer none, .pointer none, .map none, .int .i64 0, .bool false, .int .i64 0, .int .i64 0, .int .i64 0, .int .i64 0, .bool false]) (pl := [(0, 1), (1, 1), (2, 1), (3, 1), (4, 1), (5, 1), (6, 1), (7, 1), (8, 1), (9, 1), (10, 1)]) [_, _, _, _, _, _, _, _, _, _, _] underlying32 zeroValue32 rfl (fun w => by kernel_rfl) rfl (.one (by first | rfl | assumption) (.one (by first | rfl | assumption) (.one (by first | rfl | assumption) (.one (by first | rfl | assumption) (.one (by first | rfl | assumption) (.zero (zs := [.bool false]) rfl (.zero (zs := [.int .i64 0]) rfl (.zero (zs := [.int .i64 0]) rfl (.zero (zs := [.int .i64 0]) rfl (.zero (zs := [.int .i64 0]) rfl (.zero (zs := [.bool false]) rfl .nil))))))))))) rfl) ?_
   refine jF 19 rfl KY rfl (gG 20 rfl KY 0 underlying37 rfl sizeOf32 rfl ?_)
   refine fH 21 rfl (by kernel_rfl) (cZ 0 (l' := [_, _, _, _, _, _, _, _, _, _, _, _, _, _, _, _, _, _, _, _, _, _, _, _, _, _, _, _, _, _, _, _, _, _]) (us := [_, _, _, _, _, _, _, _, _, _, _]) MB.f5 sizeOf32 rfl rfl rfl (aC (by first | rfl | assumption) (aC (by first | rfl | assumption) (aC (by first | rfl | assumption) (aC (by first | rfl | assumption) (aC (by first | rfl | assumption) (aC (by first | rfl | assumption) (aC (by first | rfl | assumption) (aC (by first | rfl | assumption) (aC (by first | rfl | assumption) (aC (by first | rfl | assumption) (aC (by first | rfl | assumption) bU))))))))))) rfl rfl) ?_
   rintro _ WU KG
   have VW := aB.kp (KG.f7.f7.f7.f7.f7.f7.f7)
   refine fF VW (by kernel_rfl) ?_
   refine pU (aj (ah (aO rfl (aO rfl (aO rfl (bP rfl (bg 13 underlying37 rfl sizeOf4 rfl (aG (aQ 13 (l' := [_, _, _, _, _, _, _, _, _, _, _, _, _, _, _, _, _, _, _, _, _, _, _, _, _, _, _, _, _, _, _, _, _, _]) KG sizeOf4 rfl rfl (by first | rfl | assumption) rfl rfl) ?_))))))))
   rintro _ Vg MF
   refine bP rfl (bg 14 underlying37 rfl sizeOf4 rfl (aG (aQ 14 (l' := [_, _, _, _, _, _, _, _, _, _, _, _, _, _, _, _, _, _, _, _, _, _, _, _, _, _, _, _, _, _, _, _, _, _]) MF sizeOf4 rfl rfl (by first | rfl | assumption) rfl rfl) ?_))
   rintro _ Vh PZ
   refine bP rfl (bg 15 underlying37 rfl sizeOf3 rfl (aG (aQ 15 (l' := [_, _, _, _, _, _, _, _, _, _, _, _, _, _, _, _, _, _, _, _, _, _, _, _, _, _, _, _, _, _, _, _, _, _]) PZ sizeOf3 rfl rfl (by first | rfl | assumption) rfl rfl) ?_))
   rintro _ WV P5
   refine aA (fM (.inr rfl) results110 ?_)
   have TY := P5.f4
   have Ua := TY.oI
   exact ⟨_, _, _, _, _, Ua.f5.f6.f3.f6.f6.f7.f7⟩
 ·skip
  refine kG 9 rfl (by kernel_rfl) (gU (wF .i64) QN) (oJ rfl) ?_
  rintro _ Vj ⟨b31, rfl, Jj⟩
  have VX := aB.kp (Jj.f4.right.f4.f4.f4.f4)
  refine dP VX (fun W hW => (Kp.h hW).right.f3.f3.f3) ?_
  refine Bc (i := 8) (j := 12) (by kernel_rfl) ?_ ?_
  ·skip
   refine kG 8 rfl (by kernel_rfl) (wW (yV rfl func102 rfl rfl) (mD Jj.f4)) (oJ rfl) ?_
   rintro _ w32 ⟨rfl, NG⟩
   have RZ := aB.kp (NG.f5.f5.f5.f5.f5)
   refine dP RZ (fun W hW => (Kp.h hW).right.f4.f4.f4.f4) ?_
   refine jc 10 rfl RZ (fun _ => eH (zl := [.int .i64 0, .map none]) (pl := [(0, 1), (1, 1)]) [_, _] underlying85 zeroValue85 rfl (fun w => by kernel_rfl) rfl (.one (by first | rfl | assumption) (.one (by first | rfl | assumption) .nil)) rfl) ?_
   refine Bc (i := 11) (j := 12) (by kernel_rfl) ?_ ?_
   ·skip
    refine kG 11 rfl (by kernel_rfl) (iG (l := [_, _]) NG rfl rfl) (oJ rfl) ?_
    rintro _ WW ⟨b33, rfl, Jk⟩
    have VY := aB.kp (Jk.f6.f6.f6.f6.f6.f6)
    refine dP VY (fun W hW => (Kp.h hW).right.f5.f5.f5.f5.f5) ?_
    refine jQ 12 rfl (gU (wF .i64) Jk) ?_
    rintro _ Xx ⟨b34, rfl, P6⟩
    have KZ := aB.kp (P6.f7.f7.f7.f7.f7.f7.f7)
    refine dP KZ (fun W hW => (Kp.h hW).right.f6.f6.f6.f6.f6.f6) ?_
    refine jc 18 rfl KZ (fun _ => eH (zl := [.pointer none, .pointer none, .pointer none, .map none, .int .i64 0, .bool false, .int .i64 0, .int .i64 0, .int .i64 0, .int .i64 0, .bool false]) (pl := [(0, 1), (1, 1), (2, 1), (3, 1), (4, 1), (5, 1), (6, 1), (7, 1), (8, 1), (9, 1), (10, 1)]) [_, _, _, _, _, _, _, _, _, _, _] underlying32 zeroValue32 rfl (fun w => by kernel_rfl) rfl (.one (by first | rfl | assumption) (.one (by first | rfl | assumption) (.one (by first | rfl | assumption) (.one (by first | rfl | assumption) (.one (by first | rfl | assumption) (.zero (zs := [.bool false]) rfl (.zero (zs := [.int .i64 0]) rfl (.zero (zs := [.int .i64 0]) rfl (.zero (zs := [.int .i64 0]) rfl (.zero (zs := [.int .i64 0]) rfl (.zero (zs := [.bool false]) rfl .nil))))))))))) rfl) ?_
    refine jF 19 rfl KZ rfl (gG 20 rfl KZ 0 underlying37 rfl sizeOf32 rfl ?_)
    refine fH 21 rfl (by kernel_rfl) (cZ 0 (l' := [_, _, _, _, _, _, _, _, _, _, _, _, _, _, _, _, _, _, _, _, _, _, _, _, _, _, _, _, _, _, _, _, _, _]) (us := [_, _, _, _, _, _, _, _, _, _, _]) P6.f5 sizeOf32 rfl rfl rfl (aC (by first | rfl | assumption) (aC (by first | rfl | assumption) (aC (by first | rfl | assumption) (aC (by first | rfl | assumption) (aC (by first | rfl | assumption) (aC (by first | rfl | assumption) (aC (by first | rfl | assumption) (aC (by first | rfl | assumption) (aC (by first | rfl | assumption) (aC (by first | rfl | assumption) (aC (by first | rfl | assumption) bU))))))))))) rfl rfl) ?_
    rintro _ ZB Ux
    have VZ := aB.kp (Ux.f7.f7.f7.f7.f7.f7.f7)
    refine fF VZ (by kernel_rfl) ?_
    refine pU (aj (ah (aO rfl (aO rfl (aO rfl (bP rfl (bg 13 underlying37 rfl sizeOf4 rfl (aG (aQ 13 (l' := [_, _, _, _, _, _, _, _, _, _, _, _, _, _, _, _, _, _, _, _, _, _, _, _, _, _, _, _, _, _, _, _, _, _]) Ux sizeOf4 rfl rfl (by first | rfl | assumption) rfl rfl) ?_))))))))
    rintro _ ZC Vk
    refine bP rfl (bg 14 underlying37 rfl sizeOf4 rfl (aG (aQ 14 (l' := [_, _, _, _, _, _, _, _, _, _, _, _, _, _, _, _, _, _, _, _, _, _, _, _, _, _, _, _, _, _, _, _, _, _]) Vk sizeOf4 rfl rfl (by first | rfl | assumption) rfl rfl) ?_))
    rintro _ w37 Xy
    refine bP rfl (bg 15 underlying37 rfl sizeOf3 rfl (aG (aQ 15 (l' := [_, _, _, _, _, _, _, _, _, _, _, _, _, _, _, _, _, _, _, _, _, _, _, _, _, _, _, _, _, _, _, _, _, _]) Xy sizeOf3 rfl rfl (by first | rfl | assumption) rfl rfl) ?_))
    rintro _ Vl Tn
    refine aA (fM (.inr rfl) results110 ?_)
    have Yx := Tn.f2
    have Yy := Yx.oI
    exact ⟨_, _, _, _, _, Yy.f4.f6.f3.f6.f6.f7.f7⟩
   ·skip
    refine kG 12 rfl (by kernel_rfl) (gU (wF .i64) NG) (oJ rfl) ?_
    rintro _ ZF ⟨b41, rfl, RH⟩
    have V3 := aB.kp (RH.f6.f6.f6.f6.f6.f6)
    refine dP V3 (fun W hW => (Kp.h hW).right.f5.f5.f5.f5.f5) ?_
    refine jQ 11 rfl (iG (l := [_, _]) RH rfl rfl) ?_
    rintro _ ZG ⟨b42, rfl, Uy⟩
    have La := aB.kp (Uy.f7.f7.f7.f7.f7.f7.f7)
    refine dP La (fun W hW => (Kp.h hW).right.f6.f6.f6.f6.f6.f6) ?_
    refine jc 18 rfl La (fun _ => eH (zl := [.pointer none, .pointer none, .pointer none, .map none, .int .i64 0, .bool false, .int .i64 0, .int .i64 0, .int .i64 0, .int .i64 0, .bool false]) (pl := [(0, 1), (1, 1), (2, 1), (3, 1), (4, 1), (5, 1), (6, 1), (7, 1), (8, 1), (9, 1), (10, 1)]) [_, _, _, _, _, _, _, _, _, _, _] underlying32 zeroValue32 rfl (fun w => by kernel_rfl) rfl (.one (by first | rfl | assumption) (.one (by first | rfl | assumption) (.one (by first | rfl | assumption) (.one (by first | rfl | assumption) (.one (by first | rfl | assumption) (.zero (zs := [.bool false]) rfl (.zero (zs := [.int .i64 0]) rfl (.zero (zs := [.int .i64 0]) rfl (.zero (zs := [.int .i64 0]) rfl (.zero (zs := [.int .i64 0]) rfl (.zero (zs := [.bool false]) rfl .nil))))))))))) rfl) ?_
    refine jF 19 rfl La rfl (gG 20 rfl La 0 underlying37 rfl sizeOf32 rfl ?_)
    refine fH 21 rfl (by kernel_rfl) (cZ 0 (l' := [_, _, _, _, _, _, _, _, _, _, _, _, _, _, _, _, _, _, _, _, _, _, _, _, _, _, _, _, _, _, _, _, _, _]) (us := [_, _, _, _, _, _, _, _, _, _, _]) Uy.f5 sizeOf32 rfl rfl rfl (aC (by first | rfl | assumption) (aC (by first | rfl | assumption) (aC (by first | rfl | assumption) (aC (by first | rfl | assumption) (aC (by first | rfl | assumption) (aC (by first | rfl | assumption) (aC (by first | rfl | assumption) (aC (by first | rfl | assumption) (aC (by first | rfl | assumption) (aC (by first | rfl | assumption) (aC (by first | rfl | assumption) bU))))))))))) rfl rfl) ?_
    rintro _ Xz Uz
    have V4 := aB.kp (Uz.f7.f7.f7.f7.f7.f7.f7)
    refine fF V4 (by kernel_rfl) ?_
    refine pU (aj (ah (aO rfl (aO rfl (aO rfl (bP rfl (bg 13 underlying37 rfl sizeOf4 rfl (aG (aQ 13 (l' := [_, _, _, _, _, _, _, _, _, _, _, _, _, _, _, _, _, _, _, _, _, _, _, _, _, _, _, _, _, _, _, _, _, _]) Uz sizeOf4 rfl rfl (by first | rfl | assumption) rfl rfl) ?_))))))))
    rintro _ ZH Tq
    refine bP rfl (bg 14 underlying37 rfl sizeOf4 rfl (aG (aQ 14 (l' := [_, _, _, _, _, _, _, _, _, _, _, _, _, _, _, _, _, _, _, _, _, _, _, _, _, _, _, _, _, _, _, _, _, _]) Tq sizeOf4 rfl rfl (by first | rfl | assumption) rfl rfl) ?_))
    rintro _ WZ RI
    refine bP rfl (bg 15 underlying37 rfl sizeOf3 rfl (aG (aQ 15 (l' := [_, _, _, _, _, _, _, _, _, _, _, _, _, _, _, _, _, _, _, _, _, _, _, _, _, _, _, _, _, _, _, _, _, _]) RI sizeOf3 rfl rfl (by first | rfl | assumption) rfl rfl) ?_))
    rintro _ ZI Vm
    refine aA (fM (.inr rfl) results110 ?_)
    have Yz := Vm.f3
    have YA := Yz.oI
    exact ⟨_, _, _, _, _, YA.f4.f6.f3.f6.f6.f7.f7⟩
  ·skip
   refine kG 12 rfl (by kernel_rfl) (gU (wF .i64) Jj) (oJ rfl) ?_
   rintro _ w49 ⟨b49, rfl, Xf⟩
   have V5 := aB.kp (Xf.f5.right.f5.f5.f5.f5.f5)
   refine dP V5 (fun W hW => (Kp.h hW).right.f4.f4.f4.f4) ?_
   refine jQ 8 rfl (wK rfl func102 (mD Xf.f5)) ?_
   rintro _ Z9 ⟨rfl, UH⟩
   have Si := aB.kp (UH.f6.f6.f6.f6.f6.f6)
   refine dP Si (fun W hW => (Kp.h hW).right.f5.f5.f5.f5.f5) ?_
   refine jc 10 rfl Si (fun _ => eH (zl := [.int .i64 0, .map none]) (pl := [(0, 1), (1, 1)]) [_, _] underlying85 zeroValue85 rfl (fun w => by kernel_rfl) rfl (.one (by first | rfl | assumption) (.one (by first | rfl | assumption) .nil)) rfl) ?_
   refine jQ 11 rfl (iG (l := [_, _]) UH rfl rfl) ?_
   rintro _ w51 ⟨b51, rfl, Ub⟩
   have Lc := aB.kp (Ub.f7.f7.f7.f7.f7.f7.f7)
   refine dP Lc (fun W hW => (Kp.h hW).right.f6.f6.f6.f6.f6.f6) ?_
   refine jc 18 rfl Lc (fun _ => eH (zl := [.pointer none, .pointer none, .pointer none, .map none, .int .i64 0, .bool false, .int .i64 0, .int .i64 0, .int .i64 0, .int .i64 0, .bool false]) (pl := [(0, 1), (1, 1), (2, 1), (3, 1), (4, 1), (5, 1), (6, 1), (7, 1), (8, 1), (9, 1), (10, 1)]) [_, _, _, _, _, _, _, _, _, _, _] underlying32 zeroValue32 rfl (fun w => by kernel_rfl) rfl (.one (by first | rfl | assumption) (.one (by first | rfl | assumption) (.one (by first | rfl | assumption) (.one (by first | rfl | assumption) (.one (by first | rfl | assumption) (.zero (zs := [.bool false]) rfl (.zero (zs := [.int .i64 0]) rfl (.zero (zs := [.int .i64 0]) rfl (.zero (zs := [.int .i64 0]) rfl (.zero (zs := [.int .i64 0]) rfl (.zero (zs := [.bool false]) rfl .nil))))))))))) rfl) ?_
   refine jF 19 rfl Lc rfl (gG 20 rfl Lc 0 underlying37 rfl sizeOf32 rfl ?_)
   refine fH 21 rfl (by kernel_rfl) (cZ 0 (l' := [_, _, _, _, _, _, _, _, _, _, _, _, _, _, _, _, _, _, _, _, _, _, _, _, _, _, _, _, _, _, _, _, _, _]) (us := [_, _, _, _, _, _, _, _, _, _, _]) Ub.f5 sizeOf32 rfl rfl rfl (aC (by first | rfl | assumption) (aC (by first | rfl | assumption) (aC (by first | rfl | assumption) (aC (by first | rfl | assumption) (aC (by first | rfl | assumption) (aC (by first | rfl | assumption) (aC (by first | rfl | assumption) (aC (by first | rfl | assumption) (aC (by first | rfl | assumption) (aC (by first | rfl | assumption) (aC (by first | rfl | assumption) bU))))))))))) rfl rfl) ?_
   rintro _ w52 Sj
   have V6 := aB.kp (Sj.f7.f7.f7.f7.f7.f7.f7)
   refine fF V6 (by kernel_rfl) ?_
   refine pU (aj (ah (aO rfl (aO rfl (aO rfl (bP rfl (bg 13 underlying37 rfl sizeOf4 rfl (aG (aQ 13 (l' := [_, _, _, _, _, _, _, _, _, _, _, _, _, _, _, _, _, _, _, _, _, _, _, _, _, _, _, _, _, _, _, _, _, _]) Sj sizeOf4 rfl rfl (by first | rfl | assumption) rfl rfl) ?_))))))))
   rintro _ w53 UJ
   refine bP rfl (bg 14 underlying37 rfl sizeOf4 rfl (aG (aQ 14 (l' := [_, _, _, _, _, _, _, _, _, _, _, _, _, _, _, _, _, _, _, _, _, _, _, _, _, _, _, _, _, _, _, _, _, _]) UJ sizeOf4 rfl rfl (by first | rfl | assumption) rfl rfl) ?_))
   rintro _ w54 YB
   refine bP rfl (bg 15 underlying37 rfl sizeOf3 rfl (aG (aQ 15 (l' := [_, _, _, _, _, _, _, _, _, _, _, _, _, _, _, _, _, _, _, _, _, _, _, _, _, _, _, _, _, _, _, _, _, _]) YB sizeOf3 rfl rfl (by first | rfl | assumption) rfl rfl) ?_))
   rintro _ w55 Xg
   refine aA (fM (.inr rfl) results110 ?_)
   have YC := Xg.f4
   have YD := YC.oI
   exact ⟨_, _, _, _, _, YD.f4.f6.f3.f6.f6.f7.f7⟩
 ·skip
  refine kG 12 rfl (by kernel_rfl) (gU (wF .i64) QN) (oJ rfl) ?_
  rintro _ w58 ⟨b58, rfl, QO⟩
  have V7 := aB.kp (QO.f4.right.f4.f4.f4.f4)
  refine dP V7 (fun W hW => (Kp.h hW).right.f3.f3.f3) ?_
  refine Bc (i := 8) (j := 9) (by kernel_rfl) ?_ ?_
  ·skip
   refine kG 8 rfl (by kernel_rfl) (wW (yV rfl func102 rfl rfl) (mD QO.f4)) (oJ rfl) ?_
   rintro _ w59 ⟨rfl, V8⟩
   have V9 := aB.kp (V8.f5.f5.f5.f5.f5)
   refine dP V9 (fun W hW => (Kp.h hW).right.f4.f4.f4.f4) ?_
   refine jQ 9 rfl (gU (wF .i64) V8) ?_
   rintro _ YE ⟨b60, rfl, UK⟩
   have Sl := aB.kp (UK.f6.f6.f6.f6.f6.f6)
   refine dP Sl (fun W hW => (Kp.h hW).right.f5.f5.f5.f5.f5) ?_
   refine jc 10 rfl Sl (fun _ => eH (zl := [.int .i64 0, .map none]) (pl := [(0, 1), (1, 1)]) [_, _] underlying85 zeroValue85 rfl (fun w => by kernel_rfl) rfl (.one (by first | rfl | assumption) (.one (by first | rfl | assumption) .nil)) rfl) ?_
   refine jQ 11 rfl (iG (l := [_, _]) UK rfl rfl) ?_
   rintro _ w61 ⟨b61, rfl, Xh⟩
   have Ld := aB.kp (Xh.f7.f7.f7.f7.f7.f7.f7)
   refine dP Ld (fun W hW => (Kp.h hW).right.f6.f6.f6.f6.f6.f6) ?_
   refine jc 18 rfl Ld (fun _ => eH (zl := [.pointer none, .pointer none, .pointer none, .map none, .int .i64 0, .bool false, .int .i64 0, .int .i64 0, .int .i64 0, .int .i64 0, .bool false]) (pl := [(0, 1), (1, 1), (2, 1), (3, 1), (4, 1), (5, 1), (6, 1), (7, 1), (8, 1), (9, 1), (10, 1)]) [_, _, _, _, _, _, _, _, _, _, _] underlying32 zeroValue32 rfl (fun w => by kernel_rfl) rfl (.one (by first | rfl | assumption) (.one (by first | rfl | assumption) (.one (by first | rfl | assumption) (.one (by first | rfl | assumption) (.one (by first | rfl | assumption) (.zero (zs := [.bool false]) rfl (.zero (zs := [.int .i64 0]) rfl (.zero (zs := [.int .i64 0]) rfl (.zero (zs := [.int .i64 0]) rfl (.zero (zs := [.int .i64 0]) rfl (.zero (zs := [.bool false]) rfl .nil))))))))))) rfl) ?_
   refine jF 19 rfl Ld rfl (gG 20 rfl Ld 0 underlying37 rfl sizeOf32 rfl ?_)
   refine fH 21 rfl (by kernel_rfl) (cZ 0 (l' := [_, _, _, _, _, _, _, _, _, _, _, _, _, _, _, _, _, _, _, _, _, _, _, _, _, _, _, _, _, _, _, _, _, _]) (us := [_, _, _, _, _, _, _, _, _, _, _]) Xh.f5 sizeOf32 rfl rfl rfl (aC (by first | rfl | assumption) (aC (by first | rfl | assumption) (aC (by first | rfl | assumption) (aC (by first | rfl | assumption) (aC (by first | rfl | assumption) (aC (by first | rfl | assumption) (aC (by first | rfl | assumption) (aC (by first | rfl | assumption) (aC (by first | rfl | assumption) (aC (by first | rfl | assumption) (aC (by first | rfl | assumption) bU))))))))))) rfl rfl) ?_
   rintro _ w62 Wh
   have Wi := aB.kp (Wh.f7.f7.f7.f7.f7.f7.f7)
   refine fF Wi (by kernel_rfl) ?_
   refine pU (aj (ah (aO rfl (aO rfl (aO rfl (bP rfl (bg 13 underlying37 rfl sizeOf4 rfl (aG (aQ 13 (l' := [_, _, _, _, _, _, _, _, _, _, _, _, _, _, _, _, _, _, _, _, _, _, _, _, _, _, _, _, _, _, _, _, _, _]) Wh sizeOf4 rfl rfl (by first | rfl | assumption) rfl rfl) ?_))))))))
   rintro _ w63 Wj
   refine bP rfl (bg 14 underlying37 rfl sizeOf4 rfl (aG (aQ 14 (l' := [_, _, _, _, _, _, _, _, _, _, _, _, _, _, _, _, _, _, _, _, _, _, _, _, _, _, _, _, _, _, _, _, _, _]) Wj sizeOf4 rfl rfl (by first | rfl | assumption) rfl rfl) ?_))
   rintro _ w64 Wn
   refine bP rfl (bg 15 underlying37 rfl sizeOf3 rfl (aG (aQ 15 (l' := [_, _, _, _, _, _, _, _, _, _, _, _, _, _, _, _, _, _, _, _, _, _, _, _, _, _, _, _, _, _, _, _, _, _]) Wn sizeOf3 rfl rfl (by first | rfl | assumption) rfl rfl) ?_))
   rintro _ w65 YF
   refine aA (fM (.inr rfl) results110 ?_)
   have YG := YF.f5
   have YH := YG.oI
   exact ⟨_, _, _, _, _, YH.f5.f6.f3.f6.f6.f7.f7⟩
  ·skip
   refine kG 9 rfl (by kernel_rfl) (gU (wF .i64) QO) (oJ rfl) ?_
   rintro _ w68 ⟨b68, rfl, Xi⟩
   have Wp := aB.kp (Xi.f5.right.f5.f5.f5.f5.f5)
   refine dP Wp (fun W hW => (Kp.h hW).right.f4.f4.f4.f4) ?_
   refine jQ 8 rfl (wK rfl func102 (mD Xi.f5)) ?_
   rintro _ w69 ⟨rfl, Xj⟩
   have Sm := aB.kp (Xj.f6.f6.f6.f6.f6.f6)
   refine dP Sm (fun W hW => (Kp.h hW).right.f5.f5.f5.f5.f5) ?_
   refine jc 10 rfl Sm (fun _ => eH (zl := [.int .i64 0, .map none]) (pl := [(0, 1), (1, 1)]) [_, _] underlying85 zeroValue85 rfl (fun w => by kernel_rfl) rfl (.one (by first | rfl | assumption) (.one (by first | rfl | assumption) .nil)) rfl) ?_
   refine jQ 11 rfl (iG (l := [_, _]) Xj rfl rfl) ?_
   rintro _ w70 ⟨b70, rfl, Wq⟩
   have Le := aB.kp (Wq.f7.f7.f7.f7.f7.f7.f7)
   refine dP Le (fun W hW => (Kp.h hW).right.f6.f6.f6.f6.f6.f6) ?_
   refine jc 18 rfl Le (fun _ => eH (zl := [.pointer none, .pointer none, .pointer none, .map none, .int .i64 0, .bool false, .int .i64 0, .int .i64 0, .int .i64 0, .int .i64 0, .bool false]) (pl := [(0, 1), (1, 1), (2, 1), (3, 1), (4, 1), (5, 1), (6, 1), (7, 1), (8, 1), (9, 1), (10, 1)]) [_, _, _, _, _, _, _, _, _, _, _] underlying32 zeroValue32 rfl (fun w => by kernel_rfl) rfl (.one (by first | rfl | assumption) (.one (by first | rfl | assumption) (.one (by first | rfl | assumption) (.one (by first | rfl | assumption) (.one (by first | rfl | assumption) (.zero (zs := [.bool false]) rfl (.zero (zs := [.int .i64 0]) rfl (.zero (zs := [.int .i64 0]) rfl (.zero (zs := [.int .i64 0]) rfl (.zero (zs := [.int .i64 0]) rfl (.zero (zs := [.bool false]) rfl .nil))))))))))) rfl) ?_
   refine jF 19 rfl Le rfl (gG 20 rfl Le 0 underlying37 rfl sizeOf32 rfl ?_)
   refine fH 21 rfl (by kernel_rfl) (cZ 0 (l' := [_, _, _, _, _, _, _, _, _, _, _, _, _, _, _, _, _, _, _, _, _, _, _, _, _, _, _, _, _, _, _, _, _, _]) (us := [_, _, _, _, _, _, _, _, _, _, _]) Wq.f5 sizeOf32 rfl rfl rfl (aC (by first | rfl | assumption) (aC (by first | rfl | assumption) (aC (by first | rfl | assumption) (aC (by first | rfl | assumption) (aC (by first | rfl | assumption) (aC (by first | rfl | assumption) (aC (by first | rfl | assumption) (aC (by first | rfl | assumption) (aC (by first | rfl | assumption) (aC (by first | rfl | assumption) (aC (by first | rfl | assumption) bU))))))))))) rfl rfl) ?_
   rintro _ w71 UL
   have Ws := aB.kp (UL.f7.f7.f7.f7.f7.f7.f7)
   refine fF Ws (by kernel_rfl) ?_
   refine pU (aj (ah (aO rfl (aO rfl (aO rfl (bP rfl (bg 13 underlying37 rfl sizeOf4 rfl (aG (aQ 13 (l' := [_, _, _, _, _, _, _, _, _, _, _, _, _, _, _, _, _, _, _, _, _, _, _, _, _, _, _, _, _, _, _, _, _, _]) UL sizeOf4 rfl rfl (by first | rfl | assumption) rfl rfl) ?_))))))))
   rintro _ w72 YI
   refine bP rfl (bg 14 underlying37 rfl sizeOf4 rfl (aG (aQ 14 (l' := [_, _, _, _, _, _, _, _, _, _, _, _, _, _, _, _, _, _, _, _, _, _, _, _, _, _, _, _, _, _, _, _, _, _]) YI sizeOf4 rfl rfl (by first | rfl | assumption) rfl rfl) ?_))
   rintro _ w73 YJ
   refine bP rfl (bg 15 underlying37 rfl sizeOf3 rfl (aG (aQ 15 (l' := [_, _, _, _, _, _, _, _, _, _, _, _, _, _, _, _, _, _, _, _, _, _, _, _, _, _, _, _, _, _, _, _, _, _]) YJ sizeOf3 rfl rfl (by first | rfl | assumption) rfl rfl) ?_))
   rintro _ w74 H74
   refine aA (fM (.inr rfl) results110 ?_)
   have YK := H74.f5
   have YL := YK.oI
   exact ⟨_, _, _, _, _, YL.f4.f6.f3.f6.f6.f7.f7⟩
theorem aB.xA {c : kN} {u : List Value} (H : aB w0 w F) (hu : (u.all fun x => x.oneCell') = true) : aB w0 w (qg false c u • F) := by
  unfold qg
  rw [if_neg (by decide)]
  exact H.jq hu
theorem ql {dN : Bool} {c : kN} {u : List Value} (H : aB w0 w (qg dN c u • F)) : (u.all fun x => x.oneCell') = true := by
  unfold qg at H
  cases dN with
  | true =>
    rw [if_pos rfl] at H
    obtain ⟨⟨pb, pr, pw, pt, pm⟩, H⟩ := H.lg
    obtain ⟨h, _⟩ := H.flat.fact
    rw [h]; rfl
  | false =>
    rw [if_neg (by decide)] at H
    exact H.fact.1
theorem aB.Uc {pb pr pw pt pm : Nat} {c : kN} (H : aB w0 w (dJ pb c.L c.pt c.mark • bY pr c.E c.at_ • dB pw (.cells #[.int .i64 c.place, .map (some pt)] 85 (0, 0)) • dY oz pt (vH c.tx) • sN pm c.un • F)) : aB w0 w (qg true c (KU pb pr pw pm c) • F) := by
  unfold qg
  rw [if_pos rfl]
  exact aB.gQ (pb, pr, pw, pt, pm) (aB.deep (aB.jq rfl (H.of_eq (by unfold JI; simp only [bT]))))
theorem aB.was {c : kN} {u : List Value} (H : aB w0 w (qg true c u • F)) : ∃ pb pr pw pt pm, u = KU pb pr pw pm c ∧ aB w0 w (dJ pb c.L c.pt c.mark • bY pr c.E c.at_ • dB pw (.cells #[.int .i64 c.place, .map (some pt)] 85 (0, 0)) • dY oz pt (vH c.tx) • sN pm c.un • F) := by
  unfold qg at H
  rw [if_pos rfl] at H
  obtain ⟨⟨pb, pr, pw, pt, pm⟩, H⟩ := H.lg
  obtain ⟨h, H⟩ := H.flat.fact
  exact ⟨pb, pr, pw, pt, pm, h, H.of_eq (by unfold JI; simp only [bT])⟩
theorem aB.CY {pb pr pw pt pm ph bl : Nat} {u0 u1 u2 u3 u4 u5 u6 u7 u8 u9 ua : Value} (h1 : jJ s) (hp : s.put = []) (H : aB w0 w (dB e (.cells (.pointer (some ⟨pb, 0, none⟩) :: .pointer (some ⟨pr, 0, none⟩) :: .pointer (some ⟨pw, 0, none⟩) :: .map (some pm) :: .int .i64 s.c.mode :: .bool s.c.over :: .int .i64 s.c.last :: .int .i64 s.c.fr :: .int .i64 s.c.to :: .int .i64 s.c.res :: .bool s.c.run :: .pointer (some ⟨ph, 0, none⟩) :: .pointer (some ⟨bl, 0, none⟩) :: .bool s.given :: .bool s.minus :: .int .i64 s.arg :: .bool s.dN :: u0 :: u1 :: u2 :: u3 :: u4 :: u5 :: u6 :: u7 :: u8 :: u9 :: ua :: .int .i64 s.cls :: .bool s.killed :: .bool s.jX :: .bool s.argues :: .bool s.whole :: .slice none 0 0 :: []).toArray 37 (0, 0)) • dJ pb s.c.L s.c.pt s.c.mark • bY pr s.c.E s.c.at_ • dB pw (.cells #[.int .i64 s.c.place, .map (some pt)] 85 (0, 0)) • dY oz pt (vH s.c.tx) • sN pm s.c.un • eG ph s.hl s.base s.most • dB bl (.cells #[.int .i64 s.vF] 106 (0, 0)) • qg s.dN s.was [u0, u1, u2, u3, u4, u5, u6, u7, u8, u9, ua] • F)) : aB w0 w (dw e s • F) := by
  refine aB.dF (pb := pb) (pr := pr) (pw := pw) (pt := pt) (pm := pm) (ph := ph) (bl := bl) (u0 := u0) (u1 := u1) (u2 := u2) (u3 := u3) (u4 := u4) (u5 := u5) (u6 := u6) (u7 := u7) (u8 := u8) (u9 := u9) (ua := ua) (pv := .slice none 0 0) (es := []) h1 (by rw [hp]; rfl) ?_
  rw [hp]
  exact (H.oh none).of_eq (by unfold DX; ac_rfl)
theorem aB.JV {pb pr pw pt pm ph bl : Nat} {u0 u1 u2 u3 u4 u5 u6 u7 u8 u9 ua : Value} (h1 : jJ s) (hp : s.put = []) (hi : s.dN = false) (H : aB w0 w (dB e (.cells (.pointer (some ⟨pb, 0, none⟩) :: .pointer (some ⟨pr, 0, none⟩) :: .pointer (some ⟨pw, 0, none⟩) :: .map (some pm) :: .int .i64 s.c.mode :: .bool s.c.over :: .int .i64 s.c.last :: .int .i64 s.c.fr :: .int .i64 s.c.to :: .int .i64 s.c.res :: .bool s.c.run :: .pointer (some ⟨ph, 0, none⟩) :: .pointer (some ⟨bl, 0, none⟩) :: .bool s.given :: .bool s.minus :: .int .i64 s.arg :: .bool false :: u0 :: u1 :: u2 :: u3 :: u4 :: u5 :: u6 :: u7 :: u8 :: u9 :: ua :: .int .i64 s.cls :: .bool s.killed :: .bool s.jX :: .bool s.argues :: .bool s.whole :: .slice none 0 0 :: []).toArray 37 (0, 0)) • dJ pb s.c.L s.c.pt s.c.mark • bY pr s.c.E s.c.at_ • dB pw (.cells #[.int .i64 s.c.place, .map (some pt)] 85 (0, 0)) • dY oz pt (vH s.c.tx) • sN pm s.c.un • eG ph s.hl s.base s.most • dB bl (.cells #[.int .i64 s.vF] 106 (0, 0)) • F)) (hu : ([u0, u1, u2, u3, u4, u5, u6, u7, u8, u9, ua].all fun x => x.oneCell') = true := by rfl) : aB w0 w (dw e s • F) := by
  refine aB.CY (pb := pb) (pr := pr) (pw := pw) (pt := pt) (pm := pm) (ph := ph) (bl := bl) (u0 := u0) (u1 := u1) (u2 := u2) (u3 := u3) (u4 := u4) (u5 := u5) (u6 := u6) (u7 := u7) (u8 := u8) (u9 := u9) (ua := ua) h1 hp ?_
  rw [hi]
  exact (H.xA (c := s.was) (u := [u0, u1, u2, u3, u4, u5, u6, u7, u8, u9, ua]) hu).of_eq (by ac_rfl)
theorem aB.O6 {pb pr pw pt pm ph bl : Nat} {u0 u1 u2 u3 u4 u5 u6 u7 u8 u9 ua : Value} {pv : Value} {es : List cO} (h1 : jJ s) (h2 : es.map cO.says = s.put) (H : aB w0 w (DX pv es • dB e (.cells (.pointer (some ⟨pb, 0, none⟩) :: .pointer (some ⟨pr, 0, none⟩) :: .pointer (some ⟨pw, 0, none⟩) :: .map (some pm) :: .int .i64 s.c.mode :: .bool s.c.over :: .int .i64 s.c.last :: .int .i64 s.c.fr :: .int .i64 s.c.to :: .int .i64 s.c.res :: .bool s.c.run :: .pointer (some ⟨ph, 0, none⟩) :: .pointer (some ⟨bl, 0, none⟩) :: .bool s.given :: .bool s.minus :: .int .i64 s.arg :: .bool s.dN :: u0 :: u1 :: u2 :: u3 :: u4 :: u5 :: u6 :: u7 :: u8 :: u9 :: ua :: .int .i64 s.cls :: .bool s.killed :: .bool s.jX :: .bool s.argues :: .bool s.whole :: pv :: []).toArray 37 (0, 0)) • dJ pb s.c.L s.c.pt s.c.mark • bY pr s.c.E s.c.at_ • dB pw (.cells #[.int .i64 s.c.place, .map (some pt)] 85 (0, 0)) • dY oz pt (vH s.c.tx) • sN pm s.c.un • eG ph s.hl s.base s.most • dB bl (.cells #[.int .i64 s.vF] 106 (0, 0)) • qg s.dN s.was [u0, u1, u2, u3, u4, u5, u6, u7, u8, u9, ua] • F)) : aB w0 w (dw e s • F) := by
  refine aB.dF (pb := pb) (pr := pr) (pw := pw) (pt := pt) (pm := pm) (ph := ph) (bl := bl) (u0 := u0) (u1 := u1) (u2 := u2) (u3 := u3) (u4 := u4) (u5 := u5) (u6 := u6) (u7 := u7) (u8 := u8) (u9 := u9) (ua := ua) (pv := pv) (es := es) h1 h2 ?_
  have hl : s.put.length = es.length := by rw [← h2]; simp
  rw [hl]
  exact H.of_eq (by unfold DX; ac_rfl)
theorem Iz (hl : List oG) (l : List Int) (E : List (List Int)) (a : Nat) (m : Int) : JJ hl (kN.fresh l E a hl.length m) := ⟨by simp [kN.fresh], by simp [kN.fresh], by simp [kN.fresh]⟩
theorem Ud (hl : List oG) (base most : Int) : jJ (aZ.new hl base most) :=
  ⟨Iz _ _ _ _ _, by simp [aZ.new], by simp [aZ.new], by simp [aZ.new], by simp [aZ.new, aZ.here, kN.fresh, dR], by simp [aZ.new, kN.fresh]⟩
theorem CZ (H : aB w0 w (eG h hl base most • F)) : fA prog 40 #[.pointer (some ⟨h, 0, none⟩)] w fun v w' => ∃ e, v = .tuple #[.pointer (some ⟨e, 0, none⟩), .int .i64 0] ∧ aB w0 w' (dw e (aZ.new hl base most) • eG h hl base most • F) := by
 refine fU func40 ntmps40 ?_
 dsimp only [aY, Nat.reduceAdd]
 refine ay (ah (aU rfl (aU rfl (aA (aj (ay (ay (ah (aO rfl (bZ rfl func45 (mF H) ?_))))))))))
 rintro _ w1 ⟨q1, rfl, H1⟩
 refine aW (eu underlying33 rfl rfl) (aA (aj (aN rfl (fun h => by exfalso; (try simp only [aH] at h); simp at h) (fun h1 => ?_))))
 (try simp only [aH] at h1)
 refine aP (aj (ay (ah (aW (eH (zl := [.int .i64 0]) (pl := [(0, 0), (0, 0), (0, 1)]) [_] underlying106 zeroValue106 rfl (fun w => by kernel_rfl) rfl (.zero (zs := []) rfl (.zero (zs := []) rfl (.zero (zs := [.int .i64 0]) rfl .nil))) rfl) (ji (iG (l := [_]) H1 rfl rfl) ?_)))))
 rintro _ w2 ⟨b2, rfl, H2⟩
 refine aW (eH (zl := [.pointer none, .pointer none, .pointer none, .map none, .int .i64 0, .bool false, .int .i64 0, .int .i64 0, .int .i64 0, .int .i64 0, .bool false, .pointer none, .pointer none, .bool false, .bool false, .int .i64 0, .bool false, .pointer none, .pointer none, .pointer none, .map none, .int .i64 0, .bool false, .int .i64 0, .int .i64 0, .int .i64 0, .int .i64 0, .bool false, .int .i64 0, .bool false, .bool false, .bool false, .bool false, .slice none 0 0]) (pl := [(0, 11), (11, 1), (12, 1), (13, 1), (14, 1), (15, 1), (16, 1), (17, 11), (28, 1), (29, 1), (30, 1), (31, 1), (32, 1), (33, 1)]) [_, _, _, _, _, _, _, _, _, _, _, _, _, _, _, _, _, _, _, _, _, _, _, _, _, _, _, _, _, _, _, _, _, _] underlying37 zeroValue37 rfl (fun w => by kernel_rfl) rfl (.zero (zs := [.pointer none, .pointer none, .pointer none, .map none, .int .i64 0, .bool false, .int .i64 0, .int .i64 0, .int .i64 0, .int .i64 0, .bool false]) rfl (.zero (zs := [.pointer none]) rfl (.one (by first | rfl | assumption) (.zero (zs := [.bool false]) rfl (.zero (zs := [.bool false]) rfl (.zero (zs := [.int .i64 0]) rfl (.zero (zs := [.bool false]) rfl (.zero (zs := [.pointer none, .pointer none, .pointer none, .map none, .int .i64 0, .bool false, .int .i64 0, .int .i64 0, .int .i64 0, .int .i64 0, .bool false]) rfl (.zero (zs := [.int .i64 0]) rfl (.zero (zs := [.bool false]) rfl (.zero (zs := [.bool false]) rfl (.zero (zs := [.bool false]) rfl (.zero (zs := [.bool false]) rfl (.zero (zs := [.slice none 0 0]) rfl .nil)))))))))))))) rfl) ?_
 refine ji (iG (l := [_, _, _, _, _, _, _, _, _, _, _, _, _, _, _, _, _, _, _, _, _, _, _, _, _, _, _, _, _, _, _, _, _, _]) H2 rfl rfl) ?_
 rintro _ w3 ⟨b3, rfl, H3⟩
 refine aU rfl (aA (aj (ay (ah (aO rfl (bZ rfl func109 (FI H3) ?_))))))
 rintro _ w4 ⟨p4, rfl, H4⟩
 refine bP rfl (bg 0 underlying37 rfl sizeOf32 rfl (bg 1 underlying32 rfl sizeOf28 rfl (aG (aQ 1 (l' := [_, _, _, _, _, _, _, _, _, _, _, _, _, _, _, _, _, _, _, _, _, _, _, _, _, _, _, _, _, _, _, _, _, _]) H4.f2 sizeOf28 rfl rfl (by first | rfl | assumption) rfl rfl) ?_)))
 rintro _ w5 H5
 refine aA (aj (ay (ah (aO rfl (aO rfl (bZ rfl func110 (wU (E := []) (a := 0) H5.f4.right.f3.f3.f4.f4 (l := []) (fun W _ => jR.nil W _ none 0 (by decide)) (by decide)) ?_))))))
 rintro _ w6 ⟨qb, qw, qt, qm, qh, H6⟩
 refine aA (aj (ay (ah (aO rfl (aU rfl (aU rfl (aA (aj (aJ (kX (.inl rfl) results40 rfl rfl ?_))))))))))
 exact ⟨_, rfl, aB.JV (s := aZ.new hl base most) (Ud _ _ _) rfl rfl H6.f7.f9.f8.f8.f8.f8.f9.f9.f9⟩
end
end Go.Proofs.YtgndbccogcofjaaGreatDoor
end
section
namespace Go.Proofs.YtgndbccogcofjaaGreatDoor
open Go.RowKit
open _root_.Go.Proofs.Tryz
section
variable {w0 w : World} {F : HP} {e p h pr : Nat} {s : aZ} {hl : List oG} {base most m : Int} {v : Value} {l : List Int}
theorem sQ (h : s.dN = false) : s.bF = { s with dN := true, was := s.c, cls := 0, killed := false, jX := false, argues := false, whole := true, put := [] } := by unfold aZ.bF; rw [if_neg (by simp [h])]
theorem JW (h : s.dN = true) : s.bF = s := by unfold aZ.bF; rw [if_pos h]
theorem Lh {G : List (List dU)} {N : List dU} (h : dR G N ≤ 16384) : dR G [] ≤ 16384 := by unfold dR at *; simp at *; omega
theorem O7 (h : jJ s) (hi : s.dN = false) : jJ s.bF := by
  rw [sQ hi]
  obtain ⟨h1, h2, h3, h4, h5, h6⟩ := h
  exact ⟨h1, fun _ => ⟨h1, Lh h5, h6⟩, h3, by simp, Lh h5, h6⟩
theorem yI (H : aB w0 w (dw e s • F)) : fA prog 26 #[.pointer (some ⟨e, 0, none⟩)] w fun v w' => v = .int .i64 s.zk ∧ aB w0 w' (dw e s.bF • F) := by
 refine fU func26 ntmps26 ?_
 dsimp only [aY, Nat.reduceAdd]
 refine ay (ah (aU rfl (aA (aj (ay (bC (ay (ah (aO rfl (bZ rfl func32 (ku H) ?_))))))))))
 rintro _ _ ⟨rfl, rfl⟩
 refine aU rfl (aA (aj (oK (ay ?_))))
 obtain ⟨qy, qA, qB, qC, qE, qF, qG, qH, oH, mP, mQ, mV, mW, mX, mY, mZ, ng, ni, ny, nC, dD, bG, fZ, dG⟩ := (H).AA
 refine ah (aO rfl (bP rfl (bg 16 underlying37 rfl sizeOf4 rfl (dS underlying4 rfl (dG).get.2 rfl (aU rfl (aA (aj (aN rfl (fun h1 => ?_) (fun h1 => ?_)))))))))
 ·(try simp only [aH] at h1)
  try (exfalso; first | contradiction | omega)
  all_goals
   have hin := h1
   refine ay (ah (aU rfl (aA (aj (aJ (aV (aK (aI (.inl rfl) results26 rfl ?_))))))))
   exact ⟨by unfold aZ.zk; rw [if_pos hin], by rw [JW hin]; exact aB.dF dD bG dG.f11.f11.f11.f11.f11.f11.f11.f11.f11.f11.f11⟩
 ·(try simp only [aH] at h1)
  try (exfalso; first | contradiction | omega)
  all_goals
   have hin := h1
   refine aP (aS (aj (ay (ah (aO rfl (aO rfl (aO rfl (bP rfl (bg 0 underlying37 rfl sizeOf32 rfl (aW (qL 0 (xs := [_, _, _, _, _, _, _, _, _, _, _]) underlying32 rfl sizeOf32 rfl rfl (dG).get.2 rfl) (bZ rfl func44 (Iw dG.f6.f6.f6.f6.f6) ?_)))))))))))
   rintro _ w3 ⟨qb3, qr3, qw3, qt3, qm3, rfl, H3⟩
   refine bP rfl (bg 16 underlying37 rfl sizeOf4 rfl (aG (aQ 16 (l' := [_, _, _, _, _, _, _, _, _, _, _, _, _, _, _, _, _, _, _, _, _, _, _, _, _, _, _, _, _, _, _, _, _, _]) H3.f11 sizeOf4 rfl rfl (by first | rfl | assumption) rfl rfl) ?_))
   rintro _ w4 H4
   refine bP rfl (bg 17 underlying37 rfl sizeOf32 rfl (aG (cZ 17 (l' := [_, _, _, _, _, _, _, _, _, _, _, _, _, _, _, _, _, _, _, _, _, _, _, _, _, _, _, _, _, _, _, _, _, _]) (us := [_, _, _, _, _, _, _, _, _, _, _]) H4 sizeOf32 rfl rfl rfl (aC (by first | rfl | assumption) (aC (by first | rfl | assumption) (aC (by first | rfl | assumption) (aC (by first | rfl | assumption) (aC (by first | rfl | assumption) (aC (by first | rfl | assumption) (aC (by first | rfl | assumption) (aC (by first | rfl | assumption) (aC (by first | rfl | assumption) (aC (by first | rfl | assumption) (aC (by first | rfl | assumption) bU))))))))))) rfl rfl) ?_))
   rintro _ w5 H5
   refine aA (aj (ay (ah (aO rfl (aO rfl (aO rfl (aO rfl (aO rfl (aO rfl (bP rfl (bg 28 underlying37 rfl sizeOf3 rfl (aG (aQ 28 (l' := [_, _, _, _, _, _, _, _, _, _, _, _, _, _, _, _, _, _, _, _, _, _, _, _, _, _, _, _, _, _, _, _, _, _]) H5 sizeOf3 rfl rfl (by first | rfl | assumption) rfl rfl) ?_))))))))))))
   rintro _ w6 H6
   refine bP rfl (bg 29 underlying37 rfl sizeOf4 rfl (aG (aQ 29 (l' := [_, _, _, _, _, _, _, _, _, _, _, _, _, _, _, _, _, _, _, _, _, _, _, _, _, _, _, _, _, _, _, _, _, _]) H6 sizeOf4 rfl rfl (by first | rfl | assumption) rfl rfl) ?_))
   rintro _ w7 H7
   refine bP rfl (bg 30 underlying37 rfl sizeOf4 rfl (aG (aQ 30 (l' := [_, _, _, _, _, _, _, _, _, _, _, _, _, _, _, _, _, _, _, _, _, _, _, _, _, _, _, _, _, _, _, _, _, _]) H7 sizeOf4 rfl rfl (by first | rfl | assumption) rfl rfl) ?_))
   rintro _ w8 H8
   refine bP rfl (bg 31 underlying37 rfl sizeOf4 rfl (aG (aQ 31 (l' := [_, _, _, _, _, _, _, _, _, _, _, _, _, _, _, _, _, _, _, _, _, _, _, _, _, _, _, _, _, _, _, _, _, _]) H8 sizeOf4 rfl rfl (by first | rfl | assumption) rfl rfl) ?_))
   rintro _ w9 H9
   refine bP rfl (bg 32 underlying37 rfl sizeOf4 rfl (aG (aQ 32 (l' := [_, _, _, _, _, _, _, _, _, _, _, _, _, _, _, _, _, _, _, _, _, _, _, _, _, _, _, _, _, _, _, _, _, _]) H9 sizeOf4 rfl rfl (by first | rfl | assumption) rfl rfl) ?_))
   rintro _ w10 mJ
   refine bP rfl (bg 33 underlying37 rfl sizeOf35 rfl (aG (aQ 33 (l' := [_, _, _, _, _, _, _, _, _, _, _, _, _, _, _, _, _, _, _, _, _, _, _, _, _, _, _, _, _, _, _, _, _, _]) mJ sizeOf35 rfl rfl (by first | rfl | assumption) rfl rfl) ?_))
   rintro _ He uO
   refine aA (aj (ay (ah (aU rfl (aA (aj (aJ (aI (.inl rfl) results26 rfl ?_))))))))
   have JR := uO.f6.f6.f6.f6.f6
   have JU := aB.Uc (c := s.c) JR
   exact ⟨by unfold aZ.zk; rw [if_neg (by simp [hin])], by rw [sQ hin]; exact aB.CY (sQ hin ▸ O7 dD hin) rfl JU.f10.right.f10.right.f10.right.f9.f9.f9.f9.f9.f9.f9.f9⟩
end
end Go.Proofs.YtgndbccogcofjaaGreatDoor
end
section
namespace Go.Proofs.YtgndbccogcofjaaGreatDoor
open Go.RowKit
open _root_.Go.Proofs.Tryz
section
variable {w0 w : World} {F : HP} {e p h pr : Nat} {s : aZ} {x : Int} {b : Bool}
theorem sS (h : jJ s) (L : List Int) (pt mk : Int) : jJ (s.iD L pt mk) := h
theorem zU (H : aB w0 w (dw e s • F)) : fA prog 42 #[.pointer (some ⟨e, 0, none⟩), .int .i64 x] w fun v w' => v = .int .i64 (s.qc x) ∧ aB w0 w' (dw e (s.kP x) • F) := by
 refine fU func42 ntmps42 ?_
 dsimp only [aY, Nat.reduceAdd]
 refine ay (ah (aU rfl (aA (aj (ay (ay (ah (aO rfl (bZ rfl func94 (jm H) ?_)))))))))
 rintro _ _ ⟨rfl, rfl⟩
 refine aU rfl (aA (aj (ay (ah (aO rfl (aW (dK rfl rfl) (aA (aj (aN rfl (fun h1 => ?_) (fun h1 => ?_))))))))))
 ·(try simp only [aH] at h1)
  obtain ⟨hin, hpe⟩ := yG h1
  refine ay (ah (aO rfl (aU rfl (aA (aj (aJ (aK (aI (.inl rfl) results42 rfl ?_))))))))
  rw [hpe]
  exact ⟨by simp [aZ.qc, aZ.kP, hin], by rw [show s.kP x = s from by simp [aZ.qc, aZ.kP, hin]]; exact H⟩
 ·(try simp only [aH] at h1)
  have hin := vI h1
  refine aP (aj (ay ?_))
  obtain ⟨qy, qA, qB, qC, qE, qF, qG, qH, oH, mP, mQ, mV, mW, mX, mY, mZ, ng, ni, ny, nC, dD, bG, fZ, dG⟩ := (H).AA
  refine ah (aO rfl (bP rfl (bg 0 underlying37 rfl sizeOf32 rfl (bg 0 underlying32 rfl sizeOf27 rfl (dS underlying27 rfl (dG).get.2 rfl (aO rfl (bZ rfl func111 (FD dG.f2) ?_)))))))
  rintro _ w3 ⟨rfl, H3⟩
  refine aU rfl (aA (aj (aJ (aI (.inl rfl) results42 rfl ?_))))
  exact ⟨by simp [aZ.qc, hin], by rw [show s.kP x = s.iD s.c.L (Qs s.c.L.length s.c.pt x) s.c.mark from by simp [aZ.kP, hin]]; exact aB.dF (sS dD _ _ _) bG H3.f11.f11.f11.f11.f11.f11.f11.f11.f11.f10.f11⟩
theorem F8 (H : aB w0 w (dw e s • F)) : fA prog 28 #[.pointer (some ⟨e, 0, none⟩)] w fun v w' => v = .int .i64 s.count ∧ aB w0 w' (dw e s • F) := by
 refine fU func28 ntmps28 ?_
 dsimp only [aY, Nat.reduceAdd]
 refine ay (ah (aU rfl (aA (aj (ay (bC (ay (ah (aO rfl (bZ rfl func32 (ku H) ?_))))))))))
 rintro _ _ ⟨rfl, rfl⟩
 refine aU rfl (aA (aj (oK (ay ?_))))
 obtain ⟨qy, qA, qB, qC, qE, qF, qG, qH, oH, mP, mQ, mV, mW, mX, mY, mZ, ng, ni, ny, nC, dD, bG, fZ, dG⟩ := (H).AA
 have harg := dD.2.2.1
 refine ah (aO rfl (bP rfl (bg 13 underlying37 rfl sizeOf4 rfl (dS underlying4 rfl (dG).get.2 rfl (aW (jS rfl) (aU rfl (aA (aj (aN rfl (fun h1 => ?_) (fun h1 => ?_))))))))))
 ·(try simp only [aH] at h1)
  have hg := h1
  refine ay (ah (aU rfl (aA (aj (aJ (aV (aK (aI (.inl rfl) results28 rfl ?_))))))))
  have Ou := dG.f11.f11.f11.f11.f11.f11.f11.f11.f11.f11.f11
  have Ov := aB.dF (s := s) dD bG Ou
  exact ⟨by unfold aZ.count; simp only [*]; first | rfl | (split <;> simp_all <;> omega) | simp_all, Ov⟩
 ·(try simp only [aH] at h1)
  have hg := h1
  refine aP (aS (aj (ay (ah (aO rfl (bP rfl (bg 15 underlying37 rfl sizeOf3 rfl (dS underlying3 rfl (dG).get.2 rfl (aU rfl (aA (aj (ay (ay (ah (aO rfl (aW (fE rfl rfl) (aA (aj (aN rfl (fun h2 => ?_) (fun h2 => ?_))))))))))))))))))))
  ·(try simp only [aH] at h2)
   refine ah (aU rfl (aA (aj (ay (ay (ah (aO rfl (bP rfl (bg 14 underlying37 rfl sizeOf4 rfl (dS underlying4 rfl (dG).get.2 rfl (aA (aj (aN rfl (fun h3 => ?_) (fun h3 => ?_))))))))))))))
   ·(try simp only [aH] at h3)
    refine ay (ah (aO rfl (aW (Kv rfl (by omega)) (aU rfl (aA (aj (aJ (aK (aI (.inl rfl) results28 rfl ?_)))))))))
    have TJ := dG.f11.f11.f11.f11.f11.f11.f11.f11.f11.f11.f11
    have TK := aB.dF (s := s) dD bG TJ
    exact ⟨by unfold aZ.count; simp only [*]; first | rfl | (split <;> simp_all <;> omega) | simp_all, TK⟩
   ·(try simp only [aH] at h3)
    refine aP (aj (ay (ah (aO rfl (aU rfl (aA (aj (aJ (aI (.inl rfl) results28 rfl ?_)))))))))
    have TN := dG.f11.f11.f11.f11.f11.f11.f11.f11.f11.f11.f11
    have TP := aB.dF (s := s) dD bG TN
    exact ⟨by unfold aZ.count; simp only [*]; first | rfl | (split <;> simp_all <;> omega) | simp_all, TP⟩
  ·(try simp only [aH] at h2)
   refine aP (aj (ay (ay (ah (aO rfl (bP rfl (bg 14 underlying37 rfl sizeOf4 rfl (dS underlying4 rfl (dG).get.2 rfl (aA (aj (aN rfl (fun h4 => ?_) (fun h4 => ?_))))))))))))
   ·(try simp only [aH] at h4)
    refine ay (ah (aO rfl (aW (Kv rfl (by omega)) (aU rfl (aA (aj (aJ (aK (aI (.inl rfl) results28 rfl ?_)))))))))
    have YM := dG.f11.f11.f11.f11.f11.f11.f11.f11.f11.f11.f11
    have YN := aB.dF (s := s) dD bG YM
    exact ⟨by unfold aZ.count; simp only [*]; first | rfl | (split <;> simp_all <;> omega) | simp_all, YN⟩
   ·(try simp only [aH] at h4)
    refine aP (aj (ay (ah (aO rfl (aU rfl (aA (aj (aJ (aI (.inl rfl) results28 rfl ?_)))))))))
    have YO := dG.f11.f11.f11.f11.f11.f11.f11.f11.f11.f11.f11
    have YP := aB.dF (s := s) dD bG YO
    exact ⟨by unfold aZ.count; simp only [*]; first | rfl | (split <;> simp_all <;> omega) | simp_all, YP⟩
theorem F9 (H : aB w0 w (dw e s • F)) : fA prog 29 #[.pointer (some ⟨e, 0, none⟩)] w fun v w' => v = .bool s.given ∧ aB w0 w' (dw e s • F) := by
 refine fU func29 ntmps29 ?_
 dsimp only [aY, Nat.reduceAdd]
 refine ay (ah (aU rfl (aA (aj (ay (ah (aO rfl (bZ rfl func32 (ku H) ?_))))))))
 rintro _ _ ⟨rfl, rfl⟩
 refine aW (jS rfl) ?_
 obtain ⟨qy, qA, qB, qC, qE, qF, qG, qH, oH, mP, mQ, mV, mW, mX, mY, mZ, ng, ni, ny, nC, dD, bG, fZ, dG⟩ := (H).AA
 refine gB rfl (fun h1 => ?_) (fun h => by exfalso; (try simp only [aH] at h); simp at h)
 (try simp only [aH] at h1)
 refine bf (aO rfl (bf (bP rfl (bf (bg 13 underlying37 rfl sizeOf4 rfl (bf (dS underlying4 rfl (dG).get.2 rfl (fQ rfl rfl (aU rfl (aA (aj (aJ (aI (.inl rfl) results29 rfl ?_)))))))))))))
 have Ou := dG.f11.f11.f11.f11.f11.f11.f11.f11.f11.f11.f11
 have Ov := aB.dF (s := s) dD bG Ou
 exact ⟨rfl, Ov⟩
theorem jo (H : aB w0 w (dw e s • F)) : fA prog 21 #[.pointer (some ⟨e, 0, none⟩)] w fun v w' => ∃ u, v = .agg (pq u s.c.pt s.c.mark) ∧ aB w0 w' (iL 21 .i32 u s.c.L • dw e s • F) := by
 refine fU func21 ntmps21 ?_
 dsimp only [aY, Nat.reduceAdd]
 refine ay (ah (ji (fV (l := [_, _, _]) H zeroValue53 rfl) ?_))
 rintro _ w1 ⟨b1, rfl, H1⟩
 refine aA (aj (ay (ay (ah (aO rfl (bZ rfl func32 (ku H1.f2) ?_))))))
 rintro _ _ ⟨rfl, rfl⟩
 refine aA (aj (oK (aP (aj (ay ?_)))))
 obtain ⟨qy, qA, qB, qC, qE, qF, qG, qH, oH, mP, mQ, mV, mW, mX, mY, mZ, ng, ni, ny, nC, dD, bG, fZ, dG⟩ := (H1.f2).AA
 refine ah (aO rfl (bP rfl (bg 0 underlying37 rfl sizeOf32 rfl (bg 0 underlying32 rfl sizeOf27 rfl (dS underlying27 rfl (dG).get.2 rfl (bZ rfl func43 (FH dG.f2) ?_))))))
 rintro _ w4 ⟨u4, rfl, H4⟩
 refine aG (cZ 0 (l' := [_, _, _]) (us := [_, _, _]) H4.f13 sizeOf53 rfl rfl rfl (aC (by first | rfl | exact Rd.one ((H4).aT)) (aC (by first | rfl | assumption) (aC (by first | rfl | assumption) bU))) rfl rfl) ?_
 rintro _ w5 H5
 refine aA (aj (aJ ?_))
 refine sZ (.inl rfl) (NV results21 rfl underlying53 rfl (by rw [show (prog.info? 53).map (·.size) = some 3 from by kernel_rfl]; rfl) (H5).get.2) ?_
 have TJ := H5.f13.f13.f13.f13.f13.f13.f13.f13.f13.f12.f13
 have TK := aB.dF (s := s) dD bG TJ
 exact ⟨_, rfl, TK.f2.right.f2⟩
end
end Go.Proofs.YtgndbccogcofjaaGreatDoor
end
