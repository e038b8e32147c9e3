import Derived.Test.YtddekefihgejoaaGreatDoorZ2
import Derived.Test.YtddekefihgejoaaGreatDoorZ10
set_option linter.unusedSimpArgs false
set_option linter.unusedVariables false
/- Texts of mine, joined, their names in short: EdB EdC EdMv. -/
section
namespace Go.Proofs.YtddekefihgejoaaGreatDoor
open Go.RowKit
open _root_.Go.Proofs.Tryz
section
variable {w0 w : World} {F : HP} {e p h pr : Nat} {s : bG} {hl : List kZ} {base most m : Int} {v : Value} {l : List Int}
theorem aB.o8 {b : Nat} (H : aB w0 w (dQ kW b (fun _ => none) • F)) : aB w0 w (pF b (fun _ => []) • F) :=
  aB.wW (D := []) (P := fun _ => 0) List.nodup_nil (fun _ _ => rfl) (by rw [MQ]; exact H.of_eq (by show _ = (_ • emp • _); rw [YtddekefihgejoaaGreatDoor.jd]))
set_option maxHeartbeats 1000000 in
theorem xM {x0 x2 x3 x5 x6 x7 x8 x9 x10 x11 x12 zn x14 x15 x16 x17 x18 x19 x20 x21 yE x23 x24 x25 yF x27 x28 x29 x30 x31 x32 AU : Value} {E : List (List Int)} {a : Nat} (H : aB w0 w (bY e (.cells (x0 :: .pointer (some ⟨pr, 0, none⟩) :: x2 :: x3 :: .int .i64 m :: x5 :: x6 :: x7 :: x8 :: x9 :: x10 :: x11 :: x12 :: zn :: x14 :: x15 :: x16 :: x17 :: x18 :: x19 :: x20 :: x21 :: yE :: x23 :: x24 :: x25 :: yF :: x27 :: x28 :: x29 :: x30 :: x31 :: x32 :: AU :: []).toArray 69 (0, 0)) • dh h hl base most • F)) (hr : iT w0 F .i32 v l) (hshort : l.length ≤ 1024) :
  fE prog 79 #[.pointer (some ⟨e, 0, none⟩), .pointer (some ⟨h, 0, none⟩), v] w fun _ w' => ∃ pb pw pt pm ph, aB w0 w' (bY e (.cells (.pointer (some ⟨pb, 0, none⟩) :: .pointer (some ⟨pr, 0, none⟩) :: .pointer (some ⟨pw, 0, none⟩) :: .map (some pm) :: .int .i64 m :: .bool false :: .int .i64 0 :: .int .i64 0 :: .int .i64 0 :: .int .i64 0 :: .bool false :: .pointer (some ⟨ph, 0, none⟩) :: x12 :: .bool false :: .bool false :: .int .i64 (-1) :: x16 :: x17 :: x18 :: x19 :: x20 :: x21 :: yE :: x23 :: x24 :: x25 :: yF :: x27 :: x28 :: x29 :: x30 :: x31 :: x32 :: AU :: []).toArray 69 (0, 0)) •
   dI pb l l.length (-1) • bY pw (.cells #[.int .i64 hl.length, .map (some pt)] 125 (0, 0)) • dQ kW pt (fun _ => none) • pF pm (fun _ => []) • dh ph hl base most • dh h hl base most • F) := by
 refine gy func79 ntmps79 ?_
 dsimp only [aY, Nat.reduceAdd]
 refine ay (ah (aN rfl (dw rfl func87 (AA H (fun W HW => hr _ (HW.right.right)) hshort) ?_)))
 rintro _ w1 ⟨p1, rfl, H1⟩
 refine aN rfl (yA rfl rfl (yA rfl rfl (aV rfl (aV rfl (aA (aj (ay (ah (aN rfl (aN rfl (dw rfl func77 (nO H1.f3) ?_)))))))))))
 rintro _ w2 ⟨q2, rfl, H2⟩
 refine bP rfl (bg 11 underlying69 rfl sizeOf65 rfl (aG (aS 11 (l' := [_, _, _, _, _, _, _, _, _, _, _, _, _, _, _, _, _, _, _, _, _, _, _, _, _, _, _, _, _, _, _, _, _, _]) H2.f4 sizeOf65 rfl rfl (by first | rfl | assumption) rfl rfl) ?_))
 rintro _ w3 H3
 refine aA (aj (ay ?_))
 have TS := H3.drew
 have sF := aB.kp (TS.f3.right.f3.f3.f3)
 refine vV [6, 17] sF rfl (gQ 0 rfl sF rfl (gQ 1 rfl sF rfl (gQ 2 rfl sF rfl (iQ 3 rfl sF rfl (dR 4 rfl sF 0 underlying69 rfl sizeOf64 rfl (dR 5 rfl sF 1 underlying64 rfl sizeOf60 rfl (gY 6 rfl sF (fun W hW => iH underlying60 rfl ((Kp.h hW)).get.2 rfl) (gQ 7 rfl sF rfl (gQ 13 rfl sF rfl (iQ 14 rfl sF rfl (dR 15 rfl sF 0 underlying69 rfl sizeOf64 rfl (dR 16 rfl sF 4 underlying64 rfl sizeOf3 rfl (gY 17 rfl sF (fun W hW => iH underlying3 rfl ((Kp.h hW)).get.2 rfl) ?_)))))))))))))
 refine Po (i := 8) (j := 9) (k := 12) (by kernel_rfl) ?_ ?_ ?_
 ·skip
  refine gU 8 rfl (by kernel_rfl) (qL (qO rfl func84 rfl rfl) (jq TS.f3)) (lT rfl) ?_
  rintro _ w4 ⟨rfl, H4⟩
  have uj := aB.kp (H4.f4.f4.f4.f4)
  refine bT uj (fun W hW => (Kp.h hW).right.f3.f3.f3) ?_
  refine sO (i := 9) (j := 12) (by kernel_rfl) ?_ ?_
  ·skip
   refine gU 9 rfl (by kernel_rfl) (iO (xu .i64) H4) (lT rfl) ?_
   rintro _ w5 ⟨b5, rfl, H5⟩
   have uq := aB.kp (H5.f5.f5.f5.f5.f5)
   refine bT uq (fun W hW => (Kp.h hW).right.f4.f4.f4.f4) ?_
   refine iJ 10 rfl uq (fun _ => cO (zl := [.int .i64 0, .map none]) (pl := [(0, 1), (1, 1)]) [_, _] underlying125 zeroValue125 rfl (fun w => by kernel_rfl) rfl (.one (by first | rfl | assumption) (.one (by first | rfl | assumption) .nil)) rfl) ?_
   refine sO (i := 11) (j := 12) (by kernel_rfl) ?_ ?_
   ·skip
    refine gU 11 rfl (by kernel_rfl) (iw (l := [_, _]) H5 rfl rfl) (lT rfl) ?_
    rintro _ w6 ⟨b6, rfl, H6⟩
    have BJ := aB.kp (H6.f6.f6.f6.f6.f6.f6)
    refine bT BJ (fun W hW => (Kp.h hW).right.f5.f5.f5.f5.f5) ?_
    refine jk 12 rfl (iO (xu .i64) H6) ?_
    rintro _ w7 ⟨b7, rfl, H7⟩
    have xq := aB.kp (H7.f7.f7.f7.f7.f7.f7.f7)
    refine bT xq (fun W hW => (Kp.h hW).right.f6.f6.f6.f6.f6.f6) ?_
    refine iJ 18 rfl xq (fun _ => cO (zl := [.pointer none, .pointer none, .pointer none, .map none, .int .i64 0, .bool false, .int .i64 0, .int .i64 0, .int .i64 0, .int .i64 0, .bool false]) (pl := [(0, 1), (1, 1), (2, 1), (3, 1), (4, 1), (5, 1), (6, 1), (7, 1), (8, 1), (9, 1), (10, 1)]) [_, _, _, _, _, _, _, _, _, _, _] underlying64 zeroValue64 rfl (fun w => by kernel_rfl) rfl (.one (by first | rfl | assumption) (.one (by first | rfl | assumption) (.one (by first | rfl | assumption) (.one (by first | rfl | assumption) (.one (by first | rfl | assumption) (.zero (zs := [.bool false]) rfl (.zero (zs := [.int .i64 0]) rfl (.zero (zs := [.int .i64 0]) rfl (.zero (zs := [.int .i64 0]) rfl (.zero (zs := [.int .i64 0]) rfl (.zero (zs := [.bool false]) rfl .nil))))))))))) rfl) ?_
    refine iQ 19 rfl xq rfl (dR 20 rfl xq 0 underlying69 rfl sizeOf64 rfl ?_)
    refine dJ 21 rfl (by kernel_rfl) (bn 0 (l' := [_, _, _, _, _, _, _, _, _, _, _, _, _, _, _, _, _, _, _, _, _, _, _, _, _, _, _, _, _, _, _, _, _, _]) (us := [_, _, _, _, _, _, _, _, _, _, _]) H7.f5 sizeOf64 rfl rfl rfl (aC (by first | rfl | assumption) (aC (by first | rfl | assumption) (aC (by first | rfl | assumption) (aC (by first | rfl | assumption) (aC (by first | rfl | assumption) (aC (by first | rfl | assumption) (aC (by first | rfl | assumption) (aC (by first | rfl | assumption) (aC (by first | rfl | assumption) (aC (by first | rfl | assumption) (aC (by first | rfl | assumption) aZ))))))))))) rfl rfl) ?_
    rintro _ w8 H8
    have IV := aB.kp (H8.f7.f7.f7.f7.f7.f7.f7)
    refine dN IV (by kernel_rfl) ?_
    refine nT (aj (ah (aN rfl (aN rfl (aN rfl (bP rfl (bg 13 underlying69 rfl sizeOf4 rfl (aG (aS 13 (l' := [_, _, _, _, _, _, _, _, _, _, _, _, _, _, _, _, _, _, _, _, _, _, _, _, _, _, _, _, _, _, _, _, _, _]) H8 sizeOf4 rfl rfl (by first | rfl | assumption) rfl rfl) ?_))))))))
    rintro _ w9 H9
    refine bP rfl (bg 14 underlying69 rfl sizeOf4 rfl (aG (aS 14 (l' := [_, _, _, _, _, _, _, _, _, _, _, _, _, _, _, _, _, _, _, _, _, _, _, _, _, _, _, _, _, _, _, _, _, _]) H9 sizeOf4 rfl rfl (by first | rfl | assumption) rfl rfl) ?_))
    rintro _ w10 qH
    refine bP rfl (bg 15 underlying69 rfl sizeOf3 rfl (aG (aS 15 (l' := [_, _, _, _, _, _, _, _, _, _, _, _, _, _, _, _, _, _, _, _, _, _, _, _, _, _, _, _, _, _, _, _, _, _]) qH sizeOf3 rfl rfl (by first | rfl | assumption) rfl rfl) ?_))
    rintro _ Hr uQ
    refine aA (fU (.inr rfl) results79 ?_)
    have KR := uQ.f2
    have KT := KR.o8
    exact ⟨_, _, _, _, _, KT.f5.f6.f3.f6.f6.f7.f7⟩
   ·skip
    refine gU 12 rfl (by kernel_rfl) (iO (xu .i64) H5) (lT rfl) ?_
    rintro _ NZ ⟨b14, rfl, yB⟩
    have IW := aB.kp (yB.f6.f6.f6.f6.f6.f6)
    refine bT IW (fun W hW => (Kp.h hW).right.f5.f5.f5.f5.f5) ?_
    refine jk 11 rfl (iw (l := [_, _]) yB rfl rfl) ?_
    rintro _ PY ⟨b15, rfl, wC⟩
    have vS := aB.kp (wC.f7.f7.f7.f7.f7.f7.f7)
    refine bT vS (fun W hW => (Kp.h hW).right.f6.f6.f6.f6.f6.f6) ?_
    refine iJ 18 rfl vS (fun _ => cO (zl := [.pointer none, .pointer none, .pointer none, .map none, .int .i64 0, .bool false, .int .i64 0, .int .i64 0, .int .i64 0, .int .i64 0, .bool false]) (pl := [(0, 1), (1, 1), (2, 1), (3, 1), (4, 1), (5, 1), (6, 1), (7, 1), (8, 1), (9, 1), (10, 1)]) [_, _, _, _, _, _, _, _, _, _, _] underlying64 zeroValue64 rfl (fun w => by kernel_rfl) rfl (.one (by first | rfl | assumption) (.one (by first | rfl | assumption) (.one (by first | rfl | assumption) (.one (by first | rfl | assumption) (.one (by first | rfl | assumption) (.zero (zs := [.bool false]) rfl (.zero (zs := [.int .i64 0]) rfl (.zero (zs := [.int .i64 0]) rfl (.zero (zs := [.int .i64 0]) rfl (.zero (zs := [.int .i64 0]) rfl (.zero (zs := [.bool false]) rfl .nil))))))))))) rfl) ?_
    refine iQ 19 rfl vS rfl (dR 20 rfl vS 0 underlying69 rfl sizeOf64 rfl ?_)
    refine dJ 21 rfl (by kernel_rfl) (bn 0 (l' := [_, _, _, _, _, _, _, _, _, _, _, _, _, _, _, _, _, _, _, _, _, _, _, _, _, _, _, _, _, _, _, _, _, _]) (us := [_, _, _, _, _, _, _, _, _, _, _]) wC.f5 sizeOf64 rfl rfl rfl (aC (by first | rfl | assumption) (aC (by first | rfl | assumption) (aC (by first | rfl | assumption) (aC (by first | rfl | assumption) (aC (by first | rfl | assumption) (aC (by first | rfl | assumption) (aC (by first | rfl | assumption) (aC (by first | rfl | assumption) (aC (by first | rfl | assumption) (aC (by first | rfl | assumption) (aC (by first | rfl | assumption) aZ))))))))))) rfl rfl) ?_
    rintro _ w16 qY
    have y8 := aB.kp (qY.f7.f7.f7.f7.f7.f7.f7)
    refine dN y8 (by kernel_rfl) ?_
    refine nT (aj (ah (aN rfl (aN rfl (aN rfl (bP rfl (bg 13 underlying69 rfl sizeOf4 rfl (aG (aS 13 (l' := [_, _, _, _, _, _, _, _, _, _, _, _, _, _, _, _, _, _, _, _, _, _, _, _, _, _, _, _, _, _, _, _, _, _]) qY sizeOf4 rfl rfl (by first | rfl | assumption) rfl rfl) ?_))))))))
    rintro _ Tz yC
    refine bP rfl (bg 14 underlying69 rfl sizeOf4 rfl (aG (aS 14 (l' := [_, _, _, _, _, _, _, _, _, _, _, _, _, _, _, _, _, _, _, _, _, _, _, _, _, _, _, _, _, _, _, _, _, _]) yC sizeOf4 rfl rfl (by first | rfl | assumption) rfl rfl) ?_))
    rintro _ Sv zB
    refine bP rfl (bg 15 underlying69 rfl sizeOf3 rfl (aG (aS 15 (l' := [_, _, _, _, _, _, _, _, _, _, _, _, _, _, _, _, _, _, _, _, _, _, _, _, _, _, _, _, _, _, _, _, _, _]) zB sizeOf3 rfl rfl (by first | rfl | assumption) rfl rfl) ?_))
    rintro _ PZ uY
    refine aA (fU (.inr rfl) results79 ?_)
    have Z5 := uY.f3
    have Z7 := Z5.o8
    exact ⟨_, _, _, _, _, Z7.f5.f6.f3.f6.f6.f7.f7⟩
  ·skip
   refine gU 12 rfl (by kernel_rfl) (iO (xu .i64) H4) (lT rfl) ?_
   rintro _ Xf ⟨b22, rfl, JX⟩
   have zi := aB.kp (JX.f5.f5.f5.f5.f5)
   refine bT zi (fun W hW => (Kp.h hW).right.f4.f4.f4.f4) ?_
   refine jk 9 rfl (iO (xu .i64) JX) ?_
   rintro _ O7 ⟨b23, rfl, rV⟩
   have AP := aB.kp (rV.f6.f6.f6.f6.f6.f6)
   refine bT AP (fun W hW => (Kp.h hW).right.f5.f5.f5.f5.f5) ?_
   refine iJ 10 rfl AP (fun _ => cO (zl := [.int .i64 0, .map none]) (pl := [(0, 1), (1, 1)]) [_, _] underlying125 zeroValue125 rfl (fun w => by kernel_rfl) rfl (.one (by first | rfl | assumption) (.one (by first | rfl | assumption) .nil)) rfl) ?_
   refine jk 11 rfl (iw (l := [_, _]) rV rfl rfl) ?_
   rintro _ YN ⟨b24, rfl, SA⟩
   have DW := aB.kp (SA.f7.f7.f7.f7.f7.f7.f7)
   refine bT DW (fun W hW => (Kp.h hW).right.f6.f6.f6.f6.f6.f6) ?_
   refine iJ 18 rfl DW (fun _ => cO (zl := [.pointer none, .pointer none, .pointer none, .map none, .int .i64 0, .bool false, .int .i64 0, .int .i64 0, .int .i64 0, .int .i64 0, .bool false]) (pl := [(0, 1), (1, 1), (2, 1), (3, 1), (4, 1), (5, 1), (6, 1), (7, 1), (8, 1), (9, 1), (10, 1)]) [_, _, _, _, _, _, _, _, _, _, _] underlying64 zeroValue64 rfl (fun w => by kernel_rfl) rfl (.one (by first | rfl | assumption) (.one (by first | rfl | assumption) (.one (by first | rfl | assumption) (.one (by first | rfl | assumption) (.one (by first | rfl | assumption) (.zero (zs := [.bool false]) rfl (.zero (zs := [.int .i64 0]) rfl (.zero (zs := [.int .i64 0]) rfl (.zero (zs := [.int .i64 0]) rfl (.zero (zs := [.int .i64 0]) rfl (.zero (zs := [.bool false]) rfl .nil))))))))))) rfl) ?_
   refine iQ 19 rfl DW rfl (dR 20 rfl DW 0 underlying69 rfl sizeOf64 rfl ?_)
   refine dJ 21 rfl (by kernel_rfl) (bn 0 (l' := [_, _, _, _, _, _, _, _, _, _, _, _, _, _, _, _, _, _, _, _, _, _, _, _, _, _, _, _, _, _, _, _, _, _]) (us := [_, _, _, _, _, _, _, _, _, _, _]) SA.f5 sizeOf64 rfl rfl rfl (aC (by first | rfl | assumption) (aC (by first | rfl | assumption) (aC (by first | rfl | assumption) (aC (by first | rfl | assumption) (aC (by first | rfl | assumption) (aC (by first | rfl | assumption) (aC (by first | rfl | assumption) (aC (by first | rfl | assumption) (aC (by first | rfl | assumption) (aC (by first | rfl | assumption) (aC (by first | rfl | assumption) aZ))))))))))) rfl rfl) ?_
   rintro _ Xg IC
   have QV := aB.kp (IC.f7.f7.f7.f7.f7.f7.f7)
   refine dN QV (by kernel_rfl) ?_
   refine nT (aj (ah (aN rfl (aN rfl (aN rfl (bP rfl (bg 13 underlying69 rfl sizeOf4 rfl (aG (aS 13 (l' := [_, _, _, _, _, _, _, _, _, _, _, _, _, _, _, _, _, _, _, _, _, _, _, _, _, _, _, _, _, _, _, _, _, _]) IC sizeOf4 rfl rfl (by first | rfl | assumption) rfl rfl) ?_))))))))
   rintro _ YO Me
   refine bP rfl (bg 14 underlying69 rfl sizeOf4 rfl (aG (aS 14 (l' := [_, _, _, _, _, _, _, _, _, _, _, _, _, _, _, _, _, _, _, _, _, _, _, _, _, _, _, _, _, _, _, _, _, _]) Me sizeOf4 rfl rfl (by first | rfl | assumption) rfl rfl) ?_))
   rintro _ YP Ht
   refine bP rfl (bg 15 underlying69 rfl sizeOf3 rfl (aG (aS 15 (l' := [_, _, _, _, _, _, _, _, _, _, _, _, _, _, _, _, _, _, _, _, _, _, _, _, _, _, _, _, _, _, _, _, _, _]) Ht sizeOf3 rfl rfl (by first | rfl | assumption) rfl rfl) ?_))
   rintro _ YQ SB
   refine aA (fU (.inr rfl) results79 ?_)
   have VO := SB.f4
   have VP := VO.o8
   exact ⟨_, _, _, _, _, VP.f5.f6.f3.f6.f6.f7.f7⟩
 ·skip
  refine gU 9 rfl (by kernel_rfl) (iO (xu .i64) TS) (lT rfl) ?_
  rintro _ Wq ⟨b31, rfl, JZ⟩
  have QW := aB.kp (JZ.f4.right.f4.f4.f4.f4)
  refine bT QW (fun W hW => (Kp.h hW).right.f3.f3.f3) ?_
  refine sO (i := 8) (j := 12) (by kernel_rfl) ?_ ?_
  ·skip
   refine gU 8 rfl (by kernel_rfl) (qL (qO rfl func84 rfl rfl) (jq JZ.f4)) (lT rfl) ?_
   rintro _ w32 ⟨rfl, Et⟩
   have MS := aB.kp (Et.f5.f5.f5.f5.f5)
   refine bT MS (fun W hW => (Kp.h hW).right.f4.f4.f4.f4) ?_
   refine iJ 10 rfl MS (fun _ => cO (zl := [.int .i64 0, .map none]) (pl := [(0, 1), (1, 1)]) [_, _] underlying125 zeroValue125 rfl (fun w => by kernel_rfl) rfl (.one (by first | rfl | assumption) (.one (by first | rfl | assumption) .nil)) rfl) ?_
   refine sO (i := 11) (j := 12) (by kernel_rfl) ?_ ?_
   ·skip
    refine gU 11 rfl (by kernel_rfl) (iw (l := [_, _]) Et rfl rfl) (lT rfl) ?_
    rintro _ YS ⟨b33, rfl, Kw⟩
    have MV := aB.kp (Kw.f6.f6.f6.f6.f6.f6)
    refine bT MV (fun W hW => (Kp.h hW).right.f5.f5.f5.f5.f5) ?_
    refine jk 12 rfl (iO (xu .i64) Kw) ?_
    rintro _ YX ⟨b34, rfl, MW⟩
    have AV := aB.kp (MW.f7.f7.f7.f7.f7.f7.f7)
    refine bT AV (fun W hW => (Kp.h hW).right.f6.f6.f6.f6.f6.f6) ?_
    refine iJ 18 rfl AV (fun _ => cO (zl := [.pointer none, .pointer none, .pointer none, .map none, .int .i64 0, .bool false, .int .i64 0, .int .i64 0, .int .i64 0, .int .i64 0, .bool false]) (pl := [(0, 1), (1, 1), (2, 1), (3, 1), (4, 1), (5, 1), (6, 1), (7, 1), (8, 1), (9, 1), (10, 1)]) [_, _, _, _, _, _, _, _, _, _, _] underlying64 zeroValue64 rfl (fun w => by kernel_rfl) rfl (.one (by first | rfl | assumption) (.one (by first | rfl | assumption) (.one (by first | rfl | assumption) (.one (by first | rfl | assumption) (.one (by first | rfl | assumption) (.zero (zs := [.bool false]) rfl (.zero (zs := [.int .i64 0]) rfl (.zero (zs := [.int .i64 0]) rfl (.zero (zs := [.int .i64 0]) rfl (.zero (zs := [.int .i64 0]) rfl (.zero (zs := [.bool false]) rfl .nil))))))))))) rfl) ?_
    refine iQ 19 rfl AV rfl (dR 20 rfl AV 0 underlying69 rfl sizeOf64 rfl ?_)
    refine dJ 21 rfl (by kernel_rfl) (bn 0 (l' := [_, _, _, _, _, _, _, _, _, _, _, _, _, _, _, _, _, _, _, _, _, _, _, _, _, _, _, _, _, _, _, _, _, _]) (us := [_, _, _, _, _, _, _, _, _, _, _]) MW.f5 sizeOf64 rfl rfl rfl (aC (by first | rfl | assumption) (aC (by first | rfl | assumption) (aC (by first | rfl | assumption) (aC (by first | rfl | assumption) (aC (by first | rfl | assumption) (aC (by first | rfl | assumption) (aC (by first | rfl | assumption) (aC (by first | rfl | assumption) (aC (by first | rfl | assumption) (aC (by first | rfl | assumption) (aC (by first | rfl | assumption) aZ))))))))))) rfl rfl) ?_
    rintro _ Z8 TT
    have QX := aB.kp (TT.f7.f7.f7.f7.f7.f7.f7)
    refine dN QX (by kernel_rfl) ?_
    refine nT (aj (ah (aN rfl (aN rfl (aN rfl (bP rfl (bg 13 underlying69 rfl sizeOf4 rfl (aG (aS 13 (l' := [_, _, _, _, _, _, _, _, _, _, _, _, _, _, _, _, _, _, _, _, _, _, _, _, _, _, _, _, _, _, _, _, _, _]) TT sizeOf4 rfl rfl (by first | rfl | assumption) rfl rfl) ?_))))))))
    rintro _ w36 Wy
    refine bP rfl (bg 14 underlying69 rfl sizeOf4 rfl (aG (aS 14 (l' := [_, _, _, _, _, _, _, _, _, _, _, _, _, _, _, _, _, _, _, _, _, _, _, _, _, _, _, _, _, _, _, _, _, _]) Wy sizeOf4 rfl rfl (by first | rfl | assumption) rfl rfl) ?_))
    rintro _ w37 UU
    refine bP rfl (bg 15 underlying69 rfl sizeOf3 rfl (aG (aS 15 (l' := [_, _, _, _, _, _, _, _, _, _, _, _, _, _, _, _, _, _, _, _, _, _, _, _, _, _, _, _, _, _, _, _, _, _]) UU sizeOf3 rfl rfl (by first | rfl | assumption) rfl rfl) ?_))
    rintro _ YZ KU
    refine aA (fU (.inr rfl) results79 ?_)
    have Z9 := KU.f2
    have aac := Z9.o8
    exact ⟨_, _, _, _, _, aac.f4.f6.f3.f6.f6.f7.f7⟩
   ·skip
    refine gU 12 rfl (by kernel_rfl) (iO (xu .i64) Et) (lT rfl) ?_
    rintro _ w41 ⟨b41, rfl, TU⟩
    have QY := aB.kp (TU.f6.f6.f6.f6.f6.f6)
    refine bT QY (fun W hW => (Kp.h hW).right.f5.f5.f5.f5.f5) ?_
    refine jk 11 rfl (iw (l := [_, _]) TU rfl rfl) ?_
    rintro _ w42 ⟨b42, rfl, SC⟩
    have Fh := aB.kp (SC.f7.f7.f7.f7.f7.f7.f7)
    refine bT Fh (fun W hW => (Kp.h hW).right.f6.f6.f6.f6.f6.f6) ?_
    refine iJ 18 rfl Fh (fun _ => cO (zl := [.pointer none, .pointer none, .pointer none, .map none, .int .i64 0, .bool false, .int .i64 0, .int .i64 0, .int .i64 0, .int .i64 0, .bool false]) (pl := [(0, 1), (1, 1), (2, 1), (3, 1), (4, 1), (5, 1), (6, 1), (7, 1), (8, 1), (9, 1), (10, 1)]) [_, _, _, _, _, _, _, _, _, _, _] underlying64 zeroValue64 rfl (fun w => by kernel_rfl) rfl (.one (by first | rfl | assumption) (.one (by first | rfl | assumption) (.one (by first | rfl | assumption) (.one (by first | rfl | assumption) (.one (by first | rfl | assumption) (.zero (zs := [.bool false]) rfl (.zero (zs := [.int .i64 0]) rfl (.zero (zs := [.int .i64 0]) rfl (.zero (zs := [.int .i64 0]) rfl (.zero (zs := [.int .i64 0]) rfl (.zero (zs := [.bool false]) rfl .nil))))))))))) rfl) ?_
    refine iQ 19 rfl Fh rfl (dR 20 rfl Fh 0 underlying69 rfl sizeOf64 rfl ?_)
    refine dJ 21 rfl (by kernel_rfl) (bn 0 (l' := [_, _, _, _, _, _, _, _, _, _, _, _, _, _, _, _, _, _, _, _, _, _, _, _, _, _, _, _, _, _, _, _, _, _]) (us := [_, _, _, _, _, _, _, _, _, _, _]) SC.f5 sizeOf64 rfl rfl rfl (aC (by first | rfl | assumption) (aC (by first | rfl | assumption) (aC (by first | rfl | assumption) (aC (by first | rfl | assumption) (aC (by first | rfl | assumption) (aC (by first | rfl | assumption) (aC (by first | rfl | assumption) (aC (by first | rfl | assumption) (aC (by first | rfl | assumption) (aC (by first | rfl | assumption) (aC (by first | rfl | assumption) aZ))))))))))) rfl rfl) ?_
    rintro _ Y0 SE
    have QZ := aB.kp (SE.f7.f7.f7.f7.f7.f7.f7)
    refine dN QZ (by kernel_rfl) ?_
    refine nT (aj (ah (aN rfl (aN rfl (aN rfl (bP rfl (bg 13 underlying69 rfl sizeOf4 rfl (aG (aS 13 (l' := [_, _, _, _, _, _, _, _, _, _, _, _, _, _, _, _, _, _, _, _, _, _, _, _, _, _, _, _, _, _, _, _, _, _]) SE sizeOf4 rfl rfl (by first | rfl | assumption) rfl rfl) ?_))))))))
    rintro _ w44 UW
    refine bP rfl (bg 14 underlying69 rfl sizeOf4 rfl (aG (aS 14 (l' := [_, _, _, _, _, _, _, _, _, _, _, _, _, _, _, _, _, _, _, _, _, _, _, _, _, _, _, _, _, _, _, _, _, _]) UW sizeOf4 rfl rfl (by first | rfl | assumption) rfl rfl) ?_))
    rintro _ Y1 J3
    refine bP rfl (bg 15 underlying69 rfl sizeOf3 rfl (aG (aS 15 (l' := [_, _, _, _, _, _, _, _, _, _, _, _, _, _, _, _, _, _, _, _, _, _, _, _, _, _, _, _, _, _, _, _, _, _]) J3 sizeOf3 rfl rfl (by first | rfl | assumption) rfl rfl) ?_))
    rintro _ w46 H46
    refine aA (fU (.inr rfl) results79 ?_)
    have aad := H46.f3
    have aae := aad.o8
    exact ⟨_, _, _, _, _, aae.f4.f6.f3.f6.f6.f7.f7⟩
  ·skip
   refine gU 12 rfl (by kernel_rfl) (iO (xu .i64) JZ) (lT rfl) ?_
   rintro _ w49 ⟨b49, rfl, Y2⟩
   have XY := aB.kp (Y2.f5.right.f5.f5.f5.f5.f5)
   refine bT XY (fun W hW => (Kp.h hW).right.f4.f4.f4.f4) ?_
   refine jk 8 rfl (rP rfl func84 (jq Y2.f5)) ?_
   rintro _ w50 ⟨rfl, WA⟩
   have UY := aB.kp (WA.f6.f6.f6.f6.f6.f6)
   refine bT UY (fun W hW => (Kp.h hW).right.f5.f5.f5.f5.f5) ?_
   refine iJ 10 rfl UY (fun _ => cO (zl := [.int .i64 0, .map none]) (pl := [(0, 1), (1, 1)]) [_, _] underlying125 zeroValue125 rfl (fun w => by kernel_rfl) rfl (.one (by first | rfl | assumption) (.one (by first | rfl | assumption) .nil)) rfl) ?_
   refine jk 11 rfl (iw (l := [_, _]) WA rfl rfl) ?_
   rintro _ w51 ⟨b51, rfl, VQ⟩
   have MX := aB.kp (VQ.f7.f7.f7.f7.f7.f7.f7)
   refine bT MX (fun W hW => (Kp.h hW).right.f6.f6.f6.f6.f6.f6) ?_
   refine iJ 18 rfl MX (fun _ => cO (zl := [.pointer none, .pointer none, .pointer none, .map none, .int .i64 0, .bool false, .int .i64 0, .int .i64 0, .int .i64 0, .int .i64 0, .bool false]) (pl := [(0, 1), (1, 1), (2, 1), (3, 1), (4, 1), (5, 1), (6, 1), (7, 1), (8, 1), (9, 1), (10, 1)]) [_, _, _, _, _, _, _, _, _, _, _] underlying64 zeroValue64 rfl (fun w => by kernel_rfl) rfl (.one (by first | rfl | assumption) (.one (by first | rfl | assumption) (.one (by first | rfl | assumption) (.one (by first | rfl | assumption) (.one (by first | rfl | assumption) (.zero (zs := [.bool false]) rfl (.zero (zs := [.int .i64 0]) rfl (.zero (zs := [.int .i64 0]) rfl (.zero (zs := [.int .i64 0]) rfl (.zero (zs := [.int .i64 0]) rfl (.zero (zs := [.bool false]) rfl .nil))))))))))) rfl) ?_
   refine iQ 19 rfl MX rfl (dR 20 rfl MX 0 underlying69 rfl sizeOf64 rfl ?_)
   refine dJ 21 rfl (by kernel_rfl) (bn 0 (l' := [_, _, _, _, _, _, _, _, _, _, _, _, _, _, _, _, _, _, _, _, _, _, _, _, _, _, _, _, _, _, _, _, _, _]) (us := [_, _, _, _, _, _, _, _, _, _, _]) VQ.f5 sizeOf64 rfl rfl rfl (aC (by first | rfl | assumption) (aC (by first | rfl | assumption) (aC (by first | rfl | assumption) (aC (by first | rfl | assumption) (aC (by first | rfl | assumption) (aC (by first | rfl | assumption) (aC (by first | rfl | assumption) (aC (by first | rfl | assumption) (aC (by first | rfl | assumption) (aC (by first | rfl | assumption) (aC (by first | rfl | assumption) aZ))))))))))) rfl rfl) ?_
   rintro _ w52 UZ
   have XZ := aB.kp (UZ.f7.f7.f7.f7.f7.f7.f7)
   refine dN XZ (by kernel_rfl) ?_
   refine nT (aj (ah (aN rfl (aN rfl (aN rfl (bP rfl (bg 13 underlying69 rfl sizeOf4 rfl (aG (aS 13 (l' := [_, _, _, _, _, _, _, _, _, _, _, _, _, _, _, _, _, _, _, _, _, _, _, _, _, _, _, _, _, _, _, _, _, _]) UZ sizeOf4 rfl rfl (by first | rfl | assumption) rfl rfl) ?_))))))))
   rintro _ w53 WB
   refine bP rfl (bg 14 underlying69 rfl sizeOf4 rfl (aG (aS 14 (l' := [_, _, _, _, _, _, _, _, _, _, _, _, _, _, _, _, _, _, _, _, _, _, _, _, _, _, _, _, _, _, _, _, _, _]) WB sizeOf4 rfl rfl (by first | rfl | assumption) rfl rfl) ?_))
   rintro _ w54 H54
   refine bP rfl (bg 15 underlying69 rfl sizeOf3 rfl (aG (aS 15 (l' := [_, _, _, _, _, _, _, _, _, _, _, _, _, _, _, _, _, _, _, _, _, _, _, _, _, _, _, _, _, _, _, _, _, _]) H54 sizeOf3 rfl rfl (by first | rfl | assumption) rfl rfl) ?_))
   rintro _ w55 Y3
   refine aA (fU (.inr rfl) results79 ?_)
   have aaf := Y3.f4
   have aag := aaf.o8
   exact ⟨_, _, _, _, _, aag.f4.f6.f3.f6.f6.f7.f7⟩
 ·skip
  refine gU 12 rfl (by kernel_rfl) (iO (xu .i64) TS) (lT rfl) ?_
  rintro _ w58 ⟨b58, rfl, TV⟩
  have X0 := aB.kp (TV.f4.right.f4.f4.f4.f4)
  refine bT X0 (fun W hW => (Kp.h hW).right.f3.f3.f3) ?_
  refine sO (i := 8) (j := 9) (by kernel_rfl) ?_ ?_
  ·skip
   refine gU 8 rfl (by kernel_rfl) (qL (qO rfl func84 rfl rfl) (jq TV.f4)) (lT rfl) ?_
   rintro _ w59 ⟨rfl, X3⟩
   have X5 := aB.kp (X3.f5.f5.f5.f5.f5)
   refine bT X5 (fun W hW => (Kp.h hW).right.f4.f4.f4.f4) ?_
   refine jk 9 rfl (iO (xu .i64) X3) ?_
   rintro _ w60 ⟨b60, rfl, WE⟩
   have U0 := aB.kp (WE.f6.f6.f6.f6.f6.f6)
   refine bT U0 (fun W hW => (Kp.h hW).right.f5.f5.f5.f5.f5) ?_
   refine iJ 10 rfl U0 (fun _ => cO (zl := [.int .i64 0, .map none]) (pl := [(0, 1), (1, 1)]) [_, _] underlying125 zeroValue125 rfl (fun w => by kernel_rfl) rfl (.one (by first | rfl | assumption) (.one (by first | rfl | assumption) .nil)) rfl) ?_
   refine jk 11 rfl (iw (l := [_, _]) WE rfl rfl) ?_
   rintro _ w61 ⟨b61, rfl, Y4⟩
   have MZ := aB.kp (Y4.f7.f7.f7.f7.f7.f7.f7)
   refine bT MZ (fun W hW => (Kp.h hW).right.f6.f6.f6.f6.f6.f6) ?_
   refine iJ 18 rfl MZ (fun _ => cO (zl := [.pointer none, .pointer none, .pointer none, .map none, .int .i64 0, .bool false, .int .i64 0, .int .i64 0, .int .i64 0, .int .i64 0, .bool false]) (pl := [(0, 1), (1, 1), (2, 1), (3, 1), (4, 1), (5, 1), (6, 1), (7, 1), (8, 1), (9, 1), (10, 1)]) [_, _, _, _, _, _, _, _, _, _, _] underlying64 zeroValue64 rfl (fun w => by kernel_rfl) rfl (.one (by first | rfl | assumption) (.one (by first | rfl | assumption) (.one (by first | rfl | assumption) (.one (by first | rfl | assumption) (.one (by first | rfl | assumption) (.zero (zs := [.bool false]) rfl (.zero (zs := [.int .i64 0]) rfl (.zero (zs := [.int .i64 0]) rfl (.zero (zs := [.int .i64 0]) rfl (.zero (zs := [.int .i64 0]) rfl (.zero (zs := [.bool false]) rfl .nil))))))))))) rfl) ?_
   refine iQ 19 rfl MZ rfl (dR 20 rfl MZ 0 underlying69 rfl sizeOf64 rfl ?_)
   refine dJ 21 rfl (by kernel_rfl) (bn 0 (l' := [_, _, _, _, _, _, _, _, _, _, _, _, _, _, _, _, _, _, _, _, _, _, _, _, _, _, _, _, _, _, _, _, _, _]) (us := [_, _, _, _, _, _, _, _, _, _, _]) Y4.f5 sizeOf64 rfl rfl rfl (aC (by first | rfl | assumption) (aC (by first | rfl | assumption) (aC (by first | rfl | assumption) (aC (by first | rfl | assumption) (aC (by first | rfl | assumption) (aC (by first | rfl | assumption) (aC (by first | rfl | assumption) (aC (by first | rfl | assumption) (aC (by first | rfl | assumption) (aC (by first | rfl | assumption) (aC (by first | rfl | assumption) aZ))))))))))) rfl rfl) ?_
   rintro _ w62 X6
   have X7 := aB.kp (X6.f7.f7.f7.f7.f7.f7.f7)
   refine dN X7 (by kernel_rfl) ?_
   refine nT (aj (ah (aN rfl (aN rfl (aN rfl (bP rfl (bg 13 underlying69 rfl sizeOf4 rfl (aG (aS 13 (l' := [_, _, _, _, _, _, _, _, _, _, _, _, _, _, _, _, _, _, _, _, _, _, _, _, _, _, _, _, _, _, _, _, _, _]) X6 sizeOf4 rfl rfl (by first | rfl | assumption) rfl rfl) ?_))))))))
   rintro _ w63 X8
   refine bP rfl (bg 14 underlying69 rfl sizeOf4 rfl (aG (aS 14 (l' := [_, _, _, _, _, _, _, _, _, _, _, _, _, _, _, _, _, _, _, _, _, _, _, _, _, _, _, _, _, _, _, _, _, _]) X8 sizeOf4 rfl rfl (by first | rfl | assumption) rfl rfl) ?_))
   rintro _ w64 X9
   refine bP rfl (bg 15 underlying69 rfl sizeOf3 rfl (aG (aS 15 (l' := [_, _, _, _, _, _, _, _, _, _, _, _, _, _, _, _, _, _, _, _, _, _, _, _, _, _, _, _, _, _, _, _, _, _]) X9 sizeOf3 rfl rfl (by first | rfl | assumption) rfl rfl) ?_))
   rintro _ w65 H65
   refine aA (fU (.inr rfl) results79 ?_)
   have aah := H65.f5
   have aai := aah.o8
   exact ⟨_, _, _, _, _, aai.f5.f6.f3.f6.f6.f7.f7⟩
  ·skip
   refine gU 9 rfl (by kernel_rfl) (iO (xu .i64) TV) (lT rfl) ?_
   rintro _ w68 ⟨b68, rfl, Y5⟩
   have Ya := aB.kp (Y5.f5.right.f5.f5.f5.f5.f5)
   refine bT Ya (fun W hW => (Kp.h hW).right.f4.f4.f4.f4) ?_
   refine jk 8 rfl (rP rfl func84 (jq Y5.f5)) ?_
   rintro _ w69 ⟨rfl, Y6⟩
   have U1 := aB.kp (Y6.f6.f6.f6.f6.f6.f6)
   refine bT U1 (fun W hW => (Kp.h hW).right.f5.f5.f5.f5.f5) ?_
   refine iJ 10 rfl U1 (fun _ => cO (zl := [.int .i64 0, .map none]) (pl := [(0, 1), (1, 1)]) [_, _] underlying125 zeroValue125 rfl (fun w => by kernel_rfl) rfl (.one (by first | rfl | assumption) (.one (by first | rfl | assumption) .nil)) rfl) ?_
   refine jk 11 rfl (iw (l := [_, _]) Y6 rfl rfl) ?_
   rintro _ w70 ⟨b70, rfl, Yb⟩
   have Na := aB.kp (Yb.f7.f7.f7.f7.f7.f7.f7)
   refine bT Na (fun W hW => (Kp.h hW).right.f6.f6.f6.f6.f6.f6) ?_
   refine iJ 18 rfl Na (fun _ => cO (zl := [.pointer none, .pointer none, .pointer none, .map none, .int .i64 0, .bool false, .int .i64 0, .int .i64 0, .int .i64 0, .int .i64 0, .bool false]) (pl := [(0, 1), (1, 1), (2, 1), (3, 1), (4, 1), (5, 1), (6, 1), (7, 1), (8, 1), (9, 1), (10, 1)]) [_, _, _, _, _, _, _, _, _, _, _] underlying64 zeroValue64 rfl (fun w => by kernel_rfl) rfl (.one (by first | rfl | assumption) (.one (by first | rfl | assumption) (.one (by first | rfl | assumption) (.one (by first | rfl | assumption) (.one (by first | rfl | assumption) (.zero (zs := [.bool false]) rfl (.zero (zs := [.int .i64 0]) rfl (.zero (zs := [.int .i64 0]) rfl (.zero (zs := [.int .i64 0]) rfl (.zero (zs := [.int .i64 0]) rfl (.zero (zs := [.bool false]) rfl .nil))))))))))) rfl) ?_
   refine iQ 19 rfl Na rfl (dR 20 rfl Na 0 underlying69 rfl sizeOf64 rfl ?_)
   refine dJ 21 rfl (by kernel_rfl) (bn 0 (l' := [_, _, _, _, _, _, _, _, _, _, _, _, _, _, _, _, _, _, _, _, _, _, _, _, _, _, _, _, _, _, _, _, _, _]) (us := [_, _, _, _, _, _, _, _, _, _, _]) Yb.f5 sizeOf64 rfl rfl rfl (aC (by first | rfl | assumption) (aC (by first | rfl | assumption) (aC (by first | rfl | assumption) (aC (by first | rfl | assumption) (aC (by first | rfl | assumption) (aC (by first | rfl | assumption) (aC (by first | rfl | assumption) (aC (by first | rfl | assumption) (aC (by first | rfl | assumption) (aC (by first | rfl | assumption) (aC (by first | rfl | assumption) aZ))))))))))) rfl rfl) ?_
   rintro _ w71 WG
   have Yc := aB.kp (WG.f7.f7.f7.f7.f7.f7.f7)
   refine dN Yc (by kernel_rfl) ?_
   refine nT (aj (ah (aN rfl (aN rfl (aN rfl (bP rfl (bg 13 underlying69 rfl sizeOf4 rfl (aG (aS 13 (l' := [_, _, _, _, _, _, _, _, _, _, _, _, _, _, _, _, _, _, _, _, _, _, _, _, _, _, _, _, _, _, _, _, _, _]) WG sizeOf4 rfl rfl (by first | rfl | assumption) rfl rfl) ?_))))))))
   rintro _ w72 H72
   refine bP rfl (bg 14 underlying69 rfl sizeOf4 rfl (aG (aS 14 (l' := [_, _, _, _, _, _, _, _, _, _, _, _, _, _, _, _, _, _, _, _, _, _, _, _, _, _, _, _, _, _, _, _, _, _]) H72 sizeOf4 rfl rfl (by first | rfl | assumption) rfl rfl) ?_))
   rintro _ w73 H73
   refine bP rfl (bg 15 underlying69 rfl sizeOf3 rfl (aG (aS 15 (l' := [_, _, _, _, _, _, _, _, _, _, _, _, _, _, _, _, _, _, _, _, _, _, _, _, _, _, _, _, _, _, _, _, _, _]) H73 sizeOf3 rfl rfl (by first | rfl | assumption) rfl rfl) ?_))
   rintro _ w74 H74
   refine aA (fU (.inr rfl) results79 ?_)
   have aaj := H74.f5
   have aak := aaj.o8
   exact ⟨_, _, _, _, _, aak.f4.f6.f3.f6.f6.f7.f7⟩
theorem aB.yc {c : lF} {u : List Value} (H : aB w0 w F) : aB w0 w (rF false c u • F) := by
  unfold rF
  rw [if_neg (by decide)]
  exact H.yH
theorem aB.VR {pb pr pw pt pm : Nat} {c : lF} (H : aB w0 w (dI pb c.L c.pt c.mark • dU pr c.E c.at_ • bY pw (.cells #[.int .i64 c.place, .map (some pt)] 125 (0, 0)) • dQ kW pt (kX c.tx) • pF pm c.un • F)) : aB w0 w (rF true c (Jg pb pr pw pm c) • F) := by
  unfold rF
  rw [if_pos rfl]
  exact aB.gJ (pb, pr, pw, pt, pm) (aB.deep (aB.jL rfl (H.of_eq (by unfold KN; simp only [bH]))))
theorem aB.was {c : lF} {u : List Value} (H : aB w0 w (rF true c u • F)) : ∃ pb pr pw pt pm, u = Jg pb pr pw pm c ∧ aB w0 w (dI pb c.L c.pt c.mark • dU pr c.E c.at_ • bY pw (.cells #[.int .i64 c.place, .map (some pt)] 125 (0, 0)) • dQ kW pt (kX c.tx) • pF pm c.un • F) := by
  unfold rF at H
  rw [if_pos rfl] at H
  obtain ⟨⟨pb, pr, pw, pt, pm⟩, H⟩ := H.lg
  obtain ⟨h, H⟩ := H.flat.fact
  exact ⟨pb, pr, pw, pt, pm, h, H.of_eq (by unfold KN; simp only [bH])⟩
theorem aB.DX {pb pr pw pt pm ph bl : Nat} {u0 u1 u2 u3 u4 u5 u6 u7 u8 u9 ua : Value} (h1 : jV s) (hp : s.put = []) (H : aB w0 w (bY e (.cells (.pointer (some ⟨pb, 0, none⟩) :: .pointer (some ⟨pr, 0, none⟩) :: .pointer (some ⟨pw, 0, none⟩) :: .map (some pm) :: .int .i64 s.c.mode :: .bool s.c.over :: .int .i64 s.c.last :: .int .i64 s.c.fr :: .int .i64 s.c.to :: .int .i64 s.c.res :: .bool s.c.run :: .pointer (some ⟨ph, 0, none⟩) :: .pointer (some ⟨bl, 0, none⟩) :: .bool s.given :: .bool s.minus :: .int .i64 s.arg :: .bool s.inn :: u0 :: u1 :: u2 :: u3 :: u4 :: u5 :: u6 :: u7 :: u8 :: u9 :: ua :: .int .i64 s.cls :: .bool s.killed :: .bool s.lQ :: .bool s.argues :: .bool s.whole :: .slice none 0 0 :: []).toArray 69 (0, 0)) • dI pb s.c.L s.c.pt s.c.mark • dU pr s.c.E s.c.at_ • bY pw (.cells #[.int .i64 s.c.place, .map (some pt)] 125 (0, 0)) • dQ kW pt (kX s.c.tx) • pF pm s.c.un • dh ph s.hl s.base s.most • bY bl (.cells #[.int .i64 s.rY] 144 (0, 0)) • rF s.inn s.was [u0, u1, u2, u3, u4, u5, u6, u7, u8, u9, ua] • F)) : aB w0 w (dK e s • F) := by
  refine aB.dW (pb := pb) (pr := pr) (pw := pw) (pt := pt) (pm := pm) (ph := ph) (bl := bl) (u0 := u0) (u1 := u1) (u2 := u2) (u3 := u3) (u4 := u4) (u5 := u5) (u6 := u6) (u7 := u7) (u8 := u8) (u9 := u9) (ua := ua) (pv := .slice none 0 0) (es := []) h1 (by rw [hp]; rfl) ?_
  rw [hp]
  exact (H.oM none).of_eq (by unfold EC; ac_rfl)
theorem aB.KW {pb pr pw pt pm ph bl : Nat} {u0 u1 u2 u3 u4 u5 u6 u7 u8 u9 ua : Value} (h1 : jV s) (hp : s.put = []) (hi : s.inn = false) (H : aB w0 w (bY e (.cells (.pointer (some ⟨pb, 0, none⟩) :: .pointer (some ⟨pr, 0, none⟩) :: .pointer (some ⟨pw, 0, none⟩) :: .map (some pm) :: .int .i64 s.c.mode :: .bool s.c.over :: .int .i64 s.c.last :: .int .i64 s.c.fr :: .int .i64 s.c.to :: .int .i64 s.c.res :: .bool s.c.run :: .pointer (some ⟨ph, 0, none⟩) :: .pointer (some ⟨bl, 0, none⟩) :: .bool s.given :: .bool s.minus :: .int .i64 s.arg :: .bool false :: u0 :: u1 :: u2 :: u3 :: u4 :: u5 :: u6 :: u7 :: u8 :: u9 :: ua :: .int .i64 s.cls :: .bool s.killed :: .bool s.lQ :: .bool s.argues :: .bool s.whole :: .slice none 0 0 :: []).toArray 69 (0, 0)) • dI pb s.c.L s.c.pt s.c.mark • dU pr s.c.E s.c.at_ • bY pw (.cells #[.int .i64 s.c.place, .map (some pt)] 125 (0, 0)) • dQ kW pt (kX s.c.tx) • pF pm s.c.un • dh ph s.hl s.base s.most • bY bl (.cells #[.int .i64 s.rY] 144 (0, 0)) • F)) : aB w0 w (dK e s • F) := by
  refine aB.DX (pb := pb) (pr := pr) (pw := pw) (pt := pt) (pm := pm) (ph := ph) (bl := bl) (u0 := u0) (u1 := u1) (u2 := u2) (u3 := u3) (u4 := u4) (u5 := u5) (u6 := u6) (u7 := u7) (u8 := u8) (u9 := u9) (ua := ua) h1 hp ?_
  rw [hi]
  exact (H.yc (c := s.was) (u := [u0, u1, u2, u3, u4, u5, u6, u7, u8, u9, ua])).of_eq (by ac_rfl)
theorem aB.Q5 {pb pr pw pt pm ph bl : Nat} {u0 u1 u2 u3 u4 u5 u6 u7 u8 u9 ua : Value} {pv : Value} {es : List dn} (h1 : jV s) (h2 : es.map dn.says = s.put) (H : aB w0 w (EC pv es • bY e (.cells (.pointer (some ⟨pb, 0, none⟩) :: .pointer (some ⟨pr, 0, none⟩) :: .pointer (some ⟨pw, 0, none⟩) :: .map (some pm) :: .int .i64 s.c.mode :: .bool s.c.over :: .int .i64 s.c.last :: .int .i64 s.c.fr :: .int .i64 s.c.to :: .int .i64 s.c.res :: .bool s.c.run :: .pointer (some ⟨ph, 0, none⟩) :: .pointer (some ⟨bl, 0, none⟩) :: .bool s.given :: .bool s.minus :: .int .i64 s.arg :: .bool s.inn :: u0 :: u1 :: u2 :: u3 :: u4 :: u5 :: u6 :: u7 :: u8 :: u9 :: ua :: .int .i64 s.cls :: .bool s.killed :: .bool s.lQ :: .bool s.argues :: .bool s.whole :: pv :: []).toArray 69 (0, 0)) • dI pb s.c.L s.c.pt s.c.mark • dU pr s.c.E s.c.at_ • bY pw (.cells #[.int .i64 s.c.place, .map (some pt)] 125 (0, 0)) • dQ kW pt (kX s.c.tx) • pF pm s.c.un • dh ph s.hl s.base s.most • bY bl (.cells #[.int .i64 s.rY] 144 (0, 0)) • rF s.inn s.was [u0, u1, u2, u3, u4, u5, u6, u7, u8, u9, ua] • F)) : aB w0 w (dK e s • F) := by
  refine aB.dW (pb := pb) (pr := pr) (pw := pw) (pt := pt) (pm := pm) (ph := ph) (bl := bl) (u0 := u0) (u1 := u1) (u2 := u2) (u3 := u3) (u4 := u4) (u5 := u5) (u6 := u6) (u7 := u7) (u8 := u8) (u9 := u9) (ua := ua) (pv := pv) (es := es) h1 h2 ?_
  have hl : s.put.length = es.length := by rw [← h2]; simp
  rw [hl]
  exact H.of_eq (by unfold EC; ac_rfl)
theorem Jk (hl : List kZ) (l : List Int) (E : List (List Int)) (a : Nat) (m : Int) : zY hl (lF.fresh l E a hl.length m) := ⟨by simp [lF.fresh], by simp [lF.fresh], by simp [lF.fresh]⟩
theorem VT (hl : List kZ) (base most : Int) : jV (bG.new hl base most) :=
  ⟨Jk _ _ _ _ _, by simp [bG.new], by simp [bG.new], by simp [bG.new], by simp [bG.new, bG.here, lF.fresh, eH], by simp [bG.new, lF.fresh]⟩
theorem KX (H : aB w0 w (dh h hl base most • F)) : fE prog 34 #[.pointer (some ⟨h, 0, none⟩)] w fun v w' => ∃ e, v = .tuple #[.pointer (some ⟨e, 0, none⟩), .int .i64 0] ∧ aB w0 w' (dK e (bG.new hl base most) • dh h hl base most • F) := by
 refine gy func34 ntmps34 ?_
 dsimp only [aY, Nat.reduceAdd]
 refine ay (ah (aV rfl (aV rfl (aA (aj (ay (ay (ah (aN rfl (dw rfl func77 (nO H) ?_))))))))))
 rintro _ w1 ⟨q1, rfl, H1⟩
 refine aU (eF underlying65 rfl rfl) (aA (aj (aP rfl (fun h => by exfalso; (try simp only [aI] at h); simp at h) (fun h1 => ?_))))
 (try simp only [aI] at h1)
 refine aT (aj (ay (ah (aU (cO (zl := [.int .i64 0]) (pl := [(0, 0), (0, 0), (0, 1)]) [_] underlying144 zeroValue144 rfl (fun w => by kernel_rfl) rfl (.zero (zs := []) rfl (.zero (zs := []) rfl (.zero (zs := [.int .i64 0]) rfl .nil))) rfl) (gq (iw (l := [_]) H1 rfl rfl) ?_)))))
 rintro _ w2 ⟨b2, rfl, H2⟩
 refine aU (cO (zl := [.pointer none, .pointer none, .pointer none, .map none, .int .i64 0, .bool false, .int .i64 0, .int .i64 0, .int .i64 0, .int .i64 0, .bool false, .pointer none, .pointer none, .bool false, .bool false, .int .i64 0, .bool false, .pointer none, .pointer none, .pointer none, .map none, .int .i64 0, .bool false, .int .i64 0, .int .i64 0, .int .i64 0, .int .i64 0, .bool false, .int .i64 0, .bool false, .bool false, .bool false, .bool false, .slice none 0 0]) (pl := [(0, 11), (11, 1), (12, 1), (13, 1), (14, 1), (15, 1), (16, 1), (17, 11), (28, 1), (29, 1), (30, 1), (31, 1), (32, 1), (33, 1)]) [_, _, _, _, _, _, _, _, _, _, _, _, _, _, _, _, _, _, _, _, _, _, _, _, _, _, _, _, _, _, _, _, _, _] underlying69 zeroValue69 rfl (fun w => by kernel_rfl) rfl (.zero (zs := [.pointer none, .pointer none, .pointer none, .map none, .int .i64 0, .bool false, .int .i64 0, .int .i64 0, .int .i64 0, .int .i64 0, .bool false]) rfl (.zero (zs := [.pointer none]) rfl (.one (by first | rfl | assumption) (.zero (zs := [.bool false]) rfl (.zero (zs := [.bool false]) rfl (.zero (zs := [.int .i64 0]) rfl (.zero (zs := [.bool false]) rfl (.zero (zs := [.pointer none, .pointer none, .pointer none, .map none, .int .i64 0, .bool false, .int .i64 0, .int .i64 0, .int .i64 0, .int .i64 0, .bool false]) rfl (.zero (zs := [.int .i64 0]) rfl (.zero (zs := [.bool false]) rfl (.zero (zs := [.bool false]) rfl (.zero (zs := [.bool false]) rfl (.zero (zs := [.bool false]) rfl (.zero (zs := [.slice none 0 0]) rfl .nil)))))))))))))) rfl) ?_
 refine gq (iw (l := [_, _, _, _, _, _, _, _, _, _, _, _, _, _, _, _, _, _, _, _, _, _, _, _, _, _, _, _, _, _, _, _, _, _]) H2 rfl rfl) ?_
 rintro _ w3 ⟨b3, rfl, H3⟩
 refine aV rfl (aA (aj (ay (ah (aN rfl (dw rfl func78 (F9 H3) ?_))))))
 rintro _ w4 ⟨p4, rfl, H4⟩
 refine bP rfl (bg 0 underlying69 rfl sizeOf64 rfl (bg 1 underlying64 rfl sizeOf60 rfl (aG (aS 1 (l' := [_, _, _, _, _, _, _, _, _, _, _, _, _, _, _, _, _, _, _, _, _, _, _, _, _, _, _, _, _, _, _, _, _, _]) H4.f2 sizeOf60 rfl rfl (by first | rfl | assumption) rfl rfl) ?_)))
 rintro _ w5 H5
 refine aA (aj (ay (ah (aN rfl (aN rfl (dw rfl func79 (xM (E := []) (a := 0) H5.f4.right.f3.f3.f4.f4 (l := []) (fun W _ => iV.nil W _ none 0 (by decide)) (by decide)) ?_))))))
 rintro _ w6 ⟨qb, qw, qt, qm, qh, H6⟩
 refine aA (aj (ay (ah (aN rfl (aV rfl (aV rfl (aA (aj (aJ (fV (.inl rfl) results34 rfl rfl ?_))))))))))
 exact ⟨_, rfl, aB.KW (s := bG.new hl base most) (VT _ _ _) rfl rfl H6.f7.f9.f8.f8.f8.f8.f9.f9.f9⟩
end
end Go.Proofs.YtddekefihgejoaaGreatDoor
end
section
namespace Go.Proofs.YtddekefihgejoaaGreatDoor
open Go.RowKit
open _root_.Go.Proofs.Tryz
section
variable {w0 w : World} {F : HP} {e p h pr : Nat} {s : bG} {hl : List kZ} {base most m : Int} {v : Value} {l : List Int}
theorem zZ (h : s.inn = false) : s.gK = { s with inn := true, was := s.c, cls := 0, killed := false, lQ := false, argues := false, whole := true, put := [] } := by unfold bG.gK; rw [if_neg (by simp [h])]
theorem KY (h : s.inn = true) : s.gK = s := by unfold bG.gK; rw [if_pos h]
theorem Nb {G : List (List fB)} {N : List fB} (h : eH G N ≤ 16384) : eH G [] ≤ 16384 := by unfold eH at *; simp at *; omega
theorem Q7 (h : jV s) (hi : s.inn = false) : jV s.gK := by
  rw [zZ hi]
  obtain ⟨h1, h2, h3, h4, h5, h6⟩ := h
  exact ⟨h1, fun _ => ⟨h1, Nb h5, h6⟩, h3, by simp, Nb h5, h6⟩
theorem qC (H : aB w0 w (dK e s • F)) : fE prog 36 #[.pointer (some ⟨e, 0, none⟩)] w fun v w' => v = .int .i64 s.rE ∧ aB w0 w' (dK e s.gK • F) := by
 refine gy func36 ntmps36 ?_
 dsimp only [aY, Nat.reduceAdd]
 refine ay (ah (aV rfl (aA (aj (ay (bf (ay (ah (aN rfl (dw rfl func54 (o7 H) ?_))))))))))
 rintro _ _ ⟨rfl, rfl⟩
 refine aV rfl (aA (aj (pJ (ay ?_))))
 obtain ⟨qj, ql, qo, qp, qx, qy, qA, qB, nY, mD, mF, mG, mJ, mM, mO, mP, mQ, mV, mW, mX, dF, bK, gV, dY⟩ := (H).DR
 refine ah (aN rfl (bP rfl (bg 16 underlying69 rfl sizeOf4 rfl (dO underlying4 rfl (dY).get.2 rfl (aV rfl (aA (aj (aP rfl (fun h1 => ?_) (fun h1 => ?_)))))))))
 ·(try simp only [aI] at h1)
  try (exfalso; first | contradiction | omega)
  all_goals
   have hin := h1
   refine ay (ah (aV rfl (aA (aj (aJ (aX (aK (aQ (.inl rfl) results36 rfl ?_))))))))
   exact ⟨by unfold bG.rE; rw [if_pos hin], by rw [KY hin]; exact aB.dW dF bK dY.f11.f11.f11.f11.f11.f11.f11.f11.f11.f11.f11⟩
 ·(try simp only [aI] at h1)
  try (exfalso; first | contradiction | omega)
  all_goals
   have hin := h1
   refine aT (aH (aj (ay (ah (aN rfl (aN rfl (aN rfl (bP rfl (bg 0 underlying69 rfl sizeOf64 rfl (aU (oQ 0 (xs := [_, _, _, _, _, _, _, _, _, _, _]) underlying64 rfl sizeOf64 rfl rfl (dY).get.2 rfl) (dw rfl func80 (QO dY.f6.f6.f6.f6.f6) ?_)))))))))))
   rintro _ w3 ⟨qb3, qr3, qw3, qt3, qm3, rfl, H3⟩
   refine bP rfl (bg 16 underlying69 rfl sizeOf4 rfl (aG (aS 16 (l' := [_, _, _, _, _, _, _, _, _, _, _, _, _, _, _, _, _, _, _, _, _, _, _, _, _, _, _, _, _, _, _, _, _, _]) H3.f11 sizeOf4 rfl rfl (by first | rfl | assumption) rfl rfl) ?_))
   rintro _ w4 H4
   refine bP rfl (bg 17 underlying69 rfl sizeOf64 rfl (aG (bn 17 (l' := [_, _, _, _, _, _, _, _, _, _, _, _, _, _, _, _, _, _, _, _, _, _, _, _, _, _, _, _, _, _, _, _, _, _]) (us := [_, _, _, _, _, _, _, _, _, _, _]) H4 sizeOf64 rfl rfl rfl (aC (by first | rfl | assumption) (aC (by first | rfl | assumption) (aC (by first | rfl | assumption) (aC (by first | rfl | assumption) (aC (by first | rfl | assumption) (aC (by first | rfl | assumption) (aC (by first | rfl | assumption) (aC (by first | rfl | assumption) (aC (by first | rfl | assumption) (aC (by first | rfl | assumption) (aC (by first | rfl | assumption) aZ))))))))))) rfl rfl) ?_))
   rintro _ w5 H5
   refine aA (aj (ay (ah (aN rfl (aN rfl (aN rfl (aN rfl (aN rfl (aN rfl (bP rfl (bg 28 underlying69 rfl sizeOf3 rfl (aG (aS 28 (l' := [_, _, _, _, _, _, _, _, _, _, _, _, _, _, _, _, _, _, _, _, _, _, _, _, _, _, _, _, _, _, _, _, _, _]) H5 sizeOf3 rfl rfl (by first | rfl | assumption) rfl rfl) ?_))))))))))))
   rintro _ w6 H6
   refine bP rfl (bg 29 underlying69 rfl sizeOf4 rfl (aG (aS 29 (l' := [_, _, _, _, _, _, _, _, _, _, _, _, _, _, _, _, _, _, _, _, _, _, _, _, _, _, _, _, _, _, _, _, _, _]) H6 sizeOf4 rfl rfl (by first | rfl | assumption) rfl rfl) ?_))
   rintro _ w7 H7
   refine bP rfl (bg 30 underlying69 rfl sizeOf4 rfl (aG (aS 30 (l' := [_, _, _, _, _, _, _, _, _, _, _, _, _, _, _, _, _, _, _, _, _, _, _, _, _, _, _, _, _, _, _, _, _, _]) H7 sizeOf4 rfl rfl (by first | rfl | assumption) rfl rfl) ?_))
   rintro _ w8 H8
   refine bP rfl (bg 31 underlying69 rfl sizeOf4 rfl (aG (aS 31 (l' := [_, _, _, _, _, _, _, _, _, _, _, _, _, _, _, _, _, _, _, _, _, _, _, _, _, _, _, _, _, _, _, _, _, _]) H8 sizeOf4 rfl rfl (by first | rfl | assumption) rfl rfl) ?_))
   rintro _ w9 H9
   refine bP rfl (bg 32 underlying69 rfl sizeOf4 rfl (aG (aS 32 (l' := [_, _, _, _, _, _, _, _, _, _, _, _, _, _, _, _, _, _, _, _, _, _, _, _, _, _, _, _, _, _, _, _, _, _]) H9 sizeOf4 rfl rfl (by first | rfl | assumption) rfl rfl) ?_))
   rintro _ w10 qH
   refine bP rfl (bg 33 underlying69 rfl sizeOf67 rfl (aG (aS 33 (l' := [_, _, _, _, _, _, _, _, _, _, _, _, _, _, _, _, _, _, _, _, _, _, _, _, _, _, _, _, _, _, _, _, _, _]) qH sizeOf67 rfl rfl (by first | rfl | assumption) rfl rfl) ?_))
   rintro _ Hr uQ
   refine aA (aj (ay (ah (aV rfl (aA (aj (aJ (aQ (.inl rfl) results36 rfl ?_))))))))
   have KR := uQ.f6.f6.f6.f6.f6
   have KT := aB.VR (c := s.c) KR
   exact ⟨by unfold bG.rE; rw [if_neg (by simp [hin])], by rw [zZ hin]; exact aB.DX (zZ hin ▸ Q7 dF hin) rfl KT.f10.right.f10.right.f10.right.f9.f9.f9.f9.f9.f9.f9.f9⟩
end
end Go.Proofs.YtddekefihgejoaaGreatDoor
end
section
namespace Go.Proofs.YtddekefihgejoaaGreatDoor
open Go.RowKit
open _root_.Go.Proofs.Tryz
section
variable {w0 w : World} {F : HP} {e p h pr : Nat} {s : bG} {x : Int} {b : Bool}
theorem uG (h : jV s) (L : List Int) (pt mk : Int) : jV (s.jJ L pt mk) := h
theorem AX (H : aB w0 w (dK e s • F)) : fE prog 40 #[.pointer (some ⟨e, 0, none⟩), .int .i64 x] w fun v w' => v = .int .i64 (s.E8 x) ∧ aB w0 w' (dK e (s.wH x) • F) := by
 refine gy func40 ntmps40 ?_
 dsimp only [aY, Nat.reduceAdd]
 refine ay (ah (aV rfl (aA (aj (ay (ay (ah (aN rfl (dw rfl func81 (kM H) ?_)))))))))
 rintro _ _ ⟨rfl, rfl⟩
 refine aV rfl (aA (aj (ay (ah (aN rfl (aU (dZ rfl rfl) (aA (aj (aP rfl (fun h1 => ?_) (fun h1 => ?_))))))))))
 ·(try simp only [aI] at h1)
  obtain ⟨hin, hpe⟩ := BX h1
  refine ay (ah (aN rfl (aV rfl (aA (aj (aJ (aK (aQ (.inl rfl) results40 rfl ?_))))))))
  rw [hpe]
  exact ⟨by simp [bG.E8, bG.wH, hin], by rw [show s.wH x = s from by simp [bG.E8, bG.wH, hin]]; exact H⟩
 ·(try simp only [aI] at h1)
  have hin := zk h1
  refine aT (aj (ay ?_))
  obtain ⟨qj, ql, qo, qp, qx, qy, qA, qB, nY, mD, mF, mG, mJ, mM, mO, mP, mQ, mV, mW, mX, dF, bK, gV, dY⟩ := (H).DR
  refine ah (aN rfl (bP rfl (bg 0 underlying69 rfl sizeOf64 rfl (bg 0 underlying64 rfl sizeOf59 rfl (dO underlying59 rfl (dY).get.2 rfl (aN rfl (dw rfl func90 (F7 dY.f2) ?_)))))))
  rintro _ w3 ⟨rfl, H3⟩
  refine aV rfl (aA (aj (aJ (aQ (.inl rfl) results40 rfl ?_))))
  exact ⟨by simp [bG.E8, hin], by rw [show s.wH x = s.jJ s.c.L (UF s.c.L.length s.c.pt x) s.c.mark from by simp [bG.wH, hin]]; exact aB.dW (uG dF _ _ _) bK H3.f11.f11.f11.f11.f11.f11.f11.f11.f11.f10.f11⟩
theorem AY (H : aB w0 w (dK e s • F)) : fE prog 32 #[.pointer (some ⟨e, 0, none⟩)] w fun v w' => ∃ u, v = .agg (lU u s.c.pt s.c.mark) ∧ aB w0 w' (gZ 21 .i32 u s.c.L • dK e s • F) := by
 refine gy func32 ntmps32 ?_
 dsimp only [aY, Nat.reduceAdd]
 refine ay (ah (gq (bU (l := [_, _, _]) H zeroValue41 rfl) ?_))
 rintro _ w1 ⟨b1, rfl, H1⟩
 refine aA (aj (ay (ay (ah (aN rfl (dw rfl func54 (o7 H1.f2) ?_))))))
 rintro _ _ ⟨rfl, rfl⟩
 refine aA (aj (pJ (aT (aj (ay ?_)))))
 obtain ⟨qj, ql, qo, qp, qx, qy, qA, qB, nY, mD, mF, mG, mJ, mM, mO, mP, mQ, mV, mW, mX, dF, bK, gV, dY⟩ := (H1.f2).DR
 refine ah (aN rfl (bP rfl (bg 0 underlying69 rfl sizeOf64 rfl (bg 0 underlying64 rfl sizeOf59 rfl (dO underlying59 rfl (dY).get.2 rfl (dw rfl func74 (yQ dY.f2) ?_))))))
 rintro _ w4 ⟨u4, rfl, H4⟩
 refine aG (bn 0 (l' := [_, _, _]) (us := [_, _, _]) H4.f13 sizeOf41 rfl rfl rfl (aC (by first | rfl | exact Rd.one ((H4).aO)) (aC (by first | rfl | assumption) (aC (by first | rfl | assumption) aZ))) rfl rfl) ?_
 rintro _ w5 H5
 refine aA (aj (aJ ?_))
 refine jM (.inl rfl) (CX results32 rfl underlying41 rfl (by rw [show (prog.info? 41).map (·.size) = some 3 from by kernel_rfl]; rfl) (H5).get.2) ?_
 have Qu := H5.f13.f13.f13.f13.f13.f13.f13.f13.f13.f12.f13
 have Oi := aB.dW (s := s) dF bK Qu
 exact ⟨_, rfl, Oi.f2.right.f2⟩
theorem Jl (H : aB w0 w (dK e s • F)) : fE prog 49 #[.pointer (some ⟨e, 0, none⟩)] w fun v w' => ∃ q, v = .pointer (some ⟨q, 0, none⟩) ∧ aB w0 w' (dh q s.hl s.base s.most • dK e s • F) := by
 refine gy func49 ntmps49 ?_
 dsimp only [aY, Nat.reduceAdd]
 refine ay (ah (aV rfl (aA (aj (ay (ay (ah (aN rfl (dw rfl func54 (o7 H) ?_)))))))))
 rintro _ _ ⟨rfl, rfl⟩
 refine aA (aj (pJ (aT (aj (ay ?_)))))
 obtain ⟨qj, ql, qo, qp, qx, qy, qA, qB, nY, mD, mF, mG, mJ, mM, mO, mP, mQ, mV, mW, mX, dF, bK, gV, dY⟩ := (H).DR
 refine ah (aN rfl (bP rfl (bg 11 underlying69 rfl sizeOf65 rfl (dO underlying65 rfl (dY).get.2 rfl (dw rfl func77 (nO dY.f7) ?_)))))
 rintro _ w3 ⟨q3, rfl, H3⟩
 refine aV rfl (aA (aj (aJ (aQ (.inl rfl) results49 rfl ?_))))
 have XB := H3.f12.f12.f12.f12.f6.f12.f12.f12.f12.f12.f12
 have XC := aB.dW (s := s) dF bK XB
 exact ⟨_, rfl, XC.f2⟩
end
end Go.Proofs.YtddekefihgejoaaGreatDoor
end
