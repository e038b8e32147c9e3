import Derived.Test.YtgndbccogcofjaaGreatDoorZ2
import Derived.Test.YtgndbccogcofjaaGreatDoorZ13
set_option linter.unusedSimpArgs false
set_option linter.unusedVariables false
/- Texts of mine, joined, their names in short: EdB EdC EdMv. -/
section
namespace Go.Proofs.YtgndbccogcofjaaGreatDoor
open Go.RowKit
open _root_.Go.Proofs.Tryz
section
variable {w0 w : World} {F : HP} {e p h pr : Nat} {s : bC} {hl : List qO} {base most m : Int} {v : Value} {l : List Int}
theorem aB.qJ {b : Nat} (H : aB w0 w (fJ qE b (fun _ => none) • F)) : aB w0 w (uV b (fun _ => []) • F) :=
  aB.Cj (D := []) (P := fun _ => 0) List.nodup_nil (fun _ _ => rfl) (by rw [NC]; exact H.of_eq (by show _ = (_ • emp • _); rw [YtgndbccogcofjaaGreatDoor.jQ]))
set_option maxHeartbeats 1000000 in
theorem yE {x0 x2 x3 x5 x6 x7 x8 x9 x10 x11 x12 Ze x14 x15 x16 x17 x18 x19 x20 x21 Yr x23 x24 x25 Yt x27 x28 x29 x30 x31 x32 Yu : Value} {E : List (List Int)} {a : Nat} (H : aB w0 w (dH e (.cells (x0 :: .pointer (some ⟨pr, 0, none⟩) :: x2 :: x3 :: .int .i64 m :: x5 :: x6 :: x7 :: x8 :: x9 :: x10 :: x11 :: x12 :: Ze :: x14 :: x15 :: x16 :: x17 :: x18 :: x19 :: x20 :: x21 :: Yr :: x23 :: x24 :: x25 :: Yt :: x27 :: x28 :: x29 :: x30 :: x31 :: x32 :: Yu :: []).toArray 37 (0, 0)) • fU h hl base most • F)) (hr : iI w0 F .i32 v l) (hshort : l.length ≤ 1024) :
  fG prog 110 #[.pointer (some ⟨e, 0, none⟩), .pointer (some ⟨h, 0, none⟩), v] w fun _ w' => ∃ pb pw pt pm ph, aB w0 w' (dH e (.cells (.pointer (some ⟨pb, 0, none⟩) :: .pointer (some ⟨pr, 0, none⟩) :: .pointer (some ⟨pw, 0, none⟩) :: .map (some pm) :: .int .i64 m :: .bool false :: .int .i64 0 :: .int .i64 0 :: .int .i64 0 :: .int .i64 0 :: .bool false :: .pointer (some ⟨ph, 0, none⟩) :: x12 :: .bool false :: .bool false :: .int .i64 (-1) :: x16 :: x17 :: x18 :: x19 :: x20 :: x21 :: Yr :: x23 :: x24 :: x25 :: Yt :: x27 :: x28 :: x29 :: x30 :: x31 :: x32 :: Yu :: []).toArray 37 (0, 0)) •
   dW pb l l.length (-1) • dH pw (.cells #[.int .i64 hl.length, .map (some pt)] 85 (0, 0)) • fJ qE pt (fun _ => none) • uV pm (fun _ => []) • fU ph hl base most • fU h hl base most • F) := by
 refine gG func110 ntmps110 ?_
 dsimp only [bf, Nat.reduceAdd]
 refine ay (ah (aN rfl (bW rfl func184 (Jr H (fun W HW => hr _ (HW.right.right)) hshort) ?_)))
 rintro _ w1 ⟨p1, rfl, H1⟩
 refine aN rfl (FP rfl rfl (FP rfl rfl (aV rfl (aV rfl (aA (aj (ay (ah (aN rfl (aN rfl (bW rfl func45 (oh H1.f3) ?_)))))))))))
 rintro _ w2 ⟨q2, rfl, H2⟩
 refine bM rfl (bG 11 underlying37 rfl sizeOf33 rfl (aJ (aT 11 (l' := [_, _, _, _, _, _, _, _, _, _, _, _, _, _, _, _, _, _, _, _, _, _, _, _, _, _, _, _, _, _, _, _, _, _]) H2.f4 sizeOf33 rfl rfl (by first | rfl | assumption) rfl rfl) ?_))
 rintro _ w3 H3
 refine aA (aj (ay ?_))
 have TS := H3.drew
 have tq := aB.kp (TS.f3.right.f3.f3.f3)
 refine yI [6, 17] tq rfl (iD 0 rfl tq rfl (iD 1 rfl tq rfl (iD 2 rfl tq rfl (jS 3 rfl tq rfl (gV 4 rfl tq 0 underlying37 rfl sizeOf32 rfl (gV 5 rfl tq 1 underlying32 rfl sizeOf28 rfl (jB 6 rfl tq (fun W hW => jR underlying28 rfl ((Kp.h hW)).get.2 rfl) (iD 7 rfl tq rfl (iD 13 rfl tq rfl (jS 14 rfl tq rfl (gV 15 rfl tq 0 underlying37 rfl sizeOf32 rfl (gV 16 rfl tq 4 underlying32 rfl sizeOf3 rfl (jB 17 rfl tq (fun W hW => jR underlying3 rfl ((Kp.h hW)).get.2 rfl) ?_)))))))))))))
 refine PK (i := 8) (j := 9) (k := 12) (by kernel_rfl) ?_ ?_ ?_
 ·skip
  refine lM 8 rfl (by kernel_rfl) (yH (Aa rfl func102 rfl rfl) (og TS.f3)) (qN rfl) ?_
  rintro _ w4 ⟨rfl, H4⟩
  have xW := aB.kp (H4.f4.f4.f4.f4)
  refine dZ xW (fun W hW => (Kp.h hW).right.f3.f3.f3) ?_
  refine CX (i := 9) (j := 12) (by kernel_rfl) ?_ ?_
  ·skip
   refine lM 9 rfl (by kernel_rfl) (iJ (xU .i64) H4) (qN rfl) ?_
   rintro _ w5 ⟨b5, rfl, H5⟩
   have LD := aB.kp (H5.f5.f5.f5.f5.f5)
   refine dZ LD (fun W hW => (Kp.h hW).right.f4.f4.f4.f4) ?_
   refine jr 10 rfl LD (fun _ => fM (zl := [.int .i64 0, .map none]) (pl := [(0, 1), (1, 1)]) [_, _] underlying85 zeroValue85 rfl (fun w => by kernel_rfl) rfl (.one (by first | rfl | assumption) (.one (by first | rfl | assumption) .nil)) rfl) ?_
   refine CX (i := 11) (j := 12) (by kernel_rfl) ?_ ?_
   ·skip
    refine lM 11 rfl (by kernel_rfl) (jo (l := [_, _]) H5 rfl rfl) (qN rfl) ?_
    rintro _ w6 ⟨b6, rfl, H6⟩
    have JU := aB.kp (H6.f6.f6.f6.f6.f6.f6)
    refine dZ JU (fun W hW => (Kp.h hW).right.f5.f5.f5.f5.f5) ?_
    refine kQ 12 rfl (iJ (xU .i64) H6) ?_
    rintro _ w7 ⟨b7, rfl, H7⟩
    have Aj := aB.kp (H7.f7.f7.f7.f7.f7.f7.f7)
    refine dZ Aj (fun W hW => (Kp.h hW).right.f6.f6.f6.f6.f6.f6) ?_
    refine jr 18 rfl Aj (fun _ => fM (zl := [.pointer none, .pointer none, .pointer none, .map none, .int .i64 0, .bool false, .int .i64 0, .int .i64 0, .int .i64 0, .int .i64 0, .bool false]) (pl := [(0, 1), (1, 1), (2, 1), (3, 1), (4, 1), (5, 1), (6, 1), (7, 1), (8, 1), (9, 1), (10, 1)]) [_, _, _, _, _, _, _, _, _, _, _] underlying32 zeroValue32 rfl (fun w => by kernel_rfl) rfl (.one (by first | rfl | assumption) (.one (by first | rfl | assumption) (.one (by first | rfl | assumption) (.one (by first | rfl | assumption) (.one (by first | rfl | assumption) (.zero (zs := [.bool false]) rfl (.zero (zs := [.int .i64 0]) rfl (.zero (zs := [.int .i64 0]) rfl (.zero (zs := [.int .i64 0]) rfl (.zero (zs := [.int .i64 0]) rfl (.zero (zs := [.bool false]) rfl .nil))))))))))) rfl) ?_
    refine jS 19 rfl Aj rfl (gV 20 rfl Aj 0 underlying37 rfl sizeOf32 rfl ?_)
    refine gI 21 rfl (by kernel_rfl) (dG 0 (l' := [_, _, _, _, _, _, _, _, _, _, _, _, _, _, _, _, _, _, _, _, _, _, _, _, _, _, _, _, _, _, _, _, _, _]) (us := [_, _, _, _, _, _, _, _, _, _, _]) H7.f5 sizeOf32 rfl rfl rfl (aC (by first | rfl | assumption) (aC (by first | rfl | assumption) (aC (by first | rfl | assumption) (aC (by first | rfl | assumption) (aC (by first | rfl | assumption) (aC (by first | rfl | assumption) (aC (by first | rfl | assumption) (aC (by first | rfl | assumption) (aC (by first | rfl | assumption) (aC (by first | rfl | assumption) (aC (by first | rfl | assumption) cZ))))))))))) rfl rfl) ?_
    rintro _ w8 H8
    have OE := aB.kp (H8.f7.f7.f7.f7.f7.f7.f7)
    refine gB OE (by kernel_rfl) ?_
    refine qQ (aj (ah (aN rfl (aN rfl (aN rfl (bM rfl (bG 13 underlying37 rfl sizeOf4 rfl (aJ (aT 13 (l' := [_, _, _, _, _, _, _, _, _, _, _, _, _, _, _, _, _, _, _, _, _, _, _, _, _, _, _, _, _, _, _, _, _, _]) H8 sizeOf4 rfl rfl (by first | rfl | assumption) rfl rfl) ?_))))))))
    rintro _ w9 H9
    refine bM rfl (bG 14 underlying37 rfl sizeOf4 rfl (aJ (aT 14 (l' := [_, _, _, _, _, _, _, _, _, _, _, _, _, _, _, _, _, _, _, _, _, _, _, _, _, _, _, _, _, _, _, _, _, _]) H9 sizeOf4 rfl rfl (by first | rfl | assumption) rfl rfl) ?_))
    rintro _ w10 oZ
    refine bM rfl (bG 15 underlying37 rfl sizeOf3 rfl (aJ (aT 15 (l' := [_, _, _, _, _, _, _, _, _, _, _, _, _, _, _, _, _, _, _, _, _, _, _, _, _, _, _, _, _, _, _, _, _, _]) oZ sizeOf3 rfl rfl (by first | rfl | assumption) rfl rfl) ?_))
    rintro _ KG yt
    refine aA (gU (.inr rfl) results110 ?_)
    have LY := yt.f2
    have LZ := LY.qJ
    exact ⟨_, _, _, _, _, LZ.f5.f6.f3.f6.f6.f7.f7⟩
   ·skip
    refine lM 12 rfl (by kernel_rfl) (iJ (xU .i64) H5) (qN rfl) ?_
    rintro _ MX ⟨b14, rfl, yK⟩
    have Qr := aB.kp (yK.f6.f6.f6.f6.f6.f6)
    refine dZ Qr (fun W hW => (Kp.h hW).right.f5.f5.f5.f5.f5) ?_
    refine kQ 11 rfl (jo (l := [_, _]) yK rfl rfl) ?_
    rintro _ Pq ⟨b15, rfl, yu⟩
    have yx := aB.kp (yu.f7.f7.f7.f7.f7.f7.f7)
    refine dZ yx (fun W hW => (Kp.h hW).right.f6.f6.f6.f6.f6.f6) ?_
    refine jr 18 rfl yx (fun _ => fM (zl := [.pointer none, .pointer none, .pointer none, .map none, .int .i64 0, .bool false, .int .i64 0, .int .i64 0, .int .i64 0, .int .i64 0, .bool false]) (pl := [(0, 1), (1, 1), (2, 1), (3, 1), (4, 1), (5, 1), (6, 1), (7, 1), (8, 1), (9, 1), (10, 1)]) [_, _, _, _, _, _, _, _, _, _, _] underlying32 zeroValue32 rfl (fun w => by kernel_rfl) rfl (.one (by first | rfl | assumption) (.one (by first | rfl | assumption) (.one (by first | rfl | assumption) (.one (by first | rfl | assumption) (.one (by first | rfl | assumption) (.zero (zs := [.bool false]) rfl (.zero (zs := [.int .i64 0]) rfl (.zero (zs := [.int .i64 0]) rfl (.zero (zs := [.int .i64 0]) rfl (.zero (zs := [.int .i64 0]) rfl (.zero (zs := [.bool false]) rfl .nil))))))))))) rfl) ?_
    refine jS 19 rfl yx rfl (gV 20 rfl yx 0 underlying37 rfl sizeOf32 rfl ?_)
    refine gI 21 rfl (by kernel_rfl) (dG 0 (l' := [_, _, _, _, _, _, _, _, _, _, _, _, _, _, _, _, _, _, _, _, _, _, _, _, _, _, _, _, _, _, _, _, _, _]) (us := [_, _, _, _, _, _, _, _, _, _, _]) yu.f5 sizeOf32 rfl rfl rfl (aC (by first | rfl | assumption) (aC (by first | rfl | assumption) (aC (by first | rfl | assumption) (aC (by first | rfl | assumption) (aC (by first | rfl | assumption) (aC (by first | rfl | assumption) (aC (by first | rfl | assumption) (aC (by first | rfl | assumption) (aC (by first | rfl | assumption) (aC (by first | rfl | assumption) (aC (by first | rfl | assumption) cZ))))))))))) rfl rfl) ?_
    rintro _ w16 tX
    have JJ := aB.kp (tX.f7.f7.f7.f7.f7.f7.f7)
    refine gB JJ (by kernel_rfl) ?_
    refine qQ (aj (ah (aN rfl (aN rfl (aN rfl (bM rfl (bG 13 underlying37 rfl sizeOf4 rfl (aJ (aT 13 (l' := [_, _, _, _, _, _, _, _, _, _, _, _, _, _, _, _, _, _, _, _, _, _, _, _, _, _, _, _, _, _, _, _, _, _]) tX sizeOf4 rfl rfl (by first | rfl | assumption) rfl rfl) ?_))))))))
    rintro _ VF Hg
    refine bM rfl (bG 14 underlying37 rfl sizeOf4 rfl (aJ (aT 14 (l' := [_, _, _, _, _, _, _, _, _, _, _, _, _, _, _, _, _, _, _, _, _, _, _, _, _, _, _, _, _, _, _, _, _, _]) Hg sizeOf4 rfl rfl (by first | rfl | assumption) rfl rfl) ?_))
    rintro _ SL ER
    refine bM rfl (bG 15 underlying37 rfl sizeOf3 rfl (aJ (aT 15 (l' := [_, _, _, _, _, _, _, _, _, _, _, _, _, _, _, _, _, _, _, _, _, _, _, _, _, _, _, _, _, _, _, _, _, _]) ER sizeOf3 rfl rfl (by first | rfl | assumption) rfl rfl) ?_))
    rintro _ Tc BJ
    refine aA (gU (.inr rfl) results110 ?_)
    have aaw := BJ.f3
    have aax := aaw.qJ
    exact ⟨_, _, _, _, _, aax.f5.f6.f3.f6.f6.f7.f7⟩
  ·skip
   refine lM 12 rfl (by kernel_rfl) (iJ (xU .i64) H4) (qN rfl) ?_
   rintro _ XD ⟨b22, rfl, G6⟩
   have D9 := aB.kp (G6.f5.f5.f5.f5.f5)
   refine dZ D9 (fun W hW => (Kp.h hW).right.f4.f4.f4.f4) ?_
   refine kQ 9 rfl (iJ (xU .i64) G6) ?_
   rintro _ Td ⟨b23, rfl, y5⟩
   have Gi := aB.kp (y5.f6.f6.f6.f6.f6.f6)
   refine dZ Gi (fun W hW => (Kp.h hW).right.f5.f5.f5.f5.f5) ?_
   refine jr 10 rfl Gi (fun _ => fM (zl := [.int .i64 0, .map none]) (pl := [(0, 1), (1, 1)]) [_, _] underlying85 zeroValue85 rfl (fun w => by kernel_rfl) rfl (.one (by first | rfl | assumption) (.one (by first | rfl | assumption) .nil)) rfl) ?_
   refine kQ 11 rfl (jo (l := [_, _]) y5 rfl rfl) ?_
   rintro _ XE ⟨b24, rfl, Jd⟩
   have ND := aB.kp (Jd.f7.f7.f7.f7.f7.f7.f7)
   refine dZ ND (fun W hW => (Kp.h hW).right.f6.f6.f6.f6.f6.f6) ?_
   refine jr 18 rfl ND (fun _ => fM (zl := [.pointer none, .pointer none, .pointer none, .map none, .int .i64 0, .bool false, .int .i64 0, .int .i64 0, .int .i64 0, .int .i64 0, .bool false]) (pl := [(0, 1), (1, 1), (2, 1), (3, 1), (4, 1), (5, 1), (6, 1), (7, 1), (8, 1), (9, 1), (10, 1)]) [_, _, _, _, _, _, _, _, _, _, _] underlying32 zeroValue32 rfl (fun w => by kernel_rfl) rfl (.one (by first | rfl | assumption) (.one (by first | rfl | assumption) (.one (by first | rfl | assumption) (.one (by first | rfl | assumption) (.one (by first | rfl | assumption) (.zero (zs := [.bool false]) rfl (.zero (zs := [.int .i64 0]) rfl (.zero (zs := [.int .i64 0]) rfl (.zero (zs := [.int .i64 0]) rfl (.zero (zs := [.int .i64 0]) rfl (.zero (zs := [.bool false]) rfl .nil))))))))))) rfl) ?_
   refine jS 19 rfl ND rfl (gV 20 rfl ND 0 underlying37 rfl sizeOf32 rfl ?_)
   refine gI 21 rfl (by kernel_rfl) (dG 0 (l' := [_, _, _, _, _, _, _, _, _, _, _, _, _, _, _, _, _, _, _, _, _, _, _, _, _, _, _, _, _, _, _, _, _, _]) (us := [_, _, _, _, _, _, _, _, _, _, _]) Jd.f5 sizeOf32 rfl rfl rfl (aC (by first | rfl | assumption) (aC (by first | rfl | assumption) (aC (by first | rfl | assumption) (aC (by first | rfl | assumption) (aC (by first | rfl | assumption) (aC (by first | rfl | assumption) (aC (by first | rfl | assumption) (aC (by first | rfl | assumption) (aC (by first | rfl | assumption) (aC (by first | rfl | assumption) (aC (by first | rfl | assumption) cZ))))))))))) rfl rfl) ?_
   rintro _ XT Nh
   have Yv := aB.kp (Nh.f7.f7.f7.f7.f7.f7.f7)
   refine gB Yv (by kernel_rfl) ?_
   refine qQ (aj (ah (aN rfl (aN rfl (aN rfl (bM rfl (bG 13 underlying37 rfl sizeOf4 rfl (aJ (aT 13 (l' := [_, _, _, _, _, _, _, _, _, _, _, _, _, _, _, _, _, _, _, _, _, _, _, _, _, _, _, _, _, _, _, _, _, _]) Nh sizeOf4 rfl rfl (by first | rfl | assumption) rfl rfl) ?_))))))))
   rintro _ Xa KX
   refine bM rfl (bG 14 underlying37 rfl sizeOf4 rfl (aJ (aT 14 (l' := [_, _, _, _, _, _, _, _, _, _, _, _, _, _, _, _, _, _, _, _, _, _, _, _, _, _, _, _, _, _, _, _, _, _]) KX sizeOf4 rfl rfl (by first | rfl | assumption) rfl rfl) ?_))
   rintro _ Xb Pv
   refine bM rfl (bG 15 underlying37 rfl sizeOf3 rfl (aJ (aT 15 (l' := [_, _, _, _, _, _, _, _, _, _, _, _, _, _, _, _, _, _, _, _, _, _, _, _, _, _, _, _, _, _, _, _, _, _]) Pv sizeOf3 rfl rfl (by first | rfl | assumption) rfl rfl) ?_))
   rintro _ XU Px
   refine aA (gU (.inr rfl) results110 ?_)
   have Wh := Px.f4
   have Wi := Wh.qJ
   exact ⟨_, _, _, _, _, Wi.f5.f6.f3.f6.f6.f7.f7⟩
 ·skip
  refine lM 9 rfl (by kernel_rfl) (iJ (xU .i64) TS) (qN rfl) ?_
  rintro _ Xc ⟨b31, rfl, Jk⟩
  have Yw := aB.kp (Jk.f4.right.f4.f4.f4.f4)
  refine dZ Yw (fun W hW => (Kp.h hW).right.f3.f3.f3) ?_
  refine CX (i := 8) (j := 12) (by kernel_rfl) ?_ ?_
  ·skip
   refine lM 8 rfl (by kernel_rfl) (yH (Aa rfl func102 rfl rfl) (og Jk.f4)) (qN rfl) ?_
   rintro _ w32 ⟨rfl, Nj⟩
   have U1 := aB.kp (Nj.f5.f5.f5.f5.f5)
   refine dZ U1 (fun W hW => (Kp.h hW).right.f4.f4.f4.f4) ?_
   refine jr 10 rfl U1 (fun _ => fM (zl := [.int .i64 0, .map none]) (pl := [(0, 1), (1, 1)]) [_, _] underlying85 zeroValue85 rfl (fun w => by kernel_rfl) rfl (.one (by first | rfl | assumption) (.one (by first | rfl | assumption) .nil)) rfl) ?_
   refine CX (i := 11) (j := 12) (by kernel_rfl) ?_ ?_
   ·skip
    refine lM 11 rfl (by kernel_rfl) (jo (l := [_, _]) Nj rfl rfl) (qN rfl) ?_
    rintro _ XV ⟨b33, rfl, Jl⟩
    have Yx := aB.kp (Jl.f6.f6.f6.f6.f6.f6)
    refine dZ Yx (fun W hW => (Kp.h hW).right.f5.f5.f5.f5.f5) ?_
    refine kQ 12 rfl (iJ (xU .i64) Jl) ?_
    rintro _ Y7 ⟨b34, rfl, Py⟩
    have NG := aB.kp (Py.f7.f7.f7.f7.f7.f7.f7)
    refine dZ NG (fun W hW => (Kp.h hW).right.f6.f6.f6.f6.f6.f6) ?_
    refine jr 18 rfl NG (fun _ => fM (zl := [.pointer none, .pointer none, .pointer none, .map none, .int .i64 0, .bool false, .int .i64 0, .int .i64 0, .int .i64 0, .int .i64 0, .bool false]) (pl := [(0, 1), (1, 1), (2, 1), (3, 1), (4, 1), (5, 1), (6, 1), (7, 1), (8, 1), (9, 1), (10, 1)]) [_, _, _, _, _, _, _, _, _, _, _] underlying32 zeroValue32 rfl (fun w => by kernel_rfl) rfl (.one (by first | rfl | assumption) (.one (by first | rfl | assumption) (.one (by first | rfl | assumption) (.one (by first | rfl | assumption) (.one (by first | rfl | assumption) (.zero (zs := [.bool false]) rfl (.zero (zs := [.int .i64 0]) rfl (.zero (zs := [.int .i64 0]) rfl (.zero (zs := [.int .i64 0]) rfl (.zero (zs := [.int .i64 0]) rfl (.zero (zs := [.bool false]) rfl .nil))))))))))) rfl) ?_
    refine jS 19 rfl NG rfl (gV 20 rfl NG 0 underlying37 rfl sizeOf32 rfl ?_)
    refine gI 21 rfl (by kernel_rfl) (dG 0 (l' := [_, _, _, _, _, _, _, _, _, _, _, _, _, _, _, _, _, _, _, _, _, _, _, _, _, _, _, _, _, _, _, _, _, _]) (us := [_, _, _, _, _, _, _, _, _, _, _]) Py.f5 sizeOf32 rfl rfl rfl (aC (by first | rfl | assumption) (aC (by first | rfl | assumption) (aC (by first | rfl | assumption) (aC (by first | rfl | assumption) (aC (by first | rfl | assumption) (aC (by first | rfl | assumption) (aC (by first | rfl | assumption) (aC (by first | rfl | assumption) (aC (by first | rfl | assumption) (aC (by first | rfl | assumption) (aC (by first | rfl | assumption) cZ))))))))))) rfl rfl) ?_
    rintro _ Zu UH
    have Yy := aB.kp (UH.f7.f7.f7.f7.f7.f7.f7)
    refine gB Yy (by kernel_rfl) ?_
    refine qQ (aj (ah (aN rfl (aN rfl (aN rfl (bM rfl (bG 13 underlying37 rfl sizeOf4 rfl (aJ (aT 13 (l' := [_, _, _, _, _, _, _, _, _, _, _, _, _, _, _, _, _, _, _, _, _, _, _, _, _, _, _, _, _, _, _, _, _, _]) UH sizeOf4 rfl rfl (by first | rfl | assumption) rfl rfl) ?_))))))))
    rintro _ Zv VG
    refine bM rfl (bG 14 underlying37 rfl sizeOf4 rfl (aJ (aT 14 (l' := [_, _, _, _, _, _, _, _, _, _, _, _, _, _, _, _, _, _, _, _, _, _, _, _, _, _, _, _, _, _, _, _, _, _]) VG sizeOf4 rfl rfl (by first | rfl | assumption) rfl rfl) ?_))
    rintro _ w37 XW
    refine bM rfl (bG 15 underlying37 rfl sizeOf3 rfl (aJ (aT 15 (l' := [_, _, _, _, _, _, _, _, _, _, _, _, _, _, _, _, _, _, _, _, _, _, _, _, _, _, _, _, _, _, _, _, _, _]) XW sizeOf3 rfl rfl (by first | rfl | assumption) rfl rfl) ?_))
    rintro _ Xd Tf
    refine aA (gU (.inr rfl) results110 ?_)
    have aay := Tf.f2
    have aaz := aay.qJ
    exact ⟨_, _, _, _, _, aaz.f4.f6.f3.f6.f6.f7.f7⟩
   ·skip
    refine lM 12 rfl (by kernel_rfl) (iJ (xU .i64) Nj) (qN rfl) ?_
    rintro _ Zx ⟨b41, rfl, UK⟩
    have Yz := aB.kp (UK.f6.f6.f6.f6.f6.f6)
    refine dZ Yz (fun W hW => (Kp.h hW).right.f5.f5.f5.f5.f5) ?_
    refine kQ 11 rfl (jo (l := [_, _]) UK rfl rfl) ?_
    rintro _ Zy ⟨b42, rfl, UL⟩
    have NH := aB.kp (UL.f7.f7.f7.f7.f7.f7.f7)
    refine dZ NH (fun W hW => (Kp.h hW).right.f6.f6.f6.f6.f6.f6) ?_
    refine jr 18 rfl NH (fun _ => fM (zl := [.pointer none, .pointer none, .pointer none, .map none, .int .i64 0, .bool false, .int .i64 0, .int .i64 0, .int .i64 0, .int .i64 0, .bool false]) (pl := [(0, 1), (1, 1), (2, 1), (3, 1), (4, 1), (5, 1), (6, 1), (7, 1), (8, 1), (9, 1), (10, 1)]) [_, _, _, _, _, _, _, _, _, _, _] underlying32 zeroValue32 rfl (fun w => by kernel_rfl) rfl (.one (by first | rfl | assumption) (.one (by first | rfl | assumption) (.one (by first | rfl | assumption) (.one (by first | rfl | assumption) (.one (by first | rfl | assumption) (.zero (zs := [.bool false]) rfl (.zero (zs := [.int .i64 0]) rfl (.zero (zs := [.int .i64 0]) rfl (.zero (zs := [.int .i64 0]) rfl (.zero (zs := [.int .i64 0]) rfl (.zero (zs := [.bool false]) rfl .nil))))))))))) rfl) ?_
    refine jS 19 rfl NH rfl (gV 20 rfl NH 0 underlying37 rfl sizeOf32 rfl ?_)
    refine gI 21 rfl (by kernel_rfl) (dG 0 (l' := [_, _, _, _, _, _, _, _, _, _, _, _, _, _, _, _, _, _, _, _, _, _, _, _, _, _, _, _, _, _, _, _, _, _]) (us := [_, _, _, _, _, _, _, _, _, _, _]) UL.f5 sizeOf32 rfl rfl rfl (aC (by first | rfl | assumption) (aC (by first | rfl | assumption) (aC (by first | rfl | assumption) (aC (by first | rfl | assumption) (aC (by first | rfl | assumption) (aC (by first | rfl | assumption) (aC (by first | rfl | assumption) (aC (by first | rfl | assumption) (aC (by first | rfl | assumption) (aC (by first | rfl | assumption) (aC (by first | rfl | assumption) cZ))))))))))) rfl rfl) ?_
    rintro _ Y8 UM
    have YA := aB.kp (UM.f7.f7.f7.f7.f7.f7.f7)
    refine gB YA (by kernel_rfl) ?_
    refine qQ (aj (ah (aN rfl (aN rfl (aN rfl (bM rfl (bG 13 underlying37 rfl sizeOf4 rfl (aJ (aT 13 (l' := [_, _, _, _, _, _, _, _, _, _, _, _, _, _, _, _, _, _, _, _, _, _, _, _, _, _, _, _, _, _, _, _, _, _]) UM sizeOf4 rfl rfl (by first | rfl | assumption) rfl rfl) ?_))))))))
    rintro _ Zz Ti
    refine bM rfl (bG 14 underlying37 rfl sizeOf4 rfl (aJ (aT 14 (l' := [_, _, _, _, _, _, _, _, _, _, _, _, _, _, _, _, _, _, _, _, _, _, _, _, _, _, _, _, _, _, _, _, _, _]) Ti sizeOf4 rfl rfl (by first | rfl | assumption) rfl rfl) ?_))
    rintro _ XY RX
    refine bM rfl (bG 15 underlying37 rfl sizeOf3 rfl (aJ (aT 15 (l' := [_, _, _, _, _, _, _, _, _, _, _, _, _, _, _, _, _, _, _, _, _, _, _, _, _, _, _, _, _, _, _, _, _, _]) RX sizeOf3 rfl rfl (by first | rfl | assumption) rfl rfl) ?_))
    rintro _ ZA VH
    refine aA (gU (.inr rfl) results110 ?_)
    have aaA := VH.f3
    have aaB := aaA.qJ
    exact ⟨_, _, _, _, _, aaB.f4.f6.f3.f6.f6.f7.f7⟩
  ·skip
   refine lM 12 rfl (by kernel_rfl) (iJ (xU .i64) Jk) (qN rfl) ?_
   rintro _ w49 ⟨b49, rfl, Zf⟩
   have YB := aB.kp (Zf.f5.right.f5.f5.f5.f5.f5)
   refine dZ YB (fun W hW => (Kp.h hW).right.f4.f4.f4.f4) ?_
   refine kQ 8 rfl (wJ rfl func102 (og Zf.f5)) ?_
   rintro _ w50 ⟨rfl, U2⟩
   have U3 := aB.kp (U2.f6.f6.f6.f6.f6.f6)
   refine dZ U3 (fun W hW => (Kp.h hW).right.f5.f5.f5.f5.f5) ?_
   refine jr 10 rfl U3 (fun _ => fM (zl := [.int .i64 0, .map none]) (pl := [(0, 1), (1, 1)]) [_, _] underlying85 zeroValue85 rfl (fun w => by kernel_rfl) rfl (.one (by first | rfl | assumption) (.one (by first | rfl | assumption) .nil)) rfl) ?_
   refine kQ 11 rfl (jo (l := [_, _]) U2 rfl rfl) ?_
   rintro _ w51 ⟨b51, rfl, TT⟩
   have NI := aB.kp (TT.f7.f7.f7.f7.f7.f7.f7)
   refine dZ NI (fun W hW => (Kp.h hW).right.f6.f6.f6.f6.f6.f6) ?_
   refine jr 18 rfl NI (fun _ => fM (zl := [.pointer none, .pointer none, .pointer none, .map none, .int .i64 0, .bool false, .int .i64 0, .int .i64 0, .int .i64 0, .int .i64 0, .bool false]) (pl := [(0, 1), (1, 1), (2, 1), (3, 1), (4, 1), (5, 1), (6, 1), (7, 1), (8, 1), (9, 1), (10, 1)]) [_, _, _, _, _, _, _, _, _, _, _] underlying32 zeroValue32 rfl (fun w => by kernel_rfl) rfl (.one (by first | rfl | assumption) (.one (by first | rfl | assumption) (.one (by first | rfl | assumption) (.one (by first | rfl | assumption) (.one (by first | rfl | assumption) (.zero (zs := [.bool false]) rfl (.zero (zs := [.int .i64 0]) rfl (.zero (zs := [.int .i64 0]) rfl (.zero (zs := [.int .i64 0]) rfl (.zero (zs := [.int .i64 0]) rfl (.zero (zs := [.bool false]) rfl .nil))))))))))) rfl) ?_
   refine jS 19 rfl NI rfl (gV 20 rfl NI 0 underlying37 rfl sizeOf32 rfl ?_)
   refine gI 21 rfl (by kernel_rfl) (dG 0 (l' := [_, _, _, _, _, _, _, _, _, _, _, _, _, _, _, _, _, _, _, _, _, _, _, _, _, _, _, _, _, _, _, _, _, _]) (us := [_, _, _, _, _, _, _, _, _, _, _]) TT.f5 sizeOf32 rfl rfl rfl (aC (by first | rfl | assumption) (aC (by first | rfl | assumption) (aC (by first | rfl | assumption) (aC (by first | rfl | assumption) (aC (by first | rfl | assumption) (aC (by first | rfl | assumption) (aC (by first | rfl | assumption) (aC (by first | rfl | assumption) (aC (by first | rfl | assumption) (aC (by first | rfl | assumption) (aC (by first | rfl | assumption) cZ))))))))))) rfl rfl) ?_
   rintro _ w52 RZ
   have YC := aB.kp (RZ.f7.f7.f7.f7.f7.f7.f7)
   refine gB YC (by kernel_rfl) ?_
   refine qQ (aj (ah (aN rfl (aN rfl (aN rfl (bM rfl (bG 13 underlying37 rfl sizeOf4 rfl (aJ (aT 13 (l' := [_, _, _, _, _, _, _, _, _, _, _, _, _, _, _, _, _, _, _, _, _, _, _, _, _, _, _, _, _, _, _, _, _, _]) RZ sizeOf4 rfl rfl (by first | rfl | assumption) rfl rfl) ?_))))))))
   rintro _ w53 Si
   refine bM rfl (bG 14 underlying37 rfl sizeOf4 rfl (aJ (aT 14 (l' := [_, _, _, _, _, _, _, _, _, _, _, _, _, _, _, _, _, _, _, _, _, _, _, _, _, _, _, _, _, _, _, _, _, _]) Si sizeOf4 rfl rfl (by first | rfl | assumption) rfl rfl) ?_))
   rintro _ w54 YD
   refine bM rfl (bG 15 underlying37 rfl sizeOf3 rfl (aJ (aT 15 (l' := [_, _, _, _, _, _, _, _, _, _, _, _, _, _, _, _, _, _, _, _, _, _, _, _, _, _, _, _, _, _, _, _, _, _]) YD sizeOf3 rfl rfl (by first | rfl | assumption) rfl rfl) ?_))
   rintro _ w55 Xl
   refine aA (gU (.inr rfl) results110 ?_)
   have aaC := Xl.f4
   have aaD := aaC.qJ
   exact ⟨_, _, _, _, _, aaD.f4.f6.f3.f6.f6.f7.f7⟩
 ·skip
  refine lM 12 rfl (by kernel_rfl) (iJ (xU .i64) TS) (qN rfl) ?_
  rintro _ w58 ⟨b58, rfl, QO⟩
  have YE := aB.kp (QO.f4.right.f4.f4.f4.f4)
  refine dZ YE (fun W hW => (Kp.h hW).right.f3.f3.f3) ?_
  refine CX (i := 8) (j := 9) (by kernel_rfl) ?_ ?_
  ·skip
   refine lM 8 rfl (by kernel_rfl) (yH (Aa rfl func102 rfl rfl) (og QO.f4)) (qN rfl) ?_
   rintro _ w59 ⟨rfl, Wj⟩
   have YF := aB.kp (Wj.f5.f5.f5.f5.f5)
   refine dZ YF (fun W hW => (Kp.h hW).right.f4.f4.f4.f4) ?_
   refine kQ 9 rfl (iJ (xU .i64) Wj) ?_
   rintro _ Zg ⟨b60, rfl, U4⟩
   have U5 := aB.kp (U4.f6.f6.f6.f6.f6.f6)
   refine dZ U5 (fun W hW => (Kp.h hW).right.f5.f5.f5.f5.f5) ?_
   refine jr 10 rfl U5 (fun _ => fM (zl := [.int .i64 0, .map none]) (pl := [(0, 1), (1, 1)]) [_, _] underlying85 zeroValue85 rfl (fun w => by kernel_rfl) rfl (.one (by first | rfl | assumption) (.one (by first | rfl | assumption) .nil)) rfl) ?_
   refine kQ 11 rfl (jo (l := [_, _]) U4 rfl rfl) ?_
   rintro _ w61 ⟨b61, rfl, Xm⟩
   have NJ := aB.kp (Xm.f7.f7.f7.f7.f7.f7.f7)
   refine dZ NJ (fun W hW => (Kp.h hW).right.f6.f6.f6.f6.f6.f6) ?_
   refine jr 18 rfl NJ (fun _ => fM (zl := [.pointer none, .pointer none, .pointer none, .map none, .int .i64 0, .bool false, .int .i64 0, .int .i64 0, .int .i64 0, .int .i64 0, .bool false]) (pl := [(0, 1), (1, 1), (2, 1), (3, 1), (4, 1), (5, 1), (6, 1), (7, 1), (8, 1), (9, 1), (10, 1)]) [_, _, _, _, _, _, _, _, _, _, _] underlying32 zeroValue32 rfl (fun w => by kernel_rfl) rfl (.one (by first | rfl | assumption) (.one (by first | rfl | assumption) (.one (by first | rfl | assumption) (.one (by first | rfl | assumption) (.one (by first | rfl | assumption) (.zero (zs := [.bool false]) rfl (.zero (zs := [.int .i64 0]) rfl (.zero (zs := [.int .i64 0]) rfl (.zero (zs := [.int .i64 0]) rfl (.zero (zs := [.int .i64 0]) rfl (.zero (zs := [.bool false]) rfl .nil))))))))))) rfl) ?_
   refine jS 19 rfl NJ rfl (gV 20 rfl NJ 0 underlying37 rfl sizeOf32 rfl ?_)
   refine gI 21 rfl (by kernel_rfl) (dG 0 (l' := [_, _, _, _, _, _, _, _, _, _, _, _, _, _, _, _, _, _, _, _, _, _, _, _, _, _, _, _, _, _, _, _, _, _]) (us := [_, _, _, _, _, _, _, _, _, _, _]) Xm.f5 sizeOf32 rfl rfl rfl (aC (by first | rfl | assumption) (aC (by first | rfl | assumption) (aC (by first | rfl | assumption) (aC (by first | rfl | assumption) (aC (by first | rfl | assumption) (aC (by first | rfl | assumption) (aC (by first | rfl | assumption) (aC (by first | rfl | assumption) (aC (by first | rfl | assumption) (aC (by first | rfl | assumption) (aC (by first | rfl | assumption) cZ))))))))))) rfl rfl) ?_
   rintro _ w62 Wn
   have YG := aB.kp (Wn.f7.f7.f7.f7.f7.f7.f7)
   refine gB YG (by kernel_rfl) ?_
   refine qQ (aj (ah (aN rfl (aN rfl (aN rfl (bM rfl (bG 13 underlying37 rfl sizeOf4 rfl (aJ (aT 13 (l' := [_, _, _, _, _, _, _, _, _, _, _, _, _, _, _, _, _, _, _, _, _, _, _, _, _, _, _, _, _, _, _, _, _, _]) Wn sizeOf4 rfl rfl (by first | rfl | assumption) rfl rfl) ?_))))))))
   rintro _ w63 Wp
   refine bM rfl (bG 14 underlying37 rfl sizeOf4 rfl (aJ (aT 14 (l' := [_, _, _, _, _, _, _, _, _, _, _, _, _, _, _, _, _, _, _, _, _, _, _, _, _, _, _, _, _, _, _, _, _, _]) Wp sizeOf4 rfl rfl (by first | rfl | assumption) rfl rfl) ?_))
   rintro _ w64 TU
   refine bM rfl (bG 15 underlying37 rfl sizeOf3 rfl (aJ (aT 15 (l' := [_, _, _, _, _, _, _, _, _, _, _, _, _, _, _, _, _, _, _, _, _, _, _, _, _, _, _, _, _, _, _, _, _, _]) TU sizeOf3 rfl rfl (by first | rfl | assumption) rfl rfl) ?_))
   rintro _ w65 H65
   refine aA (gU (.inr rfl) results110 ?_)
   have aaE := H65.f5
   have aaF := aaE.qJ
   exact ⟨_, _, _, _, _, aaF.f5.f6.f3.f6.f6.f7.f7⟩
  ·skip
   refine lM 9 rfl (by kernel_rfl) (iJ (xU .i64) QO) (qN rfl) ?_
   rintro _ w68 ⟨b68, rfl, Xn⟩
   have YH := aB.kp (Xn.f5.right.f5.f5.f5.f5.f5)
   refine dZ YH (fun W hW => (Kp.h hW).right.f4.f4.f4.f4) ?_
   refine kQ 8 rfl (wJ rfl func102 (og Xn.f5)) ?_
   rintro _ w69 ⟨rfl, Xo⟩
   have U6 := aB.kp (Xo.f6.f6.f6.f6.f6.f6)
   refine dZ U6 (fun W hW => (Kp.h hW).right.f5.f5.f5.f5.f5) ?_
   refine jr 10 rfl U6 (fun _ => fM (zl := [.int .i64 0, .map none]) (pl := [(0, 1), (1, 1)]) [_, _] underlying85 zeroValue85 rfl (fun w => by kernel_rfl) rfl (.one (by first | rfl | assumption) (.one (by first | rfl | assumption) .nil)) rfl) ?_
   refine kQ 11 rfl (jo (l := [_, _]) Xo rfl rfl) ?_
   rintro _ w70 ⟨b70, rfl, Wq⟩
   have NK := aB.kp (Wq.f7.f7.f7.f7.f7.f7.f7)
   refine dZ NK (fun W hW => (Kp.h hW).right.f6.f6.f6.f6.f6.f6) ?_
   refine jr 18 rfl NK (fun _ => fM (zl := [.pointer none, .pointer none, .pointer none, .map none, .int .i64 0, .bool false, .int .i64 0, .int .i64 0, .int .i64 0, .int .i64 0, .bool false]) (pl := [(0, 1), (1, 1), (2, 1), (3, 1), (4, 1), (5, 1), (6, 1), (7, 1), (8, 1), (9, 1), (10, 1)]) [_, _, _, _, _, _, _, _, _, _, _] underlying32 zeroValue32 rfl (fun w => by kernel_rfl) rfl (.one (by first | rfl | assumption) (.one (by first | rfl | assumption) (.one (by first | rfl | assumption) (.one (by first | rfl | assumption) (.one (by first | rfl | assumption) (.zero (zs := [.bool false]) rfl (.zero (zs := [.int .i64 0]) rfl (.zero (zs := [.int .i64 0]) rfl (.zero (zs := [.int .i64 0]) rfl (.zero (zs := [.int .i64 0]) rfl (.zero (zs := [.bool false]) rfl .nil))))))))))) rfl) ?_
   refine jS 19 rfl NK rfl (gV 20 rfl NK 0 underlying37 rfl sizeOf32 rfl ?_)
   refine gI 21 rfl (by kernel_rfl) (dG 0 (l' := [_, _, _, _, _, _, _, _, _, _, _, _, _, _, _, _, _, _, _, _, _, _, _, _, _, _, _, _, _, _, _, _, _, _]) (us := [_, _, _, _, _, _, _, _, _, _, _]) Wq.f5 sizeOf32 rfl rfl rfl (aC (by first | rfl | assumption) (aC (by first | rfl | assumption) (aC (by first | rfl | assumption) (aC (by first | rfl | assumption) (aC (by first | rfl | assumption) (aC (by first | rfl | assumption) (aC (by first | rfl | assumption) (aC (by first | rfl | assumption) (aC (by first | rfl | assumption) (aC (by first | rfl | assumption) (aC (by first | rfl | assumption) cZ))))))))))) rfl rfl) ?_
   rintro _ w71 U7
   have YI := aB.kp (U7.f7.f7.f7.f7.f7.f7.f7)
   refine gB YI (by kernel_rfl) ?_
   refine qQ (aj (ah (aN rfl (aN rfl (aN rfl (bM rfl (bG 13 underlying37 rfl sizeOf4 rfl (aJ (aT 13 (l' := [_, _, _, _, _, _, _, _, _, _, _, _, _, _, _, _, _, _, _, _, _, _, _, _, _, _, _, _, _, _, _, _, _, _]) U7 sizeOf4 rfl rfl (by first | rfl | assumption) rfl rfl) ?_))))))))
   rintro _ w72 Ws
   refine bM rfl (bG 14 underlying37 rfl sizeOf4 rfl (aJ (aT 14 (l' := [_, _, _, _, _, _, _, _, _, _, _, _, _, _, _, _, _, _, _, _, _, _, _, _, _, _, _, _, _, _, _, _, _, _]) Ws sizeOf4 rfl rfl (by first | rfl | assumption) rfl rfl) ?_))
   rintro _ w73 H73
   refine bM rfl (bG 15 underlying37 rfl sizeOf3 rfl (aJ (aT 15 (l' := [_, _, _, _, _, _, _, _, _, _, _, _, _, _, _, _, _, _, _, _, _, _, _, _, _, _, _, _, _, _, _, _, _, _]) H73 sizeOf3 rfl rfl (by first | rfl | assumption) rfl rfl) ?_))
   rintro _ w74 H74
   refine aA (gU (.inr rfl) results110 ?_)
   have aaG := H74.f5
   have aaH := aaG.qJ
   exact ⟨_, _, _, _, _, aaH.f4.f6.f3.f6.f6.f7.f7⟩
theorem aB.yS {c : lY} {u : List Value} (H : aB w0 w F) (hu : (u.all fun x => x.oneCell') = true) : aB w0 w (rV false c u • F) := by
  unfold rV
  rw [if_neg (by decide)]
  exact H.kE hu
theorem rW {dU : Bool} {c : lY} {u : List Value} (H : aB w0 w (rV dU c u • F)) : (u.all fun x => x.oneCell') = true := by
  unfold rV at H
  cases dU with
  | true =>
    rw [if_pos rfl] at H
    obtain ⟨⟨pb, pr, pw, pt, pm⟩, H⟩ := H.ng
    obtain ⟨h, _⟩ := H.flat.fact
    rw [h]; rfl
  | false =>
    rw [if_neg (by decide)] at H
    exact H.fact.1
theorem aB.Wu {pb pr pw pt pm : Nat} {c : lY} (H : aB w0 w (dW pb c.L c.pt c.mark • dw pr c.E c.at_ • dH pw (.cells #[.int .i64 c.place, .map (some pt)] 85 (0, 0)) • fJ qE pt (wY c.tx) • uV pm c.un • F)) : aB w0 w (rV true c (Nz pb pr pw pm c) • F) := by
  unfold rV
  rw [if_pos rfl]
  exact aB.iH (pb, pr, pw, pt, pm) (aB.deep (aB.kE rfl (H.of_eq (by unfold LP; simp only [cO]))))
theorem aB.was {c : lY} {u : List Value} (H : aB w0 w (rV true c u • F)) : ∃ pb pr pw pt pm, u = Nz pb pr pw pm c ∧ aB w0 w (dW pb c.L c.pt c.mark • dw pr c.E c.at_ • dH pw (.cells #[.int .i64 c.place, .map (some pt)] 85 (0, 0)) • fJ qE pt (wY c.tx) • uV pm c.un • F) := by
  unfold rV at H
  rw [if_pos rfl] at H
  obtain ⟨⟨pb, pr, pw, pt, pm⟩, H⟩ := H.ng
  obtain ⟨h, H⟩ := H.flat.fact
  exact ⟨pb, pr, pw, pt, pm, h, H.of_eq (by unfold LP; simp only [cO])⟩
theorem aB.Ec {pb pr pw pt pm ph bl : Nat} {u0 u1 u2 u3 u4 u5 u6 u7 u8 u9 ua : Value} (h1 : kP s) (hp : s.put = []) (H : aB w0 w (dH e (.cells (.pointer (some ⟨pb, 0, none⟩) :: .pointer (some ⟨pr, 0, none⟩) :: .pointer (some ⟨pw, 0, none⟩) :: .map (some pm) :: .int .i64 s.c.mode :: .bool s.c.over :: .int .i64 s.c.last :: .int .i64 s.c.fr :: .int .i64 s.c.to :: .int .i64 s.c.res :: .bool s.c.run :: .pointer (some ⟨ph, 0, none⟩) :: .pointer (some ⟨bl, 0, none⟩) :: .bool s.given :: .bool s.minus :: .int .i64 s.arg :: .bool s.dU :: u0 :: u1 :: u2 :: u3 :: u4 :: u5 :: u6 :: u7 :: u8 :: u9 :: ua :: .int .i64 s.cls :: .bool s.killed :: .bool s.lu :: .bool s.argues :: .bool s.whole :: .slice none 0 0 :: []).toArray 37 (0, 0)) • dW pb s.c.L s.c.pt s.c.mark • dw pr s.c.E s.c.at_ • dH pw (.cells #[.int .i64 s.c.place, .map (some pt)] 85 (0, 0)) • fJ qE pt (wY s.c.tx) • uV pm s.c.un • fU ph s.hl s.base s.most • dH bl (.cells #[.int .i64 s.wX] 106 (0, 0)) • rV s.dU s.was [u0, u1, u2, u3, u4, u5, u6, u7, u8, u9, ua] • F)) : aB w0 w (dA e s • F) := by
  refine aB.dM (pb := pb) (pr := pr) (pw := pw) (pt := pt) (pm := pm) (ph := ph) (bl := bl) (u0 := u0) (u1 := u1) (u2 := u2) (u3 := u3) (u4 := u4) (u5 := u5) (u6 := u6) (u7 := u7) (u8 := u8) (u9 := u9) (ua := ua) (pv := .slice none 0 0) (es := []) h1 (by rw [hp]; rfl) ?_
  rw [hp]
  exact (H.qx none).of_eq (by unfold Fh; ac_rfl)
theorem aB.L6 {pb pr pw pt pm ph bl : Nat} {u0 u1 u2 u3 u4 u5 u6 u7 u8 u9 ua : Value} (h1 : kP s) (hp : s.put = []) (hi : s.dU = false) (H : aB w0 w (dH e (.cells (.pointer (some ⟨pb, 0, none⟩) :: .pointer (some ⟨pr, 0, none⟩) :: .pointer (some ⟨pw, 0, none⟩) :: .map (some pm) :: .int .i64 s.c.mode :: .bool s.c.over :: .int .i64 s.c.last :: .int .i64 s.c.fr :: .int .i64 s.c.to :: .int .i64 s.c.res :: .bool s.c.run :: .pointer (some ⟨ph, 0, none⟩) :: .pointer (some ⟨bl, 0, none⟩) :: .bool s.given :: .bool s.minus :: .int .i64 s.arg :: .bool false :: u0 :: u1 :: u2 :: u3 :: u4 :: u5 :: u6 :: u7 :: u8 :: u9 :: ua :: .int .i64 s.cls :: .bool s.killed :: .bool s.lu :: .bool s.argues :: .bool s.whole :: .slice none 0 0 :: []).toArray 37 (0, 0)) • dW pb s.c.L s.c.pt s.c.mark • dw pr s.c.E s.c.at_ • dH pw (.cells #[.int .i64 s.c.place, .map (some pt)] 85 (0, 0)) • fJ qE pt (wY s.c.tx) • uV pm s.c.un • fU ph s.hl s.base s.most • dH bl (.cells #[.int .i64 s.wX] 106 (0, 0)) • F)) (hu : ([u0, u1, u2, u3, u4, u5, u6, u7, u8, u9, ua].all fun x => x.oneCell') = true := by rfl) : aB w0 w (dA e s • F) := by
  refine aB.Ec (pb := pb) (pr := pr) (pw := pw) (pt := pt) (pm := pm) (ph := ph) (bl := bl) (u0 := u0) (u1 := u1) (u2 := u2) (u3 := u3) (u4 := u4) (u5 := u5) (u6 := u6) (u7 := u7) (u8 := u8) (u9 := u9) (ua := ua) h1 hp ?_
  rw [hi]
  exact (H.yS (c := s.was) (u := [u0, u1, u2, u3, u4, u5, u6, u7, u8, u9, ua]) hu).of_eq (by ac_rfl)
theorem aB.QS {pb pr pw pt pm ph bl : Nat} {u0 u1 u2 u3 u4 u5 u6 u7 u8 u9 ua : Value} {pv : Value} {es : List dD} (h1 : kP s) (h2 : es.map dD.says = s.put) (H : aB w0 w (Fh pv es • dH e (.cells (.pointer (some ⟨pb, 0, none⟩) :: .pointer (some ⟨pr, 0, none⟩) :: .pointer (some ⟨pw, 0, none⟩) :: .map (some pm) :: .int .i64 s.c.mode :: .bool s.c.over :: .int .i64 s.c.last :: .int .i64 s.c.fr :: .int .i64 s.c.to :: .int .i64 s.c.res :: .bool s.c.run :: .pointer (some ⟨ph, 0, none⟩) :: .pointer (some ⟨bl, 0, none⟩) :: .bool s.given :: .bool s.minus :: .int .i64 s.arg :: .bool s.dU :: u0 :: u1 :: u2 :: u3 :: u4 :: u5 :: u6 :: u7 :: u8 :: u9 :: ua :: .int .i64 s.cls :: .bool s.killed :: .bool s.lu :: .bool s.argues :: .bool s.whole :: pv :: []).toArray 37 (0, 0)) • dW pb s.c.L s.c.pt s.c.mark • dw pr s.c.E s.c.at_ • dH pw (.cells #[.int .i64 s.c.place, .map (some pt)] 85 (0, 0)) • fJ qE pt (wY s.c.tx) • uV pm s.c.un • fU ph s.hl s.base s.most • dH bl (.cells #[.int .i64 s.wX] 106 (0, 0)) • rV s.dU s.was [u0, u1, u2, u3, u4, u5, u6, u7, u8, u9, ua] • F)) : aB w0 w (dA e s • F) := by
  refine aB.dM (pb := pb) (pr := pr) (pw := pw) (pt := pt) (pm := pm) (ph := ph) (bl := bl) (u0 := u0) (u1 := u1) (u2 := u2) (u3 := u3) (u4 := u4) (u5 := u5) (u6 := u6) (u7 := u7) (u8 := u8) (u9 := u9) (ua := ua) (pv := pv) (es := es) h1 h2 ?_
  have hl : s.put.length = es.length := by rw [← h2]; simp
  rw [hl]
  exact H.of_eq (by unfold Fh; ac_rfl)
theorem JV (hl : List qO) (l : List Int) (E : List (List Int)) (a : Nat) (m : Int) : LQ hl (lY.fresh l E a hl.length m) := ⟨by simp [lY.fresh], by simp [lY.fresh], by simp [lY.fresh]⟩
theorem Wv (hl : List qO) (base most : Int) : kP (bC.new hl base most) :=
  ⟨JV _ _ _ _ _, by simp [bC.new], by simp [bC.new], by simp [bC.new], by simp [bC.new, bC.here, lY.fresh, eY], by simp [bC.new, lY.fresh]⟩
theorem L8 (H : aB w0 w (fU h hl base most • F)) : fG prog 40 #[.pointer (some ⟨h, 0, none⟩)] w fun v w' => ∃ e, v = .tuple #[.pointer (some ⟨e, 0, none⟩), .int .i64 0] ∧ aB w0 w' (dA e (bC.new hl base most) • fU h hl base most • F) := by
 refine gG func40 ntmps40 ?_
 dsimp only [bf, Nat.reduceAdd]
 refine ay (ah (aV rfl (aV rfl (aA (aj (ay (ay (ah (aN rfl (bW rfl func45 (oh H) ?_))))))))))
 rintro _ w1 ⟨q1, rfl, H1⟩
 refine aU (iq underlying33 rfl rfl) (aA (aj (aP rfl (fun h => by exfalso; (try simp only [aF] at h); simp at h) (fun h1 => ?_))))
 (try simp only [aF] at h1)
 refine aO (aj (ay (ah (aU (fM (zl := [.int .i64 0]) (pl := [(0, 0), (0, 0), (0, 1)]) [_] underlying106 zeroValue106 rfl (fun w => by kernel_rfl) rfl (.zero (zs := []) rfl (.zero (zs := []) rfl (.zero (zs := [.int .i64 0]) rfl .nil))) rfl) (iy (jo (l := [_]) H1 rfl rfl) ?_)))))
 rintro _ w2 ⟨b2, rfl, H2⟩
 refine aU (fM (zl := [.pointer none, .pointer none, .pointer none, .map none, .int .i64 0, .bool false, .int .i64 0, .int .i64 0, .int .i64 0, .int .i64 0, .bool false, .pointer none, .pointer none, .bool false, .bool false, .int .i64 0, .bool false, .pointer none, .pointer none, .pointer none, .map none, .int .i64 0, .bool false, .int .i64 0, .int .i64 0, .int .i64 0, .int .i64 0, .bool false, .int .i64 0, .bool false, .bool false, .bool false, .bool false, .slice none 0 0]) (pl := [(0, 11), (11, 1), (12, 1), (13, 1), (14, 1), (15, 1), (16, 1), (17, 11), (28, 1), (29, 1), (30, 1), (31, 1), (32, 1), (33, 1)]) [_, _, _, _, _, _, _, _, _, _, _, _, _, _, _, _, _, _, _, _, _, _, _, _, _, _, _, _, _, _, _, _, _, _] underlying37 zeroValue37 rfl (fun w => by kernel_rfl) rfl (.zero (zs := [.pointer none, .pointer none, .pointer none, .map none, .int .i64 0, .bool false, .int .i64 0, .int .i64 0, .int .i64 0, .int .i64 0, .bool false]) rfl (.zero (zs := [.pointer none]) rfl (.one (by first | rfl | assumption) (.zero (zs := [.bool false]) rfl (.zero (zs := [.bool false]) rfl (.zero (zs := [.int .i64 0]) rfl (.zero (zs := [.bool false]) rfl (.zero (zs := [.pointer none, .pointer none, .pointer none, .map none, .int .i64 0, .bool false, .int .i64 0, .int .i64 0, .int .i64 0, .int .i64 0, .bool false]) rfl (.zero (zs := [.int .i64 0]) rfl (.zero (zs := [.bool false]) rfl (.zero (zs := [.bool false]) rfl (.zero (zs := [.bool false]) rfl (.zero (zs := [.bool false]) rfl (.zero (zs := [.slice none 0 0]) rfl .nil)))))))))))))) rfl) ?_
 refine iy (jo (l := [_, _, _, _, _, _, _, _, _, _, _, _, _, _, _, _, _, _, _, _, _, _, _, _, _, _, _, _, _, _, _, _, _, _]) H2 rfl rfl) ?_
 rintro _ w3 ⟨b3, rfl, H3⟩
 refine aV rfl (aA (aj (ay (ah (aN rfl (bW rfl func109 (Hz H3) ?_))))))
 rintro _ w4 ⟨p4, rfl, H4⟩
 refine bM rfl (bG 0 underlying37 rfl sizeOf32 rfl (bG 1 underlying32 rfl sizeOf28 rfl (aJ (aT 1 (l' := [_, _, _, _, _, _, _, _, _, _, _, _, _, _, _, _, _, _, _, _, _, _, _, _, _, _, _, _, _, _, _, _, _, _]) H4.f2 sizeOf28 rfl rfl (by first | rfl | assumption) rfl rfl) ?_)))
 rintro _ w5 H5
 refine aA (aj (ay (ah (aN rfl (aN rfl (bW rfl func110 (yE (E := []) (a := 0) H5.f4.right.f3.f3.f4.f4 (l := []) (fun W _ => iw.nil W _ none 0 (by decide)) (by decide)) ?_))))))
 rintro _ w6 ⟨qb, qw, qt, qm, qh, H6⟩
 refine aA (aj (ay (ah (aN rfl (aV rfl (aV rfl (aA (aj (aI (mW (.inl rfl) results40 rfl rfl ?_))))))))))
 exact ⟨_, rfl, aB.L6 (s := bC.new hl base most) (Wv _ _ _) rfl rfl H6.f7.f9.f8.f8.f8.f8.f9.f9.f9⟩
end
end Go.Proofs.YtgndbccogcofjaaGreatDoor
end
section
namespace Go.Proofs.YtgndbccogcofjaaGreatDoor
open Go.RowKit
open _root_.Go.Proofs.Tryz
section
variable {w0 w : World} {F : HP} {e p h pr : Nat} {s : bC} {hl : List qO} {base most m : Int} {v : Value} {l : List Int}
theorem rG (h : s.dU = false) : s.aW = { s with dU := true, was := s.c, cls := 0, killed := false, lu := false, argues := false, whole := true, put := [] } := by unfold bC.aW; rw [if_neg (by simp [h])]
theorem L9 (h : s.dU = true) : s.aW = s := by unfold bC.aW; rw [if_pos h]
theorem NM {G : List (List fB)} {N : List fB} (h : eY G N ≤ 16384) : eY G [] ≤ 16384 := by unfold eY at *; simp at *; omega
theorem QT (h : kP s) (hi : s.dU = false) : kP s.aW := by
  rw [rG hi]
  obtain ⟨h1, h2, h3, h4, h5, h6⟩ := h
  exact ⟨h1, fun _ => ⟨h1, NM h5, h6⟩, h3, by simp, NM h5, h6⟩
theorem zM (H : aB w0 w (dA e s • F)) : fG prog 26 #[.pointer (some ⟨e, 0, none⟩)] w fun v w' => v = .int .i64 s.Ap ∧ aB w0 w' (dA e s.aW • F) := by
 refine gG func26 ntmps26 ?_
 dsimp only [bf, Nat.reduceAdd]
 refine ay (ah (aV rfl (aA (aj (ay (bF (ay (ah (aN rfl (bW rfl func32 (lD H) ?_))))))))))
 rintro _ _ ⟨rfl, rfl⟩
 refine aV rfl (aA (aj (mO (ay ?_))))
 obtain ⟨su, sD, sF, sG, sH, sJ, sK, sN, qI, oI, oJ, oK, oL, oM, oN, oO, oP, oQ, oU, oV, dK, bH, gZ, dO⟩ := (H).BQ
 refine ah (aN rfl (bM rfl (bG 16 underlying37 rfl sizeOf4 rfl (dX underlying4 rfl (dO).get.2 rfl (aV rfl (aA (aj (aP rfl (fun h1 => ?_) (fun h1 => ?_)))))))))
 ·(try simp only [aF] at h1)
  try (exfalso; first | contradiction | omega)
  all_goals
   have hin := h1
   refine ay (ah (aV rfl (aA (aj (aI (aY (aK (aH (.inl rfl) results26 rfl ?_))))))))
   exact ⟨by unfold bC.Ap; rw [if_pos hin], by rw [L9 hin]; exact aB.dM dK bH dO.f11.f11.f11.f11.f11.f11.f11.f11.f11.f11.f11⟩
 ·(try simp only [aF] at h1)
  try (exfalso; first | contradiction | omega)
  all_goals
   have hin := h1
   refine aO (aQ (aj (ay (ah (aN rfl (aN rfl (aN rfl (bM rfl (bG 0 underlying37 rfl sizeOf32 rfl (aU (sS 0 (xs := [_, _, _, _, _, _, _, _, _, _, _]) underlying32 rfl sizeOf32 rfl rfl (dO).get.2 rfl) (bW rfl func44 (JR dO.f6.f6.f6.f6.f6) ?_)))))))))))
   rintro _ w3 ⟨qb3, qr3, qw3, qt3, qm3, rfl, H3⟩
   refine bM rfl (bG 16 underlying37 rfl sizeOf4 rfl (aJ (aT 16 (l' := [_, _, _, _, _, _, _, _, _, _, _, _, _, _, _, _, _, _, _, _, _, _, _, _, _, _, _, _, _, _, _, _, _, _]) H3.f11 sizeOf4 rfl rfl (by first | rfl | assumption) rfl rfl) ?_))
   rintro _ w4 H4
   refine bM rfl (bG 17 underlying37 rfl sizeOf32 rfl (aJ (dG 17 (l' := [_, _, _, _, _, _, _, _, _, _, _, _, _, _, _, _, _, _, _, _, _, _, _, _, _, _, _, _, _, _, _, _, _, _]) (us := [_, _, _, _, _, _, _, _, _, _, _]) H4 sizeOf32 rfl rfl rfl (aC (by first | rfl | assumption) (aC (by first | rfl | assumption) (aC (by first | rfl | assumption) (aC (by first | rfl | assumption) (aC (by first | rfl | assumption) (aC (by first | rfl | assumption) (aC (by first | rfl | assumption) (aC (by first | rfl | assumption) (aC (by first | rfl | assumption) (aC (by first | rfl | assumption) (aC (by first | rfl | assumption) cZ))))))))))) rfl rfl) ?_))
   rintro _ w5 H5
   refine aA (aj (ay (ah (aN rfl (aN rfl (aN rfl (aN rfl (aN rfl (aN rfl (bM rfl (bG 28 underlying37 rfl sizeOf3 rfl (aJ (aT 28 (l' := [_, _, _, _, _, _, _, _, _, _, _, _, _, _, _, _, _, _, _, _, _, _, _, _, _, _, _, _, _, _, _, _, _, _]) H5 sizeOf3 rfl rfl (by first | rfl | assumption) rfl rfl) ?_))))))))))))
   rintro _ w6 H6
   refine bM rfl (bG 29 underlying37 rfl sizeOf4 rfl (aJ (aT 29 (l' := [_, _, _, _, _, _, _, _, _, _, _, _, _, _, _, _, _, _, _, _, _, _, _, _, _, _, _, _, _, _, _, _, _, _]) H6 sizeOf4 rfl rfl (by first | rfl | assumption) rfl rfl) ?_))
   rintro _ w7 H7
   refine bM rfl (bG 30 underlying37 rfl sizeOf4 rfl (aJ (aT 30 (l' := [_, _, _, _, _, _, _, _, _, _, _, _, _, _, _, _, _, _, _, _, _, _, _, _, _, _, _, _, _, _, _, _, _, _]) H7 sizeOf4 rfl rfl (by first | rfl | assumption) rfl rfl) ?_))
   rintro _ w8 H8
   refine bM rfl (bG 31 underlying37 rfl sizeOf4 rfl (aJ (aT 31 (l' := [_, _, _, _, _, _, _, _, _, _, _, _, _, _, _, _, _, _, _, _, _, _, _, _, _, _, _, _, _, _, _, _, _, _]) H8 sizeOf4 rfl rfl (by first | rfl | assumption) rfl rfl) ?_))
   rintro _ w9 H9
   refine bM rfl (bG 32 underlying37 rfl sizeOf4 rfl (aJ (aT 32 (l' := [_, _, _, _, _, _, _, _, _, _, _, _, _, _, _, _, _, _, _, _, _, _, _, _, _, _, _, _, _, _, _, _, _, _]) H9 sizeOf4 rfl rfl (by first | rfl | assumption) rfl rfl) ?_))
   rintro _ w10 oZ
   refine bM rfl (bG 33 underlying37 rfl sizeOf35 rfl (aJ (aT 33 (l' := [_, _, _, _, _, _, _, _, _, _, _, _, _, _, _, _, _, _, _, _, _, _, _, _, _, _, _, _, _, _, _, _, _, _]) oZ sizeOf35 rfl rfl (by first | rfl | assumption) rfl rfl) ?_))
   rintro _ KG yt
   refine aA (aj (ay (ah (aV rfl (aA (aj (aI (aH (.inl rfl) results26 rfl ?_))))))))
   have LY := yt.f6.f6.f6.f6.f6
   have LZ := aB.Wu (c := s.c) LY
   exact ⟨by unfold bC.Ap; rw [if_neg (by simp [hin])], by rw [rG hin]; exact aB.Ec (rG hin ▸ QT dK hin) rfl LZ.f10.right.f10.right.f10.right.f9.f9.f9.f9.f9.f9.f9.f9⟩
end
end Go.Proofs.YtgndbccogcofjaaGreatDoor
end
section
namespace Go.Proofs.YtgndbccogcofjaaGreatDoor
open Go.RowKit
open _root_.Go.Proofs.Tryz
section
variable {w0 w : World} {F : HP} {e p h pr : Nat} {s : bC} {x : Int} {b : Bool}
theorem uY (h : kP s) (L : List Int) (pt mk : Int) : kP (s.iV L pt mk) := h
theorem jl (H : aB w0 w (dA e s • F)) : fG prog 42 #[.pointer (some ⟨e, 0, none⟩), .int .i64 x] w fun v w' => v = .int .i64 (s.nK x) ∧ aB w0 w' (dA e (s.kN x) • F) := by
 refine gG func42 ntmps42 ?_
 dsimp only [bf, Nat.reduceAdd]
 refine ay (ah (aV rfl (aA (aj (ay (ay (ah (aN rfl (bW rfl func94 (kD H) ?_)))))))))
 rintro _ _ ⟨rfl, rfl⟩
 refine aV rfl (aA (aj (ay (ah (aN rfl (aU (bY rfl rfl) (aA (aj (aP rfl (fun h1 => ?_) (fun h1 => ?_))))))))))
 ·(try simp only [aF] at h1)
  obtain ⟨hin, hpe⟩ := zK h1
  refine ay (ah (aN rfl (aV rfl (aA (aj (aI (aK (aH (.inl rfl) results42 rfl ?_))))))))
  rw [hpe]
  exact ⟨by simp [bC.nK, bC.kN, hin], by rw [show s.kN x = s from by simp [bC.nK, bC.kN, hin]]; exact H⟩
 ·(try simp only [aF] at h1)
  have hin := wZ h1
  refine aO (aj (ay ?_))
  obtain ⟨su, sD, sF, sG, sH, sJ, sK, sN, qI, oI, oJ, oK, oL, oM, oN, oO, oP, oQ, oU, oV, dK, bH, gZ, dO⟩ := (H).BQ
  refine ah (aN rfl (bM rfl (bG 0 underlying37 rfl sizeOf32 rfl (bG 0 underlying32 rfl sizeOf27 rfl (dX underlying27 rfl (dO).get.2 rfl (aN rfl (bW rfl func111 (Hw dO.f2) ?_)))))))
  rintro _ w3 ⟨rfl, H3⟩
  refine aV rfl (aA (aj (aI (aH (.inl rfl) results42 rfl ?_))))
  exact ⟨by simp [bC.nK, hin], by rw [show s.kN x = s.iV s.c.L (RY s.c.L.length s.c.pt x) s.c.mark from by simp [bC.kN, hin]]; exact aB.dM (uY dK _ _ _) bH H3.f11.f11.f11.f11.f11.f11.f11.f11.f11.f10.f11⟩
theorem Iu (H : aB w0 w (dA e s • F)) : fG prog 28 #[.pointer (some ⟨e, 0, none⟩)] w fun v w' => v = .int .i64 s.count ∧ aB w0 w' (dA e s • F) := by
 refine gG func28 ntmps28 ?_
 dsimp only [bf, Nat.reduceAdd]
 refine ay (ah (aV rfl (aA (aj (ay (bF (ay (ah (aN rfl (bW rfl func32 (lD H) ?_))))))))))
 rintro _ _ ⟨rfl, rfl⟩
 refine aV rfl (aA (aj (mO (ay ?_))))
 obtain ⟨su, sD, sF, sG, sH, sJ, sK, sN, qI, oI, oJ, oK, oL, oM, oN, oO, oP, oQ, oU, oV, dK, bH, gZ, dO⟩ := (H).BQ
 have harg := dK.2.2.1
 refine ah (aN rfl (bM rfl (bG 13 underlying37 rfl sizeOf4 rfl (dX underlying4 rfl (dO).get.2 rfl (aU (jY rfl) (aV rfl (aA (aj (aP rfl (fun h1 => ?_) (fun h1 => ?_))))))))))
 ·(try simp only [aF] at h1)
  have hg := h1
  refine ay (ah (aV rfl (aA (aj (aI (aY (aK (aH (.inl rfl) results28 rfl ?_))))))))
  have Qm := dO.f11.f11.f11.f11.f11.f11.f11.f11.f11.f11.f11
  have Qn := aB.dM (s := s) dK bH Qm
  exact ⟨by unfold bC.count; simp only [*]; first | rfl | (split <;> simp_all <;> omega) | simp_all, Qn⟩
 ·(try simp only [aF] at h1)
  have hg := h1
  refine aO (aQ (aj (ay (ah (aN rfl (bM rfl (bG 15 underlying37 rfl sizeOf3 rfl (dX underlying3 rfl (dO).get.2 rfl (aV rfl (aA (aj (ay (ay (ah (aN rfl (aU (eF rfl rfl) (aA (aj (aP rfl (fun h2 => ?_) (fun h2 => ?_))))))))))))))))))))
  ·(try simp only [aF] at h2)
   refine ah (aV rfl (aA (aj (ay (ay (ah (aN rfl (bM rfl (bG 14 underlying37 rfl sizeOf4 rfl (dX underlying4 rfl (dO).get.2 rfl (aA (aj (aP rfl (fun h3 => ?_) (fun h3 => ?_))))))))))))))
   ·(try simp only [aF] at h3)
    refine ay (ah (aN rfl (aU (FK rfl (by omega)) (aV rfl (aA (aj (aI (aK (aH (.inl rfl) results28 rfl ?_)))))))))
    have VT := dO.f11.f11.f11.f11.f11.f11.f11.f11.f11.f11.f11
    have VU := aB.dM (s := s) dK bH VT
    exact ⟨by unfold bC.count; simp only [*]; first | rfl | (split <;> simp_all <;> omega) | simp_all, VU⟩
   ·(try simp only [aF] at h3)
    refine aO (aj (ay (ah (aN rfl (aV rfl (aA (aj (aI (aH (.inl rfl) results28 rfl ?_)))))))))
    have VY := dO.f11.f11.f11.f11.f11.f11.f11.f11.f11.f11.f11
    have VZ := aB.dM (s := s) dK bH VY
    exact ⟨by unfold bC.count; simp only [*]; first | rfl | (split <;> simp_all <;> omega) | simp_all, VZ⟩
  ·(try simp only [aF] at h2)
   refine aO (aj (ay (ay (ah (aN rfl (bM rfl (bG 14 underlying37 rfl sizeOf4 rfl (dX underlying4 rfl (dO).get.2 rfl (aA (aj (aP rfl (fun h4 => ?_) (fun h4 => ?_))))))))))))
   ·(try simp only [aF] at h4)
    refine ay (ah (aN rfl (aU (FK rfl (by omega)) (aV rfl (aA (aj (aI (aK (aH (.inl rfl) results28 rfl ?_)))))))))
    have aaI := dO.f11.f11.f11.f11.f11.f11.f11.f11.f11.f11.f11
    have aaJ := aB.dM (s := s) dK bH aaI
    exact ⟨by unfold bC.count; simp only [*]; first | rfl | (split <;> simp_all <;> omega) | simp_all, aaJ⟩
   ·(try simp only [aF] at h4)
    refine aO (aj (ay (ah (aN rfl (aV rfl (aA (aj (aI (aH (.inl rfl) results28 rfl ?_)))))))))
    have aaK := dO.f11.f11.f11.f11.f11.f11.f11.f11.f11.f11.f11
    have aaL := aB.dM (s := s) dK bH aaK
    exact ⟨by unfold bC.count; simp only [*]; first | rfl | (split <;> simp_all <;> omega) | simp_all, aaL⟩
theorem Iw (H : aB w0 w (dA e s • F)) : fG prog 29 #[.pointer (some ⟨e, 0, none⟩)] w fun v w' => v = .bool s.given ∧ aB w0 w' (dA e s • F) := by
 refine gG func29 ntmps29 ?_
 dsimp only [bf, Nat.reduceAdd]
 refine ay (ah (aV rfl (aA (aj (ay (ah (aN rfl (bW rfl func32 (lD H) ?_))))))))
 rintro _ _ ⟨rfl, rfl⟩
 refine aU (jY rfl) ?_
 obtain ⟨su, sD, sF, sG, sH, sJ, sK, sN, qI, oI, oJ, oK, oL, oM, oN, oO, oP, oQ, oU, oV, dK, bH, gZ, dO⟩ := (H).BQ
 refine eP rfl (fun h1 => ?_) (fun h => by exfalso; (try simp only [aF] at h); simp at h)
 (try simp only [aF] at h1)
 refine aX (aN rfl (aX (bM rfl (aX (bG 13 underlying37 rfl sizeOf4 rfl (aX (dX underlying4 rfl (dO).get.2 rfl (fP rfl rfl (aV rfl (aA (aj (aI (aH (.inl rfl) results29 rfl ?_)))))))))))))
 have Qm := dO.f11.f11.f11.f11.f11.f11.f11.f11.f11.f11.f11
 have Qn := aB.dM (s := s) dK bH Qm
 exact ⟨rfl, Qn⟩
theorem dN (H : aB w0 w (dA e s • F)) : fG prog 21 #[.pointer (some ⟨e, 0, none⟩)] w fun v w' => ∃ u, v = .agg (rE u s.c.pt s.c.mark) ∧ aB w0 w' (gW 21 .i32 u s.c.L • dA e s • F) := by
 refine gG func21 ntmps21 ?_
 dsimp only [bf, Nat.reduceAdd]
 refine ay (ah (iy (gY (l := [_, _, _]) H zeroValue53 rfl) ?_))
 rintro _ w1 ⟨b1, rfl, H1⟩
 refine aA (aj (ay (ay (ah (aN rfl (bW rfl func32 (lD H1.f2) ?_))))))
 rintro _ _ ⟨rfl, rfl⟩
 refine aA (aj (mO (aO (aj (ay ?_)))))
 obtain ⟨su, sD, sF, sG, sH, sJ, sK, sN, qI, oI, oJ, oK, oL, oM, oN, oO, oP, oQ, oU, oV, dK, bH, gZ, dO⟩ := (H1.f2).BQ
 refine ah (aN rfl (bM rfl (bG 0 underlying37 rfl sizeOf32 rfl (bG 0 underlying32 rfl sizeOf27 rfl (dX underlying27 rfl (dO).get.2 rfl (bW rfl func43 (Hy dO.f2) ?_))))))
 rintro _ w4 ⟨u4, rfl, H4⟩
 refine aJ (dG 0 (l' := [_, _, _]) (us := [_, _, _]) H4.f13 sizeOf53 rfl rfl rfl (aC (by first | rfl | exact Rd.one ((H4).aS)) (aC (by first | rfl | assumption) (aC (by first | rfl | assumption) cZ))) rfl rfl) ?_
 rintro _ w5 H5
 refine aA (aj (aI ?_))
 refine vF (.inl rfl) (PU results21 rfl underlying53 rfl (by rw [show (prog.info? 53).map (·.size) = some 3 from by kernel_rfl]; rfl) (H5).get.2) ?_
 have VT := H5.f13.f13.f13.f13.f13.f13.f13.f13.f13.f12.f13
 have VU := aB.dM (s := s) dK bH VT
 exact ⟨_, rfl, VU.f2.right.f2⟩
end
end Go.Proofs.YtgndbccogcofjaaGreatDoor
end
