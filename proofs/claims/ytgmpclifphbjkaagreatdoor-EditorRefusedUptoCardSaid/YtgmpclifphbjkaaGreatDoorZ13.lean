import Derived.Test.YtgmpclifphbjkaaGreatDoorZ2
import Derived.Test.YtgmpclifphbjkaaGreatDoorZ12
set_option linter.unusedSimpArgs false
set_option linter.unusedVariables false
/- Texts of mine, joined, their names in short: EdB EdC EdMv. -/
section
namespace Go.Proofs.YtgmpclifphbjkaaGreatDoor
open Go.RowKit
open _root_.Go.Proofs.Tryz
section
variable {w0 w : World} {F : HP} {e p h pr : Nat} {s : aY} {hl : List mM} {base most m : Int} {v : Value} {l : List Int}
theorem aB.ru {b : Nat} (H : aB w0 w (fF mQ b (fun _ => none) • F)) : aB w0 w (rM b (fun _ => []) • F) :=
  aB.yV (D := []) (P := fun _ => 0) List.nodup_nil (fun _ _ => rfl) (by rw [OT]; exact H.of_eq (by show _ = (_ • emp • _); rw [YtgmpclifphbjkaaGreatDoor.kH]))
set_option maxHeartbeats 1000000 in
theorem Gp {x0 x2 x3 x5 x6 x7 x8 x9 x10 x11 x12 zX x14 x15 x16 x17 x18 x19 x20 x21 zy x23 x24 x25 zA x27 x28 x29 x30 x31 x32 BH : Value} {E : List (List Int)} {a : Nat} (H : aB w0 w (dA e (.cells (x0 :: .pointer (some ⟨pr, 0, none⟩) :: x2 :: x3 :: .int .i64 m :: x5 :: x6 :: x7 :: x8 :: x9 :: x10 :: x11 :: x12 :: zX :: x14 :: x15 :: x16 :: x17 :: x18 :: x19 :: x20 :: x21 :: zy :: x23 :: x24 :: x25 :: zA :: x27 :: x28 :: x29 :: x30 :: x31 :: x32 :: BH :: []).toArray 66 (0, 0)) • dZ h hl base most • F)) (hr : iU w0 F .i32 v l) (hshort : l.length ≤ 1024) :
  fQ prog 42 #[.pointer (some ⟨e, 0, none⟩), .pointer (some ⟨h, 0, none⟩), v] w fun _ w' => ∃ pb pw pt pm ph, aB w0 w' (dA e (.cells (.pointer (some ⟨pb, 0, none⟩) :: .pointer (some ⟨pr, 0, none⟩) :: .pointer (some ⟨pw, 0, none⟩) :: .map (some pm) :: .int .i64 m :: .bool false :: .int .i64 0 :: .int .i64 0 :: .int .i64 0 :: .int .i64 0 :: .bool false :: .pointer (some ⟨ph, 0, none⟩) :: x12 :: .bool false :: .bool false :: .int .i64 (-1) :: x16 :: x17 :: x18 :: x19 :: x20 :: x21 :: zy :: x23 :: x24 :: x25 :: zA :: x27 :: x28 :: x29 :: x30 :: x31 :: x32 :: BH :: []).toArray 66 (0, 0)) •
   dJ pb l l.length (-1) • dA pw (.cells #[.int .i64 hl.length, .map (some pt)] 112 (0, 0)) • fF mQ pt (fun _ => none) • rM pm (fun _ => []) • dZ ph hl base most • dZ h hl base most • F) := by
 refine gX func42 ntmps42 ?_
 dsimp only [bg, Nat.reduceAdd]
 refine ay (ah (aO rfl (dw rfl func79 (CP H (fun W HW => hr _ (HW.right.right)) hshort) ?_)))
 rintro _ w1 ⟨p1, rfl, H1⟩
 refine aO rfl (nX rfl rfl (nX rfl rfl (aV rfl (aV rfl (aA (aj (ay (ah (aO rfl (aO rfl (dw rfl func40 (yx H1.f3) ?_)))))))))))
 rintro _ w2 ⟨q2, rfl, H2⟩
 refine bH rfl (aZ 11 underlying66 rfl sizeOf24 rfl (aI (aN 11 (l' := [_, _, _, _, _, _, _, _, _, _, _, _, _, _, _, _, _, _, _, _, _, _, _, _, _, _, _, _, _, _, _, _, _, _]) H2.f4 sizeOf24 rfl rfl (by first | rfl | assumption) rfl rfl) ?_))
 rintro _ w3 H3
 refine aA (aj (ay ?_))
 have Vx := H3.drew
 have uy := aB.kp (Vx.f3.right.f3.f3.f3)
 refine uH [6, 17] uy rfl (fU 0 rfl uy rfl (fU 1 rfl uy rfl (fU 2 rfl uy rfl (iT 3 rfl uy rfl (dP 4 rfl uy 0 underlying66 rfl sizeOf62 rfl (dP 5 rfl uy 1 underlying62 rfl sizeOf58 rfl (gQ 6 rfl uy (fun W hW => iI underlying58 rfl ((Kp.h hW)).get.2 rfl) (fU 7 rfl uy rfl (fU 13 rfl uy rfl (iT 14 rfl uy rfl (dP 15 rfl uy 0 underlying66 rfl sizeOf62 rfl (dP 16 rfl uy 4 underlying62 rfl sizeOf3 rfl (gQ 17 rfl uy (fun W hW => iI underlying3 rfl ((Kp.h hW)).get.2 rfl) ?_)))))))))))))
 refine Q7 (i := 8) (j := 9) (k := 12) (by kernel_rfl) ?_ ?_ ?_
 ·skip
  refine iL 8 rfl (by kernel_rfl) (oW (oZ rfl func75 rfl rfl) (jY Vx.f3)) (jq rfl) ?_
  rintro _ w4 ⟨rfl, H4⟩
  have jd := aB.kp (H4.f4.f4.f4.f4)
  refine bW jd (fun W hW => (Kp.h hW).right.f3.f3.f3) ?_
  refine uG (i := 9) (j := 12) (by kernel_rfl) ?_ ?_
  ·skip
   refine iL 9 rfl (by kernel_rfl) (jw (zf .i64) H4) (jq rfl) ?_
   rintro _ w5 ⟨b5, rfl, H5⟩
   have zQ := aB.kp (H5.f5.f5.f5.f5.f5)
   refine bW zQ (fun W hW => (Kp.h hW).right.f4.f4.f4.f4) ?_
   refine iJ 10 rfl zQ (fun _ => dV (zl := [.int .i64 0, .map none]) (pl := [(0, 1), (1, 1)]) [_, _] underlying112 zeroValue112 rfl (fun w => by kernel_rfl) rfl (.one (by first | rfl | assumption) (.one (by first | rfl | assumption) .nil)) rfl) ?_
   refine uG (i := 11) (j := 12) (by kernel_rfl) ?_ ?_
   ·skip
    refine iL 11 rfl (by kernel_rfl) (iq (l := [_, _]) H5 rfl rfl) (jq rfl) ?_
    rintro _ w6 ⟨b6, rfl, H6⟩
    have vG := aB.kp (H6.f6.f6.f6.f6.f6.f6)
    refine bW vG (fun W hW => (Kp.h hW).right.f5.f5.f5.f5.f5) ?_
    refine jH 12 rfl (jw (zf .i64) H6) ?_
    rintro _ w7 ⟨b7, rfl, H7⟩
    have vO := aB.kp (H7.f7.f7.f7.f7.f7.f7.f7)
    refine bW vO (fun W hW => (Kp.h hW).right.f6.f6.f6.f6.f6.f6) ?_
    refine iJ 18 rfl vO (fun _ => dV (zl := [.pointer none, .pointer none, .pointer none, .map none, .int .i64 0, .bool false, .int .i64 0, .int .i64 0, .int .i64 0, .int .i64 0, .bool false]) (pl := [(0, 1), (1, 1), (2, 1), (3, 1), (4, 1), (5, 1), (6, 1), (7, 1), (8, 1), (9, 1), (10, 1)]) [_, _, _, _, _, _, _, _, _, _, _] underlying62 zeroValue62 rfl (fun w => by kernel_rfl) rfl (.one (by first | rfl | assumption) (.one (by first | rfl | assumption) (.one (by first | rfl | assumption) (.one (by first | rfl | assumption) (.one (by first | rfl | assumption) (.zero (zs := [.bool false]) rfl (.zero (zs := [.int .i64 0]) rfl (.zero (zs := [.int .i64 0]) rfl (.zero (zs := [.int .i64 0]) rfl (.zero (zs := [.int .i64 0]) rfl (.zero (zs := [.bool false]) rfl .nil))))))))))) rfl) ?_
    refine iT 19 rfl vO rfl (dP 20 rfl vO 0 underlying66 rfl sizeOf62 rfl ?_)
    refine dB 21 rfl (by kernel_rfl) (bJ 0 (l' := [_, _, _, _, _, _, _, _, _, _, _, _, _, _, _, _, _, _, _, _, _, _, _, _, _, _, _, _, _, _, _, _, _, _]) (us := [_, _, _, _, _, _, _, _, _, _, _]) H7.f5 sizeOf62 rfl rfl rfl (aC (by first | rfl | assumption) (aC (by first | rfl | assumption) (aC (by first | rfl | assumption) (aC (by first | rfl | assumption) (aC (by first | rfl | assumption) (aC (by first | rfl | assumption) (aC (by first | rfl | assumption) (aC (by first | rfl | assumption) (aC (by first | rfl | assumption) (aC (by first | rfl | assumption) (aC (by first | rfl | assumption) bn))))))))))) rfl rfl) ?_
    rintro _ w8 H8
    have Ja := aB.kp (H8.f7.f7.f7.f7.f7.f7.f7)
    refine fA Ja (by kernel_rfl) ?_
    refine mg (aj (ah (aO rfl (aO rfl (aO rfl (bH rfl (aZ 13 underlying66 rfl sizeOf4 rfl (aI (aN 13 (l' := [_, _, _, _, _, _, _, _, _, _, _, _, _, _, _, _, _, _, _, _, _, _, _, _, _, _, _, _, _, _, _, _, _, _]) H8 sizeOf4 rfl rfl (by first | rfl | assumption) rfl rfl) ?_))))))))
    rintro _ w9 H9
    refine bH rfl (aZ 14 underlying66 rfl sizeOf4 rfl (aI (aN 14 (l' := [_, _, _, _, _, _, _, _, _, _, _, _, _, _, _, _, _, _, _, _, _, _, _, _, _, _, _, _, _, _, _, _, _, _]) H9 sizeOf4 rfl rfl (by first | rfl | assumption) rfl rfl) ?_))
    rintro _ w10 oP
    refine bH rfl (aZ 15 underlying66 rfl sizeOf3 rfl (aI (aN 15 (l' := [_, _, _, _, _, _, _, _, _, _, _, _, _, _, _, _, _, _, _, _, _, _, _, _, _, _, _, _, _, _, _, _, _, _]) oP sizeOf3 rfl rfl (by first | rfl | assumption) rfl rfl) ?_))
    rintro _ FT uV
    refine aA (dN (.inr rfl) results42 ?_)
    have NK := uV.f2
    have NM := NK.ru
    exact ⟨_, _, _, _, _, NM.f5.f6.f3.f6.f6.f7.f7⟩
   ·skip
    refine iL 12 rfl (by kernel_rfl) (jw (zf .i64) H5) (jq rfl) ?_
    rintro _ JE ⟨b14, rfl, uX⟩
    have Ku := aB.kp (uX.f6.f6.f6.f6.f6.f6)
    refine bW Ku (fun W hW => (Kp.h hW).right.f5.f5.f5.f5.f5) ?_
    refine jH 11 rfl (iq (l := [_, _]) uX rfl rfl) ?_
    rintro _ P8 ⟨b15, rfl, yQ⟩
    have zn := aB.kp (yQ.f7.f7.f7.f7.f7.f7.f7)
    refine bW zn (fun W hW => (Kp.h hW).right.f6.f6.f6.f6.f6.f6) ?_
    refine iJ 18 rfl zn (fun _ => dV (zl := [.pointer none, .pointer none, .pointer none, .map none, .int .i64 0, .bool false, .int .i64 0, .int .i64 0, .int .i64 0, .int .i64 0, .bool false]) (pl := [(0, 1), (1, 1), (2, 1), (3, 1), (4, 1), (5, 1), (6, 1), (7, 1), (8, 1), (9, 1), (10, 1)]) [_, _, _, _, _, _, _, _, _, _, _] underlying62 zeroValue62 rfl (fun w => by kernel_rfl) rfl (.one (by first | rfl | assumption) (.one (by first | rfl | assumption) (.one (by first | rfl | assumption) (.one (by first | rfl | assumption) (.one (by first | rfl | assumption) (.zero (zs := [.bool false]) rfl (.zero (zs := [.int .i64 0]) rfl (.zero (zs := [.int .i64 0]) rfl (.zero (zs := [.int .i64 0]) rfl (.zero (zs := [.int .i64 0]) rfl (.zero (zs := [.bool false]) rfl .nil))))))))))) rfl) ?_
    refine iT 19 rfl zn rfl (dP 20 rfl zn 0 underlying66 rfl sizeOf62 rfl ?_)
    refine dB 21 rfl (by kernel_rfl) (bJ 0 (l' := [_, _, _, _, _, _, _, _, _, _, _, _, _, _, _, _, _, _, _, _, _, _, _, _, _, _, _, _, _, _, _, _, _, _]) (us := [_, _, _, _, _, _, _, _, _, _, _]) yQ.f5 sizeOf62 rfl rfl rfl (aC (by first | rfl | assumption) (aC (by first | rfl | assumption) (aC (by first | rfl | assumption) (aC (by first | rfl | assumption) (aC (by first | rfl | assumption) (aC (by first | rfl | assumption) (aC (by first | rfl | assumption) (aC (by first | rfl | assumption) (aC (by first | rfl | assumption) (aC (by first | rfl | assumption) (aC (by first | rfl | assumption) bn))))))))))) rfl rfl) ?_
    rintro _ w16 qH
    have AZ := aB.kp (qH.f7.f7.f7.f7.f7.f7.f7)
    refine fA AZ (by kernel_rfl) ?_
    refine mg (aj (ah (aO rfl (aO rfl (aO rfl (bH rfl (aZ 13 underlying66 rfl sizeOf4 rfl (aI (aN 13 (l' := [_, _, _, _, _, _, _, _, _, _, _, _, _, _, _, _, _, _, _, _, _, _, _, _, _, _, _, _, _, _, _, _, _, _]) qH sizeOf4 rfl rfl (by first | rfl | assumption) rfl rfl) ?_))))))))
    rintro _ UN Aj
    refine bH rfl (aZ 14 underlying66 rfl sizeOf4 rfl (aI (aN 14 (l' := [_, _, _, _, _, _, _, _, _, _, _, _, _, _, _, _, _, _, _, _, _, _, _, _, _, _, _, _, _, _, _, _, _, _]) Aj sizeOf4 rfl rfl (by first | rfl | assumption) rfl rfl) ?_))
    rintro _ UO BF
    refine bH rfl (aZ 15 underlying66 rfl sizeOf3 rfl (aI (aN 15 (l' := [_, _, _, _, _, _, _, _, _, _, _, _, _, _, _, _, _, _, _, _, _, _, _, _, _, _, _, _, _, _, _, _, _, _]) BF sizeOf3 rfl rfl (by first | rfl | assumption) rfl rfl) ?_))
    rintro _ UQ xk
    refine aA (dN (.inr rfl) results42 ?_)
    have aaW := xk.f3
    have aaX := aaW.ru
    exact ⟨_, _, _, _, _, aaX.f5.f6.f3.f6.f6.f7.f7⟩
  ·skip
   refine iL 12 rfl (by kernel_rfl) (jw (zf .i64) H4) (jq rfl) ?_
   rintro _ Yr ⟨b22, rfl, DR⟩
   have Bg := aB.kp (DR.f5.f5.f5.f5.f5)
   refine bW Bg (fun W hW => (Kp.h hW).right.f4.f4.f4.f4) ?_
   refine jH 9 rfl (jw (zf .i64) DR) ?_
   rintro _ RJ ⟨b23, rfl, tY⟩
   have CY := aB.kp (tY.f6.f6.f6.f6.f6.f6)
   refine bW CY (fun W hW => (Kp.h hW).right.f5.f5.f5.f5.f5) ?_
   refine iJ 10 rfl CY (fun _ => dV (zl := [.int .i64 0, .map none]) (pl := [(0, 1), (1, 1)]) [_, _] underlying112 zeroValue112 rfl (fun w => by kernel_rfl) rfl (.one (by first | rfl | assumption) (.one (by first | rfl | assumption) .nil)) rfl) ?_
   refine jH 11 rfl (iq (l := [_, _]) tY rfl rfl) ?_
   rintro _ YS ⟨b24, rfl, GZ⟩
   have E5 := aB.kp (GZ.f7.f7.f7.f7.f7.f7.f7)
   refine bW E5 (fun W hW => (Kp.h hW).right.f6.f6.f6.f6.f6.f6) ?_
   refine iJ 18 rfl E5 (fun _ => dV (zl := [.pointer none, .pointer none, .pointer none, .map none, .int .i64 0, .bool false, .int .i64 0, .int .i64 0, .int .i64 0, .int .i64 0, .bool false]) (pl := [(0, 1), (1, 1), (2, 1), (3, 1), (4, 1), (5, 1), (6, 1), (7, 1), (8, 1), (9, 1), (10, 1)]) [_, _, _, _, _, _, _, _, _, _, _] underlying62 zeroValue62 rfl (fun w => by kernel_rfl) rfl (.one (by first | rfl | assumption) (.one (by first | rfl | assumption) (.one (by first | rfl | assumption) (.one (by first | rfl | assumption) (.one (by first | rfl | assumption) (.zero (zs := [.bool false]) rfl (.zero (zs := [.int .i64 0]) rfl (.zero (zs := [.int .i64 0]) rfl (.zero (zs := [.int .i64 0]) rfl (.zero (zs := [.int .i64 0]) rfl (.zero (zs := [.bool false]) rfl .nil))))))))))) rfl) ?_
   refine iT 19 rfl E5 rfl (dP 20 rfl E5 0 underlying66 rfl sizeOf62 rfl ?_)
   refine dB 21 rfl (by kernel_rfl) (bJ 0 (l' := [_, _, _, _, _, _, _, _, _, _, _, _, _, _, _, _, _, _, _, _, _, _, _, _, _, _, _, _, _, _, _, _, _, _]) (us := [_, _, _, _, _, _, _, _, _, _, _]) GZ.f5 sizeOf62 rfl rfl rfl (aC (by first | rfl | assumption) (aC (by first | rfl | assumption) (aC (by first | rfl | assumption) (aC (by first | rfl | assumption) (aC (by first | rfl | assumption) (aC (by first | rfl | assumption) (aC (by first | rfl | assumption) (aC (by first | rfl | assumption) (aC (by first | rfl | assumption) (aC (by first | rfl | assumption) (aC (by first | rfl | assumption) bn))))))))))) rfl rfl) ?_
   rintro _ Yt G6
   have Hu := aB.kp (G6.f7.f7.f7.f7.f7.f7.f7)
   refine fA Hu (by kernel_rfl) ?_
   refine mg (aj (ah (aO rfl (aO rfl (aO rfl (bH rfl (aZ 13 underlying66 rfl sizeOf4 rfl (aI (aN 13 (l' := [_, _, _, _, _, _, _, _, _, _, _, _, _, _, _, _, _, _, _, _, _, _, _, _, _, _, _, _, _, _, _, _, _, _]) G6 sizeOf4 rfl rfl (by first | rfl | assumption) rfl rfl) ?_))))))))
   rintro _ Yu JZ
   refine bH rfl (aZ 14 underlying66 rfl sizeOf4 rfl (aI (aN 14 (l' := [_, _, _, _, _, _, _, _, _, _, _, _, _, _, _, _, _, _, _, _, _, _, _, _, _, _, _, _, _, _, _, _, _, _]) JZ sizeOf4 rfl rfl (by first | rfl | assumption) rfl rfl) ?_))
   rintro _ Yv FZ
   refine bH rfl (aZ 15 underlying66 rfl sizeOf3 rfl (aI (aN 15 (l' := [_, _, _, _, _, _, _, _, _, _, _, _, _, _, _, _, _, _, _, _, _, _, _, _, _, _, _, _, _, _, _, _, _, _]) FZ sizeOf3 rfl rfl (by first | rfl | assumption) rfl rfl) ?_))
   rintro _ w28 RN
   refine aA (dN (.inr rfl) results42 ?_)
   have XK := RN.f4
   have XL := XK.ru
   exact ⟨_, _, _, _, _, XL.f5.f6.f3.f6.f6.f7.f7⟩
 ·skip
  refine iL 9 rfl (by kernel_rfl) (jw (zf .i64) Vx) (jq rfl) ?_
  rintro _ Yw ⟨b31, rfl, IQ⟩
  have KR := aB.kp (IQ.f4.right.f4.f4.f4.f4)
  refine bW KR (fun W hW => (Kp.h hW).right.f3.f3.f3) ?_
  refine uG (i := 8) (j := 12) (by kernel_rfl) ?_ ?_
  ·skip
   refine iL 8 rfl (by kernel_rfl) (oW (oZ rfl func75 rfl rfl) (jY IQ.f4)) (jq rfl) ?_
   rintro _ Xj ⟨rfl, FU⟩
   have OV := aB.kp (FU.f5.f5.f5.f5.f5)
   refine bW OV (fun W hW => (Kp.h hW).right.f4.f4.f4.f4) ?_
   refine iJ 10 rfl OV (fun _ => dV (zl := [.int .i64 0, .map none]) (pl := [(0, 1), (1, 1)]) [_, _] underlying112 zeroValue112 rfl (fun w => by kernel_rfl) rfl (.one (by first | rfl | assumption) (.one (by first | rfl | assumption) .nil)) rfl) ?_
   refine uG (i := 11) (j := 12) (by kernel_rfl) ?_ ?_
   ·skip
    refine iL 11 rfl (by kernel_rfl) (iq (l := [_, _]) FU rfl rfl) (jq rfl) ?_
    rintro _ w33 ⟨b33, rfl, P9⟩
    have OW := aB.kp (P9.f6.f6.f6.f6.f6.f6)
    refine bW OW (fun W hW => (Kp.h hW).right.f5.f5.f5.f5.f5) ?_
    refine jH 12 rfl (jw (zf .i64) P9) ?_
    rintro _ w34 ⟨b34, rfl, Tz⟩
    have Hw := aB.kp (Tz.f7.f7.f7.f7.f7.f7.f7)
    refine bW Hw (fun W hW => (Kp.h hW).right.f6.f6.f6.f6.f6.f6) ?_
    refine iJ 18 rfl Hw (fun _ => dV (zl := [.pointer none, .pointer none, .pointer none, .map none, .int .i64 0, .bool false, .int .i64 0, .int .i64 0, .int .i64 0, .int .i64 0, .bool false]) (pl := [(0, 1), (1, 1), (2, 1), (3, 1), (4, 1), (5, 1), (6, 1), (7, 1), (8, 1), (9, 1), (10, 1)]) [_, _, _, _, _, _, _, _, _, _, _] underlying62 zeroValue62 rfl (fun w => by kernel_rfl) rfl (.one (by first | rfl | assumption) (.one (by first | rfl | assumption) (.one (by first | rfl | assumption) (.one (by first | rfl | assumption) (.one (by first | rfl | assumption) (.zero (zs := [.bool false]) rfl (.zero (zs := [.int .i64 0]) rfl (.zero (zs := [.int .i64 0]) rfl (.zero (zs := [.int .i64 0]) rfl (.zero (zs := [.int .i64 0]) rfl (.zero (zs := [.bool false]) rfl .nil))))))))))) rfl) ?_
    refine iT 19 rfl Hw rfl (dP 20 rfl Hw 0 underlying66 rfl sizeOf62 rfl ?_)
    refine dB 21 rfl (by kernel_rfl) (bJ 0 (l' := [_, _, _, _, _, _, _, _, _, _, _, _, _, _, _, _, _, _, _, _, _, _, _, _, _, _, _, _, _, _, _, _, _, _]) (us := [_, _, _, _, _, _, _, _, _, _, _]) Tz.f5 sizeOf62 rfl rfl rfl (aC (by first | rfl | assumption) (aC (by first | rfl | assumption) (aC (by first | rfl | assumption) (aC (by first | rfl | assumption) (aC (by first | rfl | assumption) (aC (by first | rfl | assumption) (aC (by first | rfl | assumption) (aC (by first | rfl | assumption) (aC (by first | rfl | assumption) (aC (by first | rfl | assumption) (aC (by first | rfl | assumption) bn))))))))))) rfl rfl) ?_
    rintro _ w35 XM
    have TA := aB.kp (XM.f7.f7.f7.f7.f7.f7.f7)
    refine fA TA (by kernel_rfl) ?_
    refine mg (aj (ah (aO rfl (aO rfl (aO rfl (bH rfl (aZ 13 underlying66 rfl sizeOf4 rfl (aI (aN 13 (l' := [_, _, _, _, _, _, _, _, _, _, _, _, _, _, _, _, _, _, _, _, _, _, _, _, _, _, _, _, _, _, _, _, _, _]) XM sizeOf4 rfl rfl (by first | rfl | assumption) rfl rfl) ?_))))))))
    rintro _ w36 YB
    refine bH rfl (aZ 14 underlying66 rfl sizeOf4 rfl (aI (aN 14 (l' := [_, _, _, _, _, _, _, _, _, _, _, _, _, _, _, _, _, _, _, _, _, _, _, _, _, _, _, _, _, _, _, _, _, _]) YB sizeOf4 rfl rfl (by first | rfl | assumption) rfl rfl) ?_))
    rintro _ w37 H37
    refine bH rfl (aZ 15 underlying66 rfl sizeOf3 rfl (aI (aN 15 (l' := [_, _, _, _, _, _, _, _, _, _, _, _, _, _, _, _, _, _, _, _, _, _, _, _, _, _, _, _, _, _, _, _, _, _]) H37 sizeOf3 rfl rfl (by first | rfl | assumption) rfl rfl) ?_))
    rintro _ Y3 NQ
    refine aA (dN (.inr rfl) results42 ?_)
    have aaY := NQ.f2
    have aaZ := aaY.ru
    exact ⟨_, _, _, _, _, aaZ.f4.f6.f3.f6.f6.f7.f7⟩
   ·skip
    refine iL 12 rfl (by kernel_rfl) (jw (zf .i64) FU) (jq rfl) ?_
    rintro _ w41 ⟨b41, rfl, Vy⟩
    have TB := aB.kp (Vy.f6.f6.f6.f6.f6.f6)
    refine bW TB (fun W hW => (Kp.h hW).right.f5.f5.f5.f5.f5) ?_
    refine jH 11 rfl (iq (l := [_, _]) Vy rfl rfl) ?_
    rintro _ w42 ⟨b42, rfl, XO⟩
    have Hy := aB.kp (XO.f7.f7.f7.f7.f7.f7.f7)
    refine bW Hy (fun W hW => (Kp.h hW).right.f6.f6.f6.f6.f6.f6) ?_
    refine iJ 18 rfl Hy (fun _ => dV (zl := [.pointer none, .pointer none, .pointer none, .map none, .int .i64 0, .bool false, .int .i64 0, .int .i64 0, .int .i64 0, .int .i64 0, .bool false]) (pl := [(0, 1), (1, 1), (2, 1), (3, 1), (4, 1), (5, 1), (6, 1), (7, 1), (8, 1), (9, 1), (10, 1)]) [_, _, _, _, _, _, _, _, _, _, _] underlying62 zeroValue62 rfl (fun w => by kernel_rfl) rfl (.one (by first | rfl | assumption) (.one (by first | rfl | assumption) (.one (by first | rfl | assumption) (.one (by first | rfl | assumption) (.one (by first | rfl | assumption) (.zero (zs := [.bool false]) rfl (.zero (zs := [.int .i64 0]) rfl (.zero (zs := [.int .i64 0]) rfl (.zero (zs := [.int .i64 0]) rfl (.zero (zs := [.int .i64 0]) rfl (.zero (zs := [.bool false]) rfl .nil))))))))))) rfl) ?_
    refine iT 19 rfl Hy rfl (dP 20 rfl Hy 0 underlying66 rfl sizeOf62 rfl ?_)
    refine dB 21 rfl (by kernel_rfl) (bJ 0 (l' := [_, _, _, _, _, _, _, _, _, _, _, _, _, _, _, _, _, _, _, _, _, _, _, _, _, _, _, _, _, _, _, _, _, _]) (us := [_, _, _, _, _, _, _, _, _, _, _]) XO.f5 sizeOf62 rfl rfl rfl (aC (by first | rfl | assumption) (aC (by first | rfl | assumption) (aC (by first | rfl | assumption) (aC (by first | rfl | assumption) (aC (by first | rfl | assumption) (aC (by first | rfl | assumption) (aC (by first | rfl | assumption) (aC (by first | rfl | assumption) (aC (by first | rfl | assumption) (aC (by first | rfl | assumption) (aC (by first | rfl | assumption) bn))))))))))) rfl rfl) ?_
    rintro _ w43 XP
    have TD := aB.kp (XP.f7.f7.f7.f7.f7.f7.f7)
    refine fA TD (by kernel_rfl) ?_
    refine mg (aj (ah (aO rfl (aO rfl (aO rfl (bH rfl (aZ 13 underlying66 rfl sizeOf4 rfl (aI (aN 13 (l' := [_, _, _, _, _, _, _, _, _, _, _, _, _, _, _, _, _, _, _, _, _, _, _, _, _, _, _, _, _, _, _, _, _, _]) XP sizeOf4 rfl rfl (by first | rfl | assumption) rfl rfl) ?_))))))))
    rintro _ w44 Wv
    refine bH rfl (aZ 14 underlying66 rfl sizeOf4 rfl (aI (aN 14 (l' := [_, _, _, _, _, _, _, _, _, _, _, _, _, _, _, _, _, _, _, _, _, _, _, _, _, _, _, _, _, _, _, _, _, _]) Wv sizeOf4 rfl rfl (by first | rfl | assumption) rfl rfl) ?_))
    rintro _ w45 MC
    refine bH rfl (aZ 15 underlying66 rfl sizeOf3 rfl (aI (aN 15 (l' := [_, _, _, _, _, _, _, _, _, _, _, _, _, _, _, _, _, _, _, _, _, _, _, _, _, _, _, _, _, _, _, _, _, _]) MC sizeOf3 rfl rfl (by first | rfl | assumption) rfl rfl) ?_))
    rintro _ w46 H46
    refine aA (dN (.inr rfl) results42 ?_)
    have aa0 := H46.f3
    have aa1 := aa0.ru
    exact ⟨_, _, _, _, _, aa1.f4.f6.f3.f6.f6.f7.f7⟩
  ·skip
   refine iL 12 rfl (by kernel_rfl) (jw (zf .i64) IQ) (jq rfl) ?_
   rintro _ w49 ⟨b49, rfl, H49⟩
   have Zv := aB.kp (H49.f5.right.f5.f5.f5.f5.f5)
   refine bW Zv (fun W hW => (Kp.h hW).right.f4.f4.f4.f4) ?_
   refine jH 8 rfl (rU rfl func75 (jY H49.f5)) ?_
   rintro _ w50 ⟨rfl, YC⟩
   have Wx := aB.kp (YC.f6.f6.f6.f6.f6.f6)
   refine bW Wx (fun W hW => (Kp.h hW).right.f5.f5.f5.f5.f5) ?_
   refine iJ 10 rfl Wx (fun _ => dV (zl := [.int .i64 0, .map none]) (pl := [(0, 1), (1, 1)]) [_, _] underlying112 zeroValue112 rfl (fun w => by kernel_rfl) rfl (.one (by first | rfl | assumption) (.one (by first | rfl | assumption) .nil)) rfl) ?_
   refine jH 11 rfl (iq (l := [_, _]) YC rfl rfl) ?_
   rintro _ w51 ⟨b51, rfl, XQ⟩
   have OX := aB.kp (XQ.f7.f7.f7.f7.f7.f7.f7)
   refine bW OX (fun W hW => (Kp.h hW).right.f6.f6.f6.f6.f6.f6) ?_
   refine iJ 18 rfl OX (fun _ => dV (zl := [.pointer none, .pointer none, .pointer none, .map none, .int .i64 0, .bool false, .int .i64 0, .int .i64 0, .int .i64 0, .int .i64 0, .bool false]) (pl := [(0, 1), (1, 1), (2, 1), (3, 1), (4, 1), (5, 1), (6, 1), (7, 1), (8, 1), (9, 1), (10, 1)]) [_, _, _, _, _, _, _, _, _, _, _] underlying62 zeroValue62 rfl (fun w => by kernel_rfl) rfl (.one (by first | rfl | assumption) (.one (by first | rfl | assumption) (.one (by first | rfl | assumption) (.one (by first | rfl | assumption) (.one (by first | rfl | assumption) (.zero (zs := [.bool false]) rfl (.zero (zs := [.int .i64 0]) rfl (.zero (zs := [.int .i64 0]) rfl (.zero (zs := [.int .i64 0]) rfl (.zero (zs := [.int .i64 0]) rfl (.zero (zs := [.bool false]) rfl .nil))))))))))) rfl) ?_
   refine iT 19 rfl OX rfl (dP 20 rfl OX 0 underlying66 rfl sizeOf62 rfl ?_)
   refine dB 21 rfl (by kernel_rfl) (bJ 0 (l' := [_, _, _, _, _, _, _, _, _, _, _, _, _, _, _, _, _, _, _, _, _, _, _, _, _, _, _, _, _, _, _, _, _, _]) (us := [_, _, _, _, _, _, _, _, _, _, _]) XQ.f5 sizeOf62 rfl rfl rfl (aC (by first | rfl | assumption) (aC (by first | rfl | assumption) (aC (by first | rfl | assumption) (aC (by first | rfl | assumption) (aC (by first | rfl | assumption) (aC (by first | rfl | assumption) (aC (by first | rfl | assumption) (aC (by first | rfl | assumption) (aC (by first | rfl | assumption) (aC (by first | rfl | assumption) (aC (by first | rfl | assumption) bn))))))))))) rfl rfl) ?_
   rintro _ w52 Wy
   have Zw := aB.kp (Wy.f7.f7.f7.f7.f7.f7.f7)
   refine fA Zw (by kernel_rfl) ?_
   refine mg (aj (ah (aO rfl (aO rfl (aO rfl (bH rfl (aZ 13 underlying66 rfl sizeOf4 rfl (aI (aN 13 (l' := [_, _, _, _, _, _, _, _, _, _, _, _, _, _, _, _, _, _, _, _, _, _, _, _, _, _, _, _, _, _, _, _, _, _]) Wy sizeOf4 rfl rfl (by first | rfl | assumption) rfl rfl) ?_))))))))
   rintro _ w53 YD
   refine bH rfl (aZ 14 underlying66 rfl sizeOf4 rfl (aI (aN 14 (l' := [_, _, _, _, _, _, _, _, _, _, _, _, _, _, _, _, _, _, _, _, _, _, _, _, _, _, _, _, _, _, _, _, _, _]) YD sizeOf4 rfl rfl (by first | rfl | assumption) rfl rfl) ?_))
   rintro _ w54 H54
   refine bH rfl (aZ 15 underlying66 rfl sizeOf3 rfl (aI (aN 15 (l' := [_, _, _, _, _, _, _, _, _, _, _, _, _, _, _, _, _, _, _, _, _, _, _, _, _, _, _, _, _, _, _, _, _, _]) H54 sizeOf3 rfl rfl (by first | rfl | assumption) rfl rfl) ?_))
   rintro _ w55 H55
   refine aA (dN (.inr rfl) results42 ?_)
   have aa2 := H55.f4
   have aa3 := aa2.ru
   exact ⟨_, _, _, _, _, aa3.f4.f6.f3.f6.f6.f7.f7⟩
 ·skip
  refine iL 12 rfl (by kernel_rfl) (jw (zf .i64) Vx) (jq rfl) ?_
  rintro _ w58 ⟨b58, rfl, Vz⟩
  have Zx := aB.kp (Vz.f4.right.f4.f4.f4.f4)
  refine bW Zx (fun W hW => (Kp.h hW).right.f3.f3.f3) ?_
  refine uG (i := 8) (j := 9) (by kernel_rfl) ?_ ?_
  ·skip
   refine iL 8 rfl (by kernel_rfl) (oW (oZ rfl func75 rfl rfl) (jY Vz.f4)) (jq rfl) ?_
   rintro _ w59 ⟨rfl, Zy⟩
   have Zz := aB.kp (Zy.f5.f5.f5.f5.f5)
   refine bW Zz (fun W hW => (Kp.h hW).right.f4.f4.f4.f4) ?_
   refine jH 9 rfl (jw (zf .i64) Zy) ?_
   rintro _ w60 ⟨b60, rfl, YE⟩
   have WA := aB.kp (YE.f6.f6.f6.f6.f6.f6)
   refine bW WA (fun W hW => (Kp.h hW).right.f5.f5.f5.f5.f5) ?_
   refine iJ 10 rfl WA (fun _ => dV (zl := [.int .i64 0, .map none]) (pl := [(0, 1), (1, 1)]) [_, _] underlying112 zeroValue112 rfl (fun w => by kernel_rfl) rfl (.one (by first | rfl | assumption) (.one (by first | rfl | assumption) .nil)) rfl) ?_
   refine jH 11 rfl (iq (l := [_, _]) YE rfl rfl) ?_
   rintro _ w61 ⟨b61, rfl, H61⟩
   have OY := aB.kp (H61.f7.f7.f7.f7.f7.f7.f7)
   refine bW OY (fun W hW => (Kp.h hW).right.f6.f6.f6.f6.f6.f6) ?_
   refine iJ 18 rfl OY (fun _ => dV (zl := [.pointer none, .pointer none, .pointer none, .map none, .int .i64 0, .bool false, .int .i64 0, .int .i64 0, .int .i64 0, .int .i64 0, .bool false]) (pl := [(0, 1), (1, 1), (2, 1), (3, 1), (4, 1), (5, 1), (6, 1), (7, 1), (8, 1), (9, 1), (10, 1)]) [_, _, _, _, _, _, _, _, _, _, _] underlying62 zeroValue62 rfl (fun w => by kernel_rfl) rfl (.one (by first | rfl | assumption) (.one (by first | rfl | assumption) (.one (by first | rfl | assumption) (.one (by first | rfl | assumption) (.one (by first | rfl | assumption) (.zero (zs := [.bool false]) rfl (.zero (zs := [.int .i64 0]) rfl (.zero (zs := [.int .i64 0]) rfl (.zero (zs := [.int .i64 0]) rfl (.zero (zs := [.int .i64 0]) rfl (.zero (zs := [.bool false]) rfl .nil))))))))))) rfl) ?_
   refine iT 19 rfl OY rfl (dP 20 rfl OY 0 underlying66 rfl sizeOf62 rfl ?_)
   refine dB 21 rfl (by kernel_rfl) (bJ 0 (l' := [_, _, _, _, _, _, _, _, _, _, _, _, _, _, _, _, _, _, _, _, _, _, _, _, _, _, _, _, _, _, _, _, _, _]) (us := [_, _, _, _, _, _, _, _, _, _, _]) H61.f5 sizeOf62 rfl rfl rfl (aC (by first | rfl | assumption) (aC (by first | rfl | assumption) (aC (by first | rfl | assumption) (aC (by first | rfl | assumption) (aC (by first | rfl | assumption) (aC (by first | rfl | assumption) (aC (by first | rfl | assumption) (aC (by first | rfl | assumption) (aC (by first | rfl | assumption) (aC (by first | rfl | assumption) (aC (by first | rfl | assumption) bn))))))))))) rfl rfl) ?_
   rintro _ w62 ZA
   have ZB := aB.kp (ZA.f7.f7.f7.f7.f7.f7.f7)
   refine fA ZB (by kernel_rfl) ?_
   refine mg (aj (ah (aO rfl (aO rfl (aO rfl (bH rfl (aZ 13 underlying66 rfl sizeOf4 rfl (aI (aN 13 (l' := [_, _, _, _, _, _, _, _, _, _, _, _, _, _, _, _, _, _, _, _, _, _, _, _, _, _, _, _, _, _, _, _, _, _]) ZA sizeOf4 rfl rfl (by first | rfl | assumption) rfl rfl) ?_))))))))
   rintro _ w63 ZC
   refine bH rfl (aZ 14 underlying66 rfl sizeOf4 rfl (aI (aN 14 (l' := [_, _, _, _, _, _, _, _, _, _, _, _, _, _, _, _, _, _, _, _, _, _, _, _, _, _, _, _, _, _, _, _, _, _]) ZC sizeOf4 rfl rfl (by first | rfl | assumption) rfl rfl) ?_))
   rintro _ w64 ZE
   refine bH rfl (aZ 15 underlying66 rfl sizeOf3 rfl (aI (aN 15 (l' := [_, _, _, _, _, _, _, _, _, _, _, _, _, _, _, _, _, _, _, _, _, _, _, _, _, _, _, _, _, _, _, _, _, _]) ZE sizeOf3 rfl rfl (by first | rfl | assumption) rfl rfl) ?_))
   rintro _ w65 H65
   refine aA (dN (.inr rfl) results42 ?_)
   have aa4 := H65.f5
   have aa5 := aa4.ru
   exact ⟨_, _, _, _, _, aa5.f5.f6.f3.f6.f6.f7.f7⟩
  ·skip
   refine iL 9 rfl (by kernel_rfl) (jw (zf .i64) Vz) (jq rfl) ?_
   rintro _ w68 ⟨b68, rfl, H68⟩
   have ZF := aB.kp (H68.f5.right.f5.f5.f5.f5.f5)
   refine bW ZF (fun W hW => (Kp.h hW).right.f4.f4.f4.f4) ?_
   refine jH 8 rfl (rU rfl func75 (jY H68.f5)) ?_
   rintro _ w69 ⟨rfl, H69⟩
   have WB := aB.kp (H69.f6.f6.f6.f6.f6.f6)
   refine bW WB (fun W hW => (Kp.h hW).right.f5.f5.f5.f5.f5) ?_
   refine iJ 10 rfl WB (fun _ => dV (zl := [.int .i64 0, .map none]) (pl := [(0, 1), (1, 1)]) [_, _] underlying112 zeroValue112 rfl (fun w => by kernel_rfl) rfl (.one (by first | rfl | assumption) (.one (by first | rfl | assumption) .nil)) rfl) ?_
   refine jH 11 rfl (iq (l := [_, _]) H69 rfl rfl) ?_
   rintro _ w70 ⟨b70, rfl, ZG⟩
   have OZ := aB.kp (ZG.f7.f7.f7.f7.f7.f7.f7)
   refine bW OZ (fun W hW => (Kp.h hW).right.f6.f6.f6.f6.f6.f6) ?_
   refine iJ 18 rfl OZ (fun _ => dV (zl := [.pointer none, .pointer none, .pointer none, .map none, .int .i64 0, .bool false, .int .i64 0, .int .i64 0, .int .i64 0, .int .i64 0, .bool false]) (pl := [(0, 1), (1, 1), (2, 1), (3, 1), (4, 1), (5, 1), (6, 1), (7, 1), (8, 1), (9, 1), (10, 1)]) [_, _, _, _, _, _, _, _, _, _, _] underlying62 zeroValue62 rfl (fun w => by kernel_rfl) rfl (.one (by first | rfl | assumption) (.one (by first | rfl | assumption) (.one (by first | rfl | assumption) (.one (by first | rfl | assumption) (.one (by first | rfl | assumption) (.zero (zs := [.bool false]) rfl (.zero (zs := [.int .i64 0]) rfl (.zero (zs := [.int .i64 0]) rfl (.zero (zs := [.int .i64 0]) rfl (.zero (zs := [.int .i64 0]) rfl (.zero (zs := [.bool false]) rfl .nil))))))))))) rfl) ?_
   refine iT 19 rfl OZ rfl (dP 20 rfl OZ 0 underlying66 rfl sizeOf62 rfl ?_)
   refine dB 21 rfl (by kernel_rfl) (bJ 0 (l' := [_, _, _, _, _, _, _, _, _, _, _, _, _, _, _, _, _, _, _, _, _, _, _, _, _, _, _, _, _, _, _, _, _, _]) (us := [_, _, _, _, _, _, _, _, _, _, _]) ZG.f5 sizeOf62 rfl rfl rfl (aC (by first | rfl | assumption) (aC (by first | rfl | assumption) (aC (by first | rfl | assumption) (aC (by first | rfl | assumption) (aC (by first | rfl | assumption) (aC (by first | rfl | assumption) (aC (by first | rfl | assumption) (aC (by first | rfl | assumption) (aC (by first | rfl | assumption) (aC (by first | rfl | assumption) (aC (by first | rfl | assumption) bn))))))))))) rfl rfl) ?_
   rintro _ w71 YF
   have ZH := aB.kp (YF.f7.f7.f7.f7.f7.f7.f7)
   refine fA ZH (by kernel_rfl) ?_
   refine mg (aj (ah (aO rfl (aO rfl (aO rfl (bH rfl (aZ 13 underlying66 rfl sizeOf4 rfl (aI (aN 13 (l' := [_, _, _, _, _, _, _, _, _, _, _, _, _, _, _, _, _, _, _, _, _, _, _, _, _, _, _, _, _, _, _, _, _, _]) YF sizeOf4 rfl rfl (by first | rfl | assumption) rfl rfl) ?_))))))))
   rintro _ w72 H72
   refine bH rfl (aZ 14 underlying66 rfl sizeOf4 rfl (aI (aN 14 (l' := [_, _, _, _, _, _, _, _, _, _, _, _, _, _, _, _, _, _, _, _, _, _, _, _, _, _, _, _, _, _, _, _, _, _]) H72 sizeOf4 rfl rfl (by first | rfl | assumption) rfl rfl) ?_))
   rintro _ w73 H73
   refine bH rfl (aZ 15 underlying66 rfl sizeOf3 rfl (aI (aN 15 (l' := [_, _, _, _, _, _, _, _, _, _, _, _, _, _, _, _, _, _, _, _, _, _, _, _, _, _, _, _, _, _, _, _, _, _]) H73 sizeOf3 rfl rfl (by first | rfl | assumption) rfl rfl) ?_))
   rintro _ w74 H74
   refine aA (dN (.inr rfl) results42 ?_)
   have aa6 := H74.f5
   have aa7 := aa6.ru
   exact ⟨_, _, _, _, _, aa7.f4.f6.f3.f6.f6.f7.f7⟩
theorem aB.zY {c : mD} {u : List Value} (H : aB w0 w F) : aB w0 w (tK false c u • F) := by
  unfold tK
  rw [if_neg (by decide)]
  exact H.DI
theorem aB.XR {pb pr pw pt pm : Nat} {c : mD} (H : aB w0 w (dJ pb c.L c.pt c.mark • bY pr c.E c.at_ • dA pw (.cells #[.int .i64 c.place, .map (some pt)] 112 (0, 0)) • fF mQ pt (mV c.tx) • rM pm c.un • F)) : aB w0 w (tK true c (KN pb pr pw pm c) • F) := by
  unfold tK
  rw [if_pos rfl]
  exact aB.iF (pb, pr, pw, pt, pm) (aB.deep (aB.kJ rfl (H.of_eq (by unfold NG; simp only [bV]))))
theorem aB.was {c : mD} {u : List Value} (H : aB w0 w (tK true c u • F)) : ∃ pb pr pw pt pm, u = KN pb pr pw pm c ∧ aB w0 w (dJ pb c.L c.pt c.mark • bY pr c.E c.at_ • dA pw (.cells #[.int .i64 c.place, .map (some pt)] 112 (0, 0)) • fF mQ pt (mV c.tx) • rM pm c.un • F) := by
  unfold tK at H
  rw [if_pos rfl] at H
  obtain ⟨⟨pb, pr, pw, pt, pm⟩, H⟩ := H.oh
  obtain ⟨h, H⟩ := H.flat.fact
  exact ⟨pb, pr, pw, pt, pm, h, H.of_eq (by unfold NG; simp only [bV])⟩
theorem aB.E8 {pb pr pw pt pm ph bl : Nat} {u0 u1 u2 u3 u4 u5 u6 u7 u8 u9 ua : Value} (h1 : lg s) (hp : s.put = []) (H : aB w0 w (dA e (.cells (.pointer (some ⟨pb, 0, none⟩) :: .pointer (some ⟨pr, 0, none⟩) :: .pointer (some ⟨pw, 0, none⟩) :: .map (some pm) :: .int .i64 s.c.mode :: .bool s.c.over :: .int .i64 s.c.last :: .int .i64 s.c.fr :: .int .i64 s.c.to :: .int .i64 s.c.res :: .bool s.c.run :: .pointer (some ⟨ph, 0, none⟩) :: .pointer (some ⟨bl, 0, none⟩) :: .bool s.given :: .bool s.minus :: .int .i64 s.arg :: .bool s.inn :: u0 :: u1 :: u2 :: u3 :: u4 :: u5 :: u6 :: u7 :: u8 :: u9 :: ua :: .int .i64 s.cls :: .bool s.killed :: .bool s.jy :: .bool s.argues :: .bool s.whole :: .slice none 0 0 :: []).toArray 66 (0, 0)) • dJ pb s.c.L s.c.pt s.c.mark • bY pr s.c.E s.c.at_ • dA pw (.cells #[.int .i64 s.c.place, .map (some pt)] 112 (0, 0)) • fF mQ pt (mV s.c.tx) • rM pm s.c.un • dZ ph s.hl s.base s.most • dA bl (.cells #[.int .i64 s.iO] 102 (0, 0)) • tK s.inn s.was [u0, u1, u2, u3, u4, u5, u6, u7, u8, u9, ua] • F)) : aB w0 w (dD e s • F) := by
  refine aB.dG (pb := pb) (pr := pr) (pw := pw) (pt := pt) (pm := pm) (ph := ph) (bl := bl) (u0 := u0) (u1 := u1) (u2 := u2) (u3 := u3) (u4 := u4) (u5 := u5) (u6 := u6) (u7 := u7) (u8 := u8) (u9 := u9) (ua := ua) (pv := .slice none 0 0) (es := []) h1 (by rw [hp]; rfl) ?_
  rw [hp]
  exact (H.qL none).of_eq (by unfold Gl; ac_rfl)
theorem aB.NR {pb pr pw pt pm ph bl : Nat} {u0 u1 u2 u3 u4 u5 u6 u7 u8 u9 ua : Value} (h1 : lg s) (hp : s.put = []) (hi : s.inn = false) (H : aB w0 w (dA e (.cells (.pointer (some ⟨pb, 0, none⟩) :: .pointer (some ⟨pr, 0, none⟩) :: .pointer (some ⟨pw, 0, none⟩) :: .map (some pm) :: .int .i64 s.c.mode :: .bool s.c.over :: .int .i64 s.c.last :: .int .i64 s.c.fr :: .int .i64 s.c.to :: .int .i64 s.c.res :: .bool s.c.run :: .pointer (some ⟨ph, 0, none⟩) :: .pointer (some ⟨bl, 0, none⟩) :: .bool s.given :: .bool s.minus :: .int .i64 s.arg :: .bool false :: u0 :: u1 :: u2 :: u3 :: u4 :: u5 :: u6 :: u7 :: u8 :: u9 :: ua :: .int .i64 s.cls :: .bool s.killed :: .bool s.jy :: .bool s.argues :: .bool s.whole :: .slice none 0 0 :: []).toArray 66 (0, 0)) • dJ pb s.c.L s.c.pt s.c.mark • bY pr s.c.E s.c.at_ • dA pw (.cells #[.int .i64 s.c.place, .map (some pt)] 112 (0, 0)) • fF mQ pt (mV s.c.tx) • rM pm s.c.un • dZ ph s.hl s.base s.most • dA bl (.cells #[.int .i64 s.iO] 102 (0, 0)) • F)) : aB w0 w (dD e s • F) := by
  refine aB.E8 (pb := pb) (pr := pr) (pw := pw) (pt := pt) (pm := pm) (ph := ph) (bl := bl) (u0 := u0) (u1 := u1) (u2 := u2) (u3 := u3) (u4 := u4) (u5 := u5) (u6 := u6) (u7 := u7) (u8 := u8) (u9 := u9) (ua := ua) h1 hp ?_
  rw [hi]
  exact (H.zY (c := s.was) (u := [u0, u1, u2, u3, u4, u5, u6, u7, u8, u9, ua])).of_eq (by ac_rfl)
theorem aB.TF {pb pr pw pt pm ph bl : Nat} {u0 u1 u2 u3 u4 u5 u6 u7 u8 u9 ua : Value} {pv : Value} {es : List dH} (h1 : lg s) (h2 : es.map dH.says = s.put) (H : aB w0 w (Gl pv es • dA e (.cells (.pointer (some ⟨pb, 0, none⟩) :: .pointer (some ⟨pr, 0, none⟩) :: .pointer (some ⟨pw, 0, none⟩) :: .map (some pm) :: .int .i64 s.c.mode :: .bool s.c.over :: .int .i64 s.c.last :: .int .i64 s.c.fr :: .int .i64 s.c.to :: .int .i64 s.c.res :: .bool s.c.run :: .pointer (some ⟨ph, 0, none⟩) :: .pointer (some ⟨bl, 0, none⟩) :: .bool s.given :: .bool s.minus :: .int .i64 s.arg :: .bool s.inn :: u0 :: u1 :: u2 :: u3 :: u4 :: u5 :: u6 :: u7 :: u8 :: u9 :: ua :: .int .i64 s.cls :: .bool s.killed :: .bool s.jy :: .bool s.argues :: .bool s.whole :: pv :: []).toArray 66 (0, 0)) • dJ pb s.c.L s.c.pt s.c.mark • bY pr s.c.E s.c.at_ • dA pw (.cells #[.int .i64 s.c.place, .map (some pt)] 112 (0, 0)) • fF mQ pt (mV s.c.tx) • rM pm s.c.un • dZ ph s.hl s.base s.most • dA bl (.cells #[.int .i64 s.iO] 102 (0, 0)) • tK s.inn s.was [u0, u1, u2, u3, u4, u5, u6, u7, u8, u9, ua] • F)) : aB w0 w (dD e s • F) := by
  refine aB.dG (pb := pb) (pr := pr) (pw := pw) (pt := pt) (pm := pm) (ph := ph) (bl := bl) (u0 := u0) (u1 := u1) (u2 := u2) (u3 := u3) (u4 := u4) (u5 := u5) (u6 := u6) (u7 := u7) (u8 := u8) (u9 := u9) (ua := ua) (pv := pv) (es := es) h1 h2 ?_
  have hl : s.put.length = es.length := by rw [← h2]; simp
  rw [hl]
  exact H.of_eq (by unfold Gl; ac_rfl)
theorem TG (hl : List mM) (l : List Int) (E : List (List Int)) (a : Nat) (m : Int) : Jk hl (mD.fresh l E a hl.length m) := ⟨by simp [mD.fresh], by simp [mD.fresh], by simp [mD.fresh]⟩
theorem XT (hl : List mM) (base most : Int) : lg (aY.new hl base most) :=
  ⟨TG _ _ _ _ _, by simp [aY.new], by simp [aY.new], by simp [aY.new], by simp [aY.new, aY.here, mD.fresh, dX], by simp [aY.new, mD.fresh]⟩
theorem Fa (H : aB w0 w (dZ h hl base most • F)) : fQ prog 8 #[.pointer (some ⟨h, 0, none⟩)] w fun v w' => ∃ e, v = .tuple #[.pointer (some ⟨e, 0, none⟩), .int .i64 0] ∧ aB w0 w' (dD e (aY.new hl base most) • dZ h hl base most • F) := by
 refine gX func8 ntmps8 ?_
 dsimp only [bg, Nat.reduceAdd]
 refine ay (ah (aV rfl (aV rfl (aA (aj (ay (ay (ah (aO rfl (dw rfl func40 (yx H) ?_))))))))))
 rintro _ w1 ⟨q1, rfl, H1⟩
 refine aU (jc underlying24 rfl rfl) (aA (aj (aH rfl (fun h => by exfalso; (try simp only [aG] at h); simp at h) (fun h1 => ?_))))
 (try simp only [aG] at h1)
 refine aS (aj (ay (ah (aU (dV (zl := [.int .i64 0]) (pl := [(0, 0), (0, 0), (0, 1)]) [_] underlying102 zeroValue102 rfl (fun w => by kernel_rfl) rfl (.zero (zs := []) rfl (.zero (zs := []) rfl (.zero (zs := [.int .i64 0]) rfl .nil))) rfl) (iy (iq (l := [_]) H1 rfl rfl) ?_)))))
 rintro _ w2 ⟨b2, rfl, H2⟩
 refine aU (dV (zl := [.pointer none, .pointer none, .pointer none, .map none, .int .i64 0, .bool false, .int .i64 0, .int .i64 0, .int .i64 0, .int .i64 0, .bool false, .pointer none, .pointer none, .bool false, .bool false, .int .i64 0, .bool false, .pointer none, .pointer none, .pointer none, .map none, .int .i64 0, .bool false, .int .i64 0, .int .i64 0, .int .i64 0, .int .i64 0, .bool false, .int .i64 0, .bool false, .bool false, .bool false, .bool false, .slice none 0 0]) (pl := [(0, 11), (11, 1), (12, 1), (13, 1), (14, 1), (15, 1), (16, 1), (17, 11), (28, 1), (29, 1), (30, 1), (31, 1), (32, 1), (33, 1)]) [_, _, _, _, _, _, _, _, _, _, _, _, _, _, _, _, _, _, _, _, _, _, _, _, _, _, _, _, _, _, _, _, _, _] underlying66 zeroValue66 rfl (fun w => by kernel_rfl) rfl (.zero (zs := [.pointer none, .pointer none, .pointer none, .map none, .int .i64 0, .bool false, .int .i64 0, .int .i64 0, .int .i64 0, .int .i64 0, .bool false]) rfl (.zero (zs := [.pointer none]) rfl (.one (by first | rfl | assumption) (.zero (zs := [.bool false]) rfl (.zero (zs := [.bool false]) rfl (.zero (zs := [.int .i64 0]) rfl (.zero (zs := [.bool false]) rfl (.zero (zs := [.pointer none, .pointer none, .pointer none, .map none, .int .i64 0, .bool false, .int .i64 0, .int .i64 0, .int .i64 0, .int .i64 0, .bool false]) rfl (.zero (zs := [.int .i64 0]) rfl (.zero (zs := [.bool false]) rfl (.zero (zs := [.bool false]) rfl (.zero (zs := [.bool false]) rfl (.zero (zs := [.bool false]) rfl (.zero (zs := [.slice none 0 0]) rfl .nil)))))))))))))) rfl) ?_
 refine iy (iq (l := [_, _, _, _, _, _, _, _, _, _, _, _, _, _, _, _, _, _, _, _, _, _, _, _, _, _, _, _, _, _, _, _, _, _]) H2 rfl rfl) ?_
 rintro _ w3 ⟨b3, rfl, H3⟩
 refine aV rfl (aA (aj (ay (ah (aO rfl (dw rfl func41 (IX H3) ?_))))))
 rintro _ w4 ⟨p4, rfl, H4⟩
 refine bH rfl (aZ 0 underlying66 rfl sizeOf62 rfl (aZ 1 underlying62 rfl sizeOf58 rfl (aI (aN 1 (l' := [_, _, _, _, _, _, _, _, _, _, _, _, _, _, _, _, _, _, _, _, _, _, _, _, _, _, _, _, _, _, _, _, _, _]) H4.f2 sizeOf58 rfl rfl (by first | rfl | assumption) rfl rfl) ?_)))
 rintro _ w5 H5
 refine aA (aj (ay (ah (aO rfl (aO rfl (dw rfl func42 (Gp (E := []) (a := 0) H5.f4.right.f3.f3.f4.f4 (l := []) (fun W _ => jG.nil W _ none 0 (by decide)) (by decide)) ?_))))))
 rintro _ w6 ⟨qb, qw, qt, qm, qh, H6⟩
 refine aA (aj (ay (ah (aO rfl (aV rfl (aV rfl (aA (aj (aJ (fC (.inl rfl) results8 rfl rfl ?_))))))))))
 exact ⟨_, rfl, aB.NR (s := aY.new hl base most) (XT _ _ _) rfl rfl H6.f7.f9.f8.f8.f8.f8.f9.f9.f9⟩
end
end Go.Proofs.YtgmpclifphbjkaaGreatDoor
end
section
namespace Go.Proofs.YtgmpclifphbjkaaGreatDoor
open Go.RowKit
open _root_.Go.Proofs.Tryz
section
variable {w0 w : World} {F : HP} {e p h pr : Nat} {s : aY} {hl : List mM} {base most m : Int} {v : Value} {l : List Int}
theorem BZ (h : s.inn = false) : s.bF = { s with inn := true, was := s.c, cls := 0, killed := false, jy := false, argues := false, whole := true, put := [] } := by unfold aY.bF; rw [if_neg (by simp [h])]
theorem NS (h : s.inn = true) : s.bF = s := by unfold aY.bF; rw [if_pos h]
theorem O4 {G : List (List eH)} {N : List eH} (h : dX G N ≤ 16384) : dX G [] ≤ 16384 := by unfold dX at *; simp at *; omega
theorem TI (h : lg s) (hi : s.inn = false) : lg s.bF := by
  rw [BZ hi]
  obtain ⟨h1, h2, h3, h4, h5, h6⟩ := h
  exact ⟨h1, fun _ => ⟨h1, O4 h5, h6⟩, h3, by simp, O4 h5, h6⟩
theorem wQ (H : aB w0 w (dD e s • F)) : fQ prog 11 #[.pointer (some ⟨e, 0, none⟩)] w fun v w' => v = .int .i64 s.EO ∧ aB w0 w' (dD e s.bF • F) := by
 refine gX func11 ntmps11 ?_
 dsimp only [bg, Nat.reduceAdd]
 refine ay (ah (aV rfl (aA (aj (ay (bf (ay (ah (aO rfl (dw rfl func43 (C9 H) ?_))))))))))
 rintro _ _ ⟨rfl, rfl⟩
 refine aV rfl (aA (aj (qN (ay ?_))))
 obtain ⟨nD, nN, nO, oG, nP, nR, nS, nT, mG, lu, lC, lD, lF, lG, lH, lI, lJ, lK, lM, lN, cZ, bC, gG, dn⟩ := (H).Ak
 refine ah (aO rfl (bH rfl (aZ 16 underlying66 rfl sizeOf4 rfl (cO underlying4 rfl (dn).get.2 rfl (aV rfl (aA (aj (aH rfl (fun h1 => ?_) (fun h1 => ?_)))))))))
 ·(try simp only [aG] at h1)
  try (exfalso; first | contradiction | omega)
  all_goals
   have hin := h1
   refine ay (ah (aV rfl (aA (aj (aJ (aW (aK (aP (.inl rfl) results11 rfl ?_))))))))
   exact ⟨by unfold aY.EO; rw [if_pos hin], by rw [NS hin]; exact aB.dG cZ bC dn.f11.f11.f11.f11.f11.f11.f11.f11.f11.f11.f11⟩
 ·(try simp only [aG] at h1)
  try (exfalso; first | contradiction | omega)
  all_goals
   have hin := h1
   refine aS (aQ (aj (ay (ah (aO rfl (aO rfl (aO rfl (bH rfl (aZ 0 underlying66 rfl sizeOf62 rfl (aU (qP 0 (xs := [_, _, _, _, _, _, _, _, _, _, _]) underlying62 rfl sizeOf62 rfl rfl (dn).get.2 rfl) (dw rfl func44 (Tn dn.f6.f6.f6.f6.f6) ?_)))))))))))
   rintro _ w3 ⟨qb3, qr3, qw3, qt3, qm3, rfl, H3⟩
   refine bH rfl (aZ 16 underlying66 rfl sizeOf4 rfl (aI (aN 16 (l' := [_, _, _, _, _, _, _, _, _, _, _, _, _, _, _, _, _, _, _, _, _, _, _, _, _, _, _, _, _, _, _, _, _, _]) H3.f11 sizeOf4 rfl rfl (by first | rfl | assumption) rfl rfl) ?_))
   rintro _ w4 H4
   refine bH rfl (aZ 17 underlying66 rfl sizeOf62 rfl (aI (bJ 17 (l' := [_, _, _, _, _, _, _, _, _, _, _, _, _, _, _, _, _, _, _, _, _, _, _, _, _, _, _, _, _, _, _, _, _, _]) (us := [_, _, _, _, _, _, _, _, _, _, _]) H4 sizeOf62 rfl rfl rfl (aC (by first | rfl | assumption) (aC (by first | rfl | assumption) (aC (by first | rfl | assumption) (aC (by first | rfl | assumption) (aC (by first | rfl | assumption) (aC (by first | rfl | assumption) (aC (by first | rfl | assumption) (aC (by first | rfl | assumption) (aC (by first | rfl | assumption) (aC (by first | rfl | assumption) (aC (by first | rfl | assumption) bn))))))))))) rfl rfl) ?_))
   rintro _ w5 H5
   refine aA (aj (ay (ah (aO rfl (aO rfl (aO rfl (aO rfl (aO rfl (aO rfl (bH rfl (aZ 28 underlying66 rfl sizeOf3 rfl (aI (aN 28 (l' := [_, _, _, _, _, _, _, _, _, _, _, _, _, _, _, _, _, _, _, _, _, _, _, _, _, _, _, _, _, _, _, _, _, _]) H5 sizeOf3 rfl rfl (by first | rfl | assumption) rfl rfl) ?_))))))))))))
   rintro _ w6 H6
   refine bH rfl (aZ 29 underlying66 rfl sizeOf4 rfl (aI (aN 29 (l' := [_, _, _, _, _, _, _, _, _, _, _, _, _, _, _, _, _, _, _, _, _, _, _, _, _, _, _, _, _, _, _, _, _, _]) H6 sizeOf4 rfl rfl (by first | rfl | assumption) rfl rfl) ?_))
   rintro _ w7 H7
   refine bH rfl (aZ 30 underlying66 rfl sizeOf4 rfl (aI (aN 30 (l' := [_, _, _, _, _, _, _, _, _, _, _, _, _, _, _, _, _, _, _, _, _, _, _, _, _, _, _, _, _, _, _, _, _, _]) H7 sizeOf4 rfl rfl (by first | rfl | assumption) rfl rfl) ?_))
   rintro _ w8 H8
   refine bH rfl (aZ 31 underlying66 rfl sizeOf4 rfl (aI (aN 31 (l' := [_, _, _, _, _, _, _, _, _, _, _, _, _, _, _, _, _, _, _, _, _, _, _, _, _, _, _, _, _, _, _, _, _, _]) H8 sizeOf4 rfl rfl (by first | rfl | assumption) rfl rfl) ?_))
   rintro _ w9 H9
   refine bH rfl (aZ 32 underlying66 rfl sizeOf4 rfl (aI (aN 32 (l' := [_, _, _, _, _, _, _, _, _, _, _, _, _, _, _, _, _, _, _, _, _, _, _, _, _, _, _, _, _, _, _, _, _, _]) H9 sizeOf4 rfl rfl (by first | rfl | assumption) rfl rfl) ?_))
   rintro _ w10 oP
   refine bH rfl (aZ 33 underlying66 rfl sizeOf64 rfl (aI (aN 33 (l' := [_, _, _, _, _, _, _, _, _, _, _, _, _, _, _, _, _, _, _, _, _, _, _, _, _, _, _, _, _, _, _, _, _, _]) oP sizeOf64 rfl rfl (by first | rfl | assumption) rfl rfl) ?_))
   rintro _ FT uV
   refine aA (aj (ay (ah (aV rfl (aA (aj (aJ (aP (.inl rfl) results11 rfl ?_))))))))
   have NK := uV.f6.f6.f6.f6.f6
   have NM := aB.XR (c := s.c) NK
   exact ⟨by unfold aY.EO; rw [if_neg (by simp [hin])], by rw [BZ hin]; exact aB.E8 (BZ hin ▸ TI cZ hin) rfl NM.f10.right.f10.right.f10.right.f9.f9.f9.f9.f9.f9.f9.f9⟩
end
end Go.Proofs.YtgmpclifphbjkaaGreatDoor
end
section
namespace Go.Proofs.YtgmpclifphbjkaaGreatDoor
open Go.RowKit
open _root_.Go.Proofs.Tryz
section
variable {w0 w : World} {F : HP} {e p h pr : Nat} {s : aY} {x : Int} {b : Bool}
theorem qx (h : lg s) (L : List Int) (pt mk : Int) : lg (s.jm L pt mk) := h
theorem KT (H : aB w0 w (dD e s • F)) : fQ prog 25 #[.pointer (some ⟨e, 0, none⟩), .int .i64 x] w fun v w' => v = .int .i64 (s.OJ x) ∧ aB w0 w' (dD e (s.vU x) • F) := by
 refine gX func25 ntmps25 ?_
 dsimp only [bg, Nat.reduceAdd]
 refine ay (ah (aV rfl (aA (aj (ay (ay (ah (aO rfl (dw rfl func51 (gJ H) ?_)))))))))
 rintro _ _ ⟨rfl, rfl⟩
 refine aV rfl (aA (aj (ay (ah (aO rfl (aU (bZ rfl rfl) (aA (aj (aH rfl (fun h1 => ?_) (fun h1 => ?_))))))))))
 ·(try simp only [aG] at h1)
  obtain ⟨hin, hpe⟩ := nZ h1
  refine ay (ah (aO rfl (aV rfl (aA (aj (aJ (aK (aP (.inl rfl) results25 rfl ?_))))))))
  rw [hpe]
  exact ⟨by simp [aY.OJ, aY.vU, hin], by rw [show s.vU x = s from by simp [aY.OJ, aY.vU, hin]]; exact H⟩
 ·(try simp only [aG] at h1)
  have hin := lq h1
  refine aS (aj (ay ?_))
  obtain ⟨nD, nN, nO, oG, nP, nR, nS, nT, mG, lu, lC, lD, lF, lG, lH, lI, lJ, lK, lM, lN, cZ, bC, gG, dn⟩ := (H).Ak
  refine ah (aO rfl (bH rfl (aZ 0 underlying66 rfl sizeOf62 rfl (aZ 0 underlying62 rfl sizeOf57 rfl (cO underlying57 rfl (dn).get.2 rfl (aO rfl (dw rfl func74 (IU dn.f2) ?_)))))))
  rintro _ w3 ⟨rfl, H3⟩
  refine aV rfl (aA (aj (aJ (aP (.inl rfl) results25 rfl ?_))))
  exact ⟨by simp [aY.OJ, hin], by rw [show s.vU x = s.jm s.c.L (V8 s.c.L.length s.c.pt x) s.c.mark from by simp [aY.vU, hin]]; exact aB.dG (qx cZ _ _ _) bC H3.f11.f11.f11.f11.f11.f11.f11.f11.f11.f10.f11⟩
theorem KU (H : aB w0 w (dD e s • F)) : fQ prog 49 #[.pointer (some ⟨e, 0, none⟩), .int .i64 x] w fun v w' => v = .int .i64 (s.OL x) ∧ aB w0 w' (dD e (s.zo x) • F) := by
 refine gX func49 ntmps49 ?_
 dsimp only [bg, Nat.reduceAdd]
 refine ay (ah (aV rfl (aA (aj (ay (ay (ah (aO rfl (dw rfl func51 (gJ H) ?_)))))))))
 rintro _ _ ⟨rfl, rfl⟩
 refine aV rfl (aA (aj (ay (ah (aO rfl (aU (bZ rfl rfl) (aA (aj (aH rfl (fun h1 => ?_) (fun h1 => ?_))))))))))
 ·(try simp only [aG] at h1)
  obtain ⟨hin, hpe⟩ := nZ h1
  refine ay (ah (aO rfl (aV rfl (aA (aj (aJ (aK (aP (.inl rfl) results49 rfl ?_))))))))
  rw [hpe]
  exact ⟨by simp [aY.OL, aY.zo, hin], by rw [show s.zo x = s from by simp [aY.OL, aY.zo, hin]]; exact H⟩
 ·(try simp only [aG] at h1)
  have hin := lq h1
  refine aS (aj (ay ?_))
  obtain ⟨nD, nN, nO, oG, nP, nR, nS, nT, mG, lu, lC, lD, lF, lG, lH, lI, lJ, lK, lM, lN, cZ, bC, gG, dn⟩ := (H).Ak
  refine ah (aO rfl (bH rfl (aZ 0 underlying66 rfl sizeOf62 rfl (aZ 0 underlying62 rfl sizeOf57 rfl (cO underlying57 rfl (dn).get.2 rfl (aO rfl (dw rfl func71 (xu dn.f2) ?_)))))))
  rintro _ w3 ⟨rfl, H3⟩
  refine aV rfl (aA (aj (aJ (aP (.inl rfl) results49 rfl ?_))))
  exact ⟨by simp [aY.OL, hin], by rw [show s.zo x = s.jm s.c.L s.c.pt (Xl s.c.L s.c.mark x) from by simp [aY.zo, hin]]; exact aB.dG (qx cZ _ _ _) bC H3.f11.f11.f11.f11.f11.f11.f11.f11.f11.f10.f11⟩
theorem KW (H : aB w0 w (dD e s • F)) : fQ prog 50 #[.pointer (some ⟨e, 0, none⟩)] w fun v w' => v = .int .i64 s.OM ∧ aB w0 w' (dD e s.zq • F) := by
 refine gX func50 ntmps50 ?_
 dsimp only [bg, Nat.reduceAdd]
 refine ay (ah (aV rfl (aA (aj (ay (ay (ah (aO rfl (dw rfl func51 (gJ H) ?_)))))))))
 rintro _ _ ⟨rfl, rfl⟩
 refine aV rfl (aA (aj (ay (ah (aO rfl (aU (bZ rfl rfl) (aA (aj (aH rfl (fun h1 => ?_) (fun h1 => ?_))))))))))
 ·(try simp only [aG] at h1)
  obtain ⟨hin, hpe⟩ := nZ h1
  refine ay (ah (aO rfl (aV rfl (aA (aj (aJ (aK (aP (.inl rfl) results50 rfl ?_))))))))
  rw [hpe]
  exact ⟨by simp [aY.OM, aY.zq, hin], by rw [show s.zq = s from by simp [aY.OM, aY.zq, hin]]; exact H⟩
 ·(try simp only [aG] at h1)
  have hin := lq h1
  refine aS (aj (ay ?_))
  obtain ⟨nD, nN, nO, oG, nP, nR, nS, nT, mG, lu, lC, lD, lF, lG, lH, lI, lJ, lK, lM, lN, cZ, bC, gG, dn⟩ := (H).Ak
  refine ah (aO rfl (bH rfl (aZ 0 underlying66 rfl sizeOf62 rfl (aZ 0 underlying62 rfl sizeOf57 rfl (cO underlying57 rfl (dn).get.2 rfl (dw rfl func118 (IW dn.f2) ?_))))))
  rintro _ w3 ⟨rfl, H3⟩
  refine aV rfl (aA (aj (aJ (aP (.inl rfl) results50 rfl ?_))))
  exact ⟨by simp [aY.OM, hin], by rw [show s.zq = s.jm s.c.L (swP s.c.pt s.c.mark) (swM s.c.pt s.c.mark) from by simp [aY.zq, hin]]; exact aB.dG (qx cZ _ _ _) bC H3.f11.f11.f11.f11.f11.f11.f11.f11.f11.f10.f11⟩
theorem KX (H : aB w0 w (dD e s • F)) : fQ prog 28 #[.pointer (some ⟨e, 0, none⟩), .int .i64 x] w fun v w' => v = .int .i64 (s.yB x) ∧ aB w0 w' (dD e (s.yC x) • F) := by
 refine gX func28 ntmps28 ?_
 dsimp only [bg, Nat.reduceAdd]
 refine ay (ah (aV rfl (aA (aj (ay (ay (ah (aO rfl (dw rfl func51 (gJ H) ?_)))))))))
 rintro _ _ ⟨rfl, rfl⟩
 refine aV rfl (aA (aj (ay (ah (aO rfl (aU (bZ rfl rfl) (aA (aj (aH rfl (fun h1 => ?_) (fun h1 => ?_))))))))))
 ·(try simp only [aG] at h1)
  obtain ⟨hin, hpe⟩ := nZ h1
  refine ay (ah (aO rfl (aV rfl (aA (aj (aJ (aK (aP (.inl rfl) results28 rfl ?_))))))))
  rw [hpe]
  exact ⟨by simp [aY.yB, aY.yC, hin], by rw [show s.yC x = s from by simp [aY.yB, aY.yC, hin]]; exact H⟩
 ·(try simp only [aG] at h1)
  have hin := lq h1
  refine aS (aj (ay (ay (ah (aO rfl (aU (dL rfl rfl) (jo rfl (fun h2 => ?_) (fun h2 => ?_))))))))
  ·(try simp only [aG] at h2)
   refine bI (bI (jO rfl rfl (aA (aj (yL (ay (ah (aV rfl (aA (aj (aJ (aK (aP (.inl rfl) results28 rfl ?_)))))))))))))
   have hd : s.yB x = 1 := by unfold aY.yB; rw [if_pos hin, if_pos (by omega)]
   exact ⟨by rw [hd], by unfold aY.yC; rw [hd, if_neg (by decide)]; exact H⟩
  ·(try simp only [aG] at h2)
   refine bD (aO rfl (bD (aU (dQ rfl rfl) (jr rfl rfl (aA (aj (aH rfl (fun h3 => ?_) (fun h3 => ?_))))))))
   ·(try simp only [aG] at h3)
    refine ay (ah (aV rfl (aA (aj (aJ (aK (aP (.inl rfl) results28 rfl ?_)))))))
    have hd : s.yB x = 1 := by unfold aY.yB; rw [if_pos hin, if_pos (by omega)]
    exact ⟨by rw [hd], by unfold aY.yC; rw [hd, if_neg (by decide)]; exact H⟩
   ·(try simp only [aG] at h3)
    refine aS (aj (ay ?_))
    have hd : s.yB x = 0 := by unfold aY.yB; rw [if_pos hin, if_neg (by omega)]
    obtain ⟨nD, nN, nO, oG, nP, nR, nS, nT, mG, lu, lC, lD, lF, lG, lH, lI, lJ, lK, lM, lN, cZ, bC, gG, dn⟩ := (H).Ak
    refine ah (aO rfl (aO rfl (bH rfl (aZ 0 underlying66 rfl sizeOf62 rfl (aZ 4 underlying62 rfl sizeOf3 rfl (aI (aN 4 (l' := [_, _, _, _, _, _, _, _, _, _, _, _, _, _, _, _, _, _, _, _, _, _, _, _, _, _, _, _, _, _, _, _, _, _]) dn sizeOf3 rfl rfl (by first | rfl | assumption) rfl rfl) ?_))))))
    rintro _ w3 H3
    refine aA (aj (ay (ah (aV rfl (aA (aj (aJ (aP (.inl rfl) results28 rfl ?_))))))))
    rw [hd]
    refine ⟨rfl, ?_⟩
    unfold aY.yC
    rw [if_pos hd]
    exact aB.dG (s := { s with c := { s.c with mode := x } }) cZ bC H3.f11.f11.f11.f11.f11.f11.f11.f11.f11.f11.f11
end
end Go.Proofs.YtgmpclifphbjkaaGreatDoor
end
