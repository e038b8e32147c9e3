import Derived.Test.YtgndbccogcofjaaGreatDoorZ2
import Derived.Test.YtgndbccogcofjaaGreatDoorZ12
set_option linter.unusedSimpArgs false
set_option linter.unusedVariables false
/- Texts of mine, joined, their names in short: EdB EdC EdMv. -/
section
namespace Go.Proofs.YtgndbccogcofjaaGreatDoor
open Go.RowKit
open _root_.Go.Proofs.Tryz
section
variable {w0 w : World} {F : HP} {e p h pr : Nat} {s : bD} {hl : List nS} {base most m : Int} {v : Value} {l : List Int}
theorem aB.nP {b : Nat} (H : aB w0 w (dW nK b (fun _ => none) • F)) : aB w0 w (ru b (fun _ => []) • F) :=
  aB.zx (D := []) (P := fun _ => 0) List.nodup_nil (fun _ _ => rfl) (by rw [JI]; exact H.of_eq (by show _ = (_ • emp • _); rw [YtgndbccogcofjaaGreatDoor.iO]))
set_option maxHeartbeats 1000000 in
theorem vG {x0 x2 x3 x5 x6 x7 x8 x9 x10 x11 x12 VU x14 x15 x16 x17 x18 x19 x20 x21 UW x23 x24 x25 UY x27 x28 x29 x30 x31 x32 UZ : Value} {E : List (List Int)} {a : Nat} (H : aB w0 w (dh e (.cells (x0 :: .pointer (some ⟨pr, 0, none⟩) :: x2 :: x3 :: .int .i64 m :: x5 :: x6 :: x7 :: x8 :: x9 :: x10 :: x11 :: x12 :: VU :: x14 :: x15 :: x16 :: x17 :: x18 :: x19 :: x20 :: x21 :: UW :: x23 :: x24 :: x25 :: UY :: x27 :: x28 :: x29 :: x30 :: x31 :: x32 :: UZ :: []).toArray 37 (0, 0)) • dY h hl base most • F)) (hr : iD w0 F .i32 v l) (hshort : l.length ≤ 1024) :
  eG prog 110 #[.pointer (some ⟨e, 0, none⟩), .pointer (some ⟨h, 0, none⟩), v] w fun _ w' => ∃ pb pw pt pm ph, aB w0 w' (dh e (.cells (.pointer (some ⟨pb, 0, none⟩) :: .pointer (some ⟨pr, 0, none⟩) :: .pointer (some ⟨pw, 0, none⟩) :: .map (some pm) :: .int .i64 m :: .bool false :: .int .i64 0 :: .int .i64 0 :: .int .i64 0 :: .int .i64 0 :: .bool false :: .pointer (some ⟨ph, 0, none⟩) :: x12 :: .bool false :: .bool false :: .int .i64 (-1) :: x16 :: x17 :: x18 :: x19 :: x20 :: x21 :: UW :: x23 :: x24 :: x25 :: UY :: x27 :: x28 :: x29 :: x30 :: x31 :: x32 :: UZ :: []).toArray 37 (0, 0)) •
   dJ pb l l.length (-1) • dh pw (.cells #[.int .i64 hl.length, .map (some pt)] 85 (0, 0)) • dW nK pt (fun _ => none) • ru pm (fun _ => []) • dY ph hl base most • dY h hl base most • F) := by
 refine fP func110 ntmps110 ?_
 dsimp only [aX, Nat.reduceAdd]
 refine ay (ah (aO rfl (dn rfl func184 (FI H (fun W HW => hr _ (HW.right.right)) hshort) ?_)))
 rintro _ w1 ⟨p1, rfl, H1⟩
 refine aO rfl (CW rfl rfl (CW rfl rfl (aV rfl (aV rfl (aA (aj (ay (ah (aO rfl (aO rfl (dn rfl func45 (lI H1.f3) ?_)))))))))))
 rintro _ w2 ⟨q2, rfl, H2⟩
 refine bK rfl (aZ 11 underlying37 rfl sizeOf33 rfl (aG (aN 11 (l' := [_, _, _, _, _, _, _, _, _, _, _, _, _, _, _, _, _, _, _, _, _, _, _, _, _, _, _, _, _, _, _, _, _, _]) H2.f4 sizeOf33 rfl rfl (by first | rfl | assumption) rfl rfl) ?_))
 rintro _ w3 H3
 refine aA (aj (ay ?_))
 have Py := H3.drew
 have qc := aB.kp (Py.f3.right.f3.f3.f3)
 refine xJ [6, 17] qc rfl (iq 0 rfl qc rfl (iq 1 rfl qc rfl (iq 2 rfl qc rfl (jv 3 rfl qc rfl (fU 4 rfl qc 0 underlying37 rfl sizeOf32 rfl (fU 5 rfl qc 1 underlying32 rfl sizeOf28 rfl (iV 6 rfl qc (fun W hW => jr underlying28 rfl ((Kp.h hW)).get.2 rfl) (iq 7 rfl qc rfl (iq 13 rfl qc rfl (jv 14 rfl qc rfl (fU 15 rfl qc 0 underlying37 rfl sizeOf32 rfl (fU 16 rfl qc 4 underlying32 rfl sizeOf3 rfl (iV 17 rfl qc (fun W hW => jr underlying3 rfl ((Kp.h hW)).get.2 rfl) ?_)))))))))))))
 refine LK (i := 8) (j := 9) (k := 12) (by kernel_rfl) ?_ ?_ ?_
 ·skip
  refine jP 8 rfl (by kernel_rfl) (vJ (xI rfl func102 rfl rfl) (lH Py.f3)) (nR rfl) ?_
  rintro _ w4 ⟨rfl, H4⟩
  have uN := aB.kp (H4.f4.f4.f4.f4)
  refine dM uN (fun W hW => (Kp.h hW).right.f3.f3.f3) ?_
  refine zL (i := 9) (j := 12) (by kernel_rfl) ?_ ?_
  ·skip
   refine jP 9 rfl (by kernel_rfl) (gB (uM .i64) H4) (nR rfl) ?_
   rintro _ w5 ⟨b5, rfl, H5⟩
   have Iq := aB.kp (H5.f5.f5.f5.f5.f5)
   refine dM Iq (fun W hW => (Kp.h hW).right.f4.f4.f4.f4) ?_
   refine iU 10 rfl Iq (fun _ => fE (zl := [.int .i64 0, .map none]) (pl := [(0, 1), (1, 1)]) [_, _] underlying85 zeroValue85 rfl (fun w => by kernel_rfl) rfl (.one (by first | rfl | assumption) (.one (by first | rfl | assumption) .nil)) rfl) ?_
   refine zL (i := 11) (j := 12) (by kernel_rfl) ?_ ?_
   ·skip
    refine jP 11 rfl (by kernel_rfl) (gV (l := [_, _]) H5 rfl rfl) (nR rfl) ?_
    rintro _ w6 ⟨b6, rfl, H6⟩
    have Gm := aB.kp (H6.f6.f6.f6.f6.f6.f6)
    refine dM Gm (fun W hW => (Kp.h hW).right.f5.f5.f5.f5.f5) ?_
    refine jB 12 rfl (gB (uM .i64) H6) ?_
    rintro _ w7 ⟨b7, rfl, H7⟩
    have xX := aB.kp (H7.f7.f7.f7.f7.f7.f7.f7)
    refine dM xX (fun W hW => (Kp.h hW).right.f6.f6.f6.f6.f6.f6) ?_
    refine iU 18 rfl xX (fun _ => fE (zl := [.pointer none, .pointer none, .pointer none, .map none, .int .i64 0, .bool false, .int .i64 0, .int .i64 0, .int .i64 0, .int .i64 0, .bool false]) (pl := [(0, 1), (1, 1), (2, 1), (3, 1), (4, 1), (5, 1), (6, 1), (7, 1), (8, 1), (9, 1), (10, 1)]) [_, _, _, _, _, _, _, _, _, _, _] underlying32 zeroValue32 rfl (fun w => by kernel_rfl) rfl (.one (by first | rfl | assumption) (.one (by first | rfl | assumption) (.one (by first | rfl | assumption) (.one (by first | rfl | assumption) (.one (by first | rfl | assumption) (.zero (zs := [.bool false]) rfl (.zero (zs := [.int .i64 0]) rfl (.zero (zs := [.int .i64 0]) rfl (.zero (zs := [.int .i64 0]) rfl (.zero (zs := [.int .i64 0]) rfl (.zero (zs := [.bool false]) rfl .nil))))))))))) rfl) ?_
    refine jv 19 rfl xX rfl (fU 20 rfl xX 0 underlying37 rfl sizeOf32 rfl ?_)
    refine eP 21 rfl (by kernel_rfl) (cO 0 (l' := [_, _, _, _, _, _, _, _, _, _, _, _, _, _, _, _, _, _, _, _, _, _, _, _, _, _, _, _, _, _, _, _, _, _]) (us := [_, _, _, _, _, _, _, _, _, _, _]) H7.f5 sizeOf32 rfl rfl rfl (aC (by first | rfl | assumption) (aC (by first | rfl | assumption) (aC (by first | rfl | assumption) (aC (by first | rfl | assumption) (aC (by first | rfl | assumption) (aC (by first | rfl | assumption) (aC (by first | rfl | assumption) (aC (by first | rfl | assumption) (aC (by first | rfl | assumption) (aC (by first | rfl | assumption) (aC (by first | rfl | assumption) bP))))))))))) rfl rfl) ?_
    rintro _ w8 H8
    have KJ := aB.kp (H8.f7.f7.f7.f7.f7.f7.f7)
    refine eX KJ (by kernel_rfl) ?_
    refine oV (aj (ah (aO rfl (aO rfl (aO rfl (bK rfl (aZ 13 underlying37 rfl sizeOf4 rfl (aG (aN 13 (l' := [_, _, _, _, _, _, _, _, _, _, _, _, _, _, _, _, _, _, _, _, _, _, _, _, _, _, _, _, _, _, _, _, _, _]) H8 sizeOf4 rfl rfl (by first | rfl | assumption) rfl rfl) ?_))))))))
    rintro _ w9 H9
    refine bK rfl (aZ 14 underlying37 rfl sizeOf4 rfl (aG (aN 14 (l' := [_, _, _, _, _, _, _, _, _, _, _, _, _, _, _, _, _, _, _, _, _, _, _, _, _, _, _, _, _, _, _, _, _, _]) H9 sizeOf4 rfl rfl (by first | rfl | assumption) rfl rfl) ?_))
    rintro _ w10 ng
    refine bK rfl (aZ 15 underlying37 rfl sizeOf3 rfl (aG (aN 15 (l' := [_, _, _, _, _, _, _, _, _, _, _, _, _, _, _, _, _, _, _, _, _, _, _, _, _, _, _, _, _, _, _, _, _, _]) ng sizeOf3 rfl rfl (by first | rfl | assumption) rfl rfl) ?_))
    rintro _ Ht wB
    refine aA (fF (.inr rfl) results110 ?_)
    have IK := wB.f2
    have IL := IK.nP
    exact ⟨_, _, _, _, _, IL.f5.f6.f3.f6.f6.f7.f7⟩
   ·skip
    refine jP 12 rfl (by kernel_rfl) (gB (uM .i64) H5) (nR rfl) ?_
    rintro _ Ky ⟨b14, rfl, wM⟩
    have MV := aB.kp (wM.f6.f6.f6.f6.f6.f6)
    refine dM MV (fun W hW => (Kp.h hW).right.f5.f5.f5.f5.f5) ?_
    refine jB 11 rfl (gV (l := [_, _]) wM rfl rfl) ?_
    rintro _ MB ⟨b15, rfl, wC⟩
    have uZ := aB.kp (wC.f7.f7.f7.f7.f7.f7.f7)
    refine dM uZ (fun W hW => (Kp.h hW).right.f6.f6.f6.f6.f6.f6) ?_
    refine iU 18 rfl uZ (fun _ => fE (zl := [.pointer none, .pointer none, .pointer none, .map none, .int .i64 0, .bool false, .int .i64 0, .int .i64 0, .int .i64 0, .int .i64 0, .bool false]) (pl := [(0, 1), (1, 1), (2, 1), (3, 1), (4, 1), (5, 1), (6, 1), (7, 1), (8, 1), (9, 1), (10, 1)]) [_, _, _, _, _, _, _, _, _, _, _] underlying32 zeroValue32 rfl (fun w => by kernel_rfl) rfl (.one (by first | rfl | assumption) (.one (by first | rfl | assumption) (.one (by first | rfl | assumption) (.one (by first | rfl | assumption) (.one (by first | rfl | assumption) (.zero (zs := [.bool false]) rfl (.zero (zs := [.int .i64 0]) rfl (.zero (zs := [.int .i64 0]) rfl (.zero (zs := [.int .i64 0]) rfl (.zero (zs := [.int .i64 0]) rfl (.zero (zs := [.bool false]) rfl .nil))))))))))) rfl) ?_
    refine jv 19 rfl uZ rfl (fU 20 rfl uZ 0 underlying37 rfl sizeOf32 rfl ?_)
    refine eP 21 rfl (by kernel_rfl) (cO 0 (l' := [_, _, _, _, _, _, _, _, _, _, _, _, _, _, _, _, _, _, _, _, _, _, _, _, _, _, _, _, _, _, _, _, _, _]) (us := [_, _, _, _, _, _, _, _, _, _, _]) wC.f5 sizeOf32 rfl rfl rfl (aC (by first | rfl | assumption) (aC (by first | rfl | assumption) (aC (by first | rfl | assumption) (aC (by first | rfl | assumption) (aC (by first | rfl | assumption) (aC (by first | rfl | assumption) (aC (by first | rfl | assumption) (aC (by first | rfl | assumption) (aC (by first | rfl | assumption) (aC (by first | rfl | assumption) (aC (by first | rfl | assumption) bP))))))))))) rfl rfl) ?_
    rintro _ w16 rP
    have F9 := aB.kp (rP.f7.f7.f7.f7.f7.f7.f7)
    refine eX F9 (by kernel_rfl) ?_
    refine oV (aj (ah (aO rfl (aO rfl (aO rfl (bK rfl (aZ 13 underlying37 rfl sizeOf4 rfl (aG (aN 13 (l' := [_, _, _, _, _, _, _, _, _, _, _, _, _, _, _, _, _, _, _, _, _, _, _, _, _, _, _, _, _, _, _, _, _, _]) rP sizeOf4 rfl rfl (by first | rfl | assumption) rfl rfl) ?_))))))))
    rintro _ Tc D7
    refine bK rfl (aZ 14 underlying37 rfl sizeOf4 rfl (aG (aN 14 (l' := [_, _, _, _, _, _, _, _, _, _, _, _, _, _, _, _, _, _, _, _, _, _, _, _, _, _, _, _, _, _, _, _, _, _]) D7 sizeOf4 rfl rfl (by first | rfl | assumption) rfl rfl) ?_))
    rintro _ Qc C9
    refine bK rfl (aZ 15 underlying37 rfl sizeOf3 rfl (aG (aN 15 (l' := [_, _, _, _, _, _, _, _, _, _, _, _, _, _, _, _, _, _, _, _, _, _, _, _, _, _, _, _, _, _, _, _, _, _]) C9 sizeOf3 rfl rfl (by first | rfl | assumption) rfl rfl) ?_))
    rintro _ Qh Aa
    refine aA (fF (.inr rfl) results110 ?_)
    have XF := Aa.f3
    have XG := XF.nP
    exact ⟨_, _, _, _, _, XG.f5.f6.f3.f6.f6.f7.f7⟩
  ·skip
   refine jP 12 rfl (by kernel_rfl) (gB (uM .i64) H4) (nR rfl) ?_
   rintro _ VG ⟨b22, rfl, Fh⟩
   have Bf := aB.kp (Fh.f5.f5.f5.f5.f5)
   refine dM Bf (fun W hW => (Kp.h hW).right.f4.f4.f4.f4) ?_
   refine jB 9 rfl (gB (uM .i64) Fh) ?_
   rintro _ Qi ⟨b23, rfl, xC⟩
   have Dv := aB.kp (xC.f6.f6.f6.f6.f6.f6)
   refine dM Dv (fun W hW => (Kp.h hW).right.f5.f5.f5.f5.f5) ?_
   refine iU 10 rfl Dv (fun _ => fE (zl := [.int .i64 0, .map none]) (pl := [(0, 1), (1, 1)]) [_, _] underlying85 zeroValue85 rfl (fun w => by kernel_rfl) rfl (.one (by first | rfl | assumption) (.one (by first | rfl | assumption) .nil)) rfl) ?_
   refine jB 11 rfl (gV (l := [_, _]) xC rfl rfl) ?_
   rintro _ VH ⟨b24, rfl, Kz⟩
   have JJ := aB.kp (Kz.f7.f7.f7.f7.f7.f7.f7)
   refine dM JJ (fun W hW => (Kp.h hW).right.f6.f6.f6.f6.f6.f6) ?_
   refine iU 18 rfl JJ (fun _ => fE (zl := [.pointer none, .pointer none, .pointer none, .map none, .int .i64 0, .bool false, .int .i64 0, .int .i64 0, .int .i64 0, .int .i64 0, .bool false]) (pl := [(0, 1), (1, 1), (2, 1), (3, 1), (4, 1), (5, 1), (6, 1), (7, 1), (8, 1), (9, 1), (10, 1)]) [_, _, _, _, _, _, _, _, _, _, _] underlying32 zeroValue32 rfl (fun w => by kernel_rfl) rfl (.one (by first | rfl | assumption) (.one (by first | rfl | assumption) (.one (by first | rfl | assumption) (.one (by first | rfl | assumption) (.one (by first | rfl | assumption) (.zero (zs := [.bool false]) rfl (.zero (zs := [.int .i64 0]) rfl (.zero (zs := [.int .i64 0]) rfl (.zero (zs := [.int .i64 0]) rfl (.zero (zs := [.int .i64 0]) rfl (.zero (zs := [.bool false]) rfl .nil))))))))))) rfl) ?_
   refine jv 19 rfl JJ rfl (fU 20 rfl JJ 0 underlying37 rfl sizeOf32 rfl ?_)
   refine eP 21 rfl (by kernel_rfl) (cO 0 (l' := [_, _, _, _, _, _, _, _, _, _, _, _, _, _, _, _, _, _, _, _, _, _, _, _, _, _, _, _, _, _, _, _, _, _]) (us := [_, _, _, _, _, _, _, _, _, _, _]) Kz.f5 sizeOf32 rfl rfl rfl (aC (by first | rfl | assumption) (aC (by first | rfl | assumption) (aC (by first | rfl | assumption) (aC (by first | rfl | assumption) (aC (by first | rfl | assumption) (aC (by first | rfl | assumption) (aC (by first | rfl | assumption) (aC (by first | rfl | assumption) (aC (by first | rfl | assumption) (aC (by first | rfl | assumption) (aC (by first | rfl | assumption) bP))))))))))) rfl rfl) ?_
   rintro _ VI Jt
   have U1 := aB.kp (Jt.f7.f7.f7.f7.f7.f7.f7)
   refine eX U1 (by kernel_rfl) ?_
   refine oV (aj (ah (aO rfl (aO rfl (aO rfl (bK rfl (aZ 13 underlying37 rfl sizeOf4 rfl (aG (aN 13 (l' := [_, _, _, _, _, _, _, _, _, _, _, _, _, _, _, _, _, _, _, _, _, _, _, _, _, _, _, _, _, _, _, _, _, _]) Jt sizeOf4 rfl rfl (by first | rfl | assumption) rfl rfl) ?_))))))))
   rintro _ Uh KC
   refine bK rfl (aZ 14 underlying37 rfl sizeOf4 rfl (aG (aN 14 (l' := [_, _, _, _, _, _, _, _, _, _, _, _, _, _, _, _, _, _, _, _, _, _, _, _, _, _, _, _, _, _, _, _, _, _]) KC sizeOf4 rfl rfl (by first | rfl | assumption) rfl rfl) ?_))
   rintro _ Ui Oj
   refine bK rfl (aZ 15 underlying37 rfl sizeOf3 rfl (aG (aN 15 (l' := [_, _, _, _, _, _, _, _, _, _, _, _, _, _, _, _, _, _, _, _, _, _, _, _, _, _, _, _, _, _, _, _, _, _]) Oj sizeOf3 rfl rfl (by first | rfl | assumption) rfl rfl) ?_))
   rintro _ VJ Ol
   refine aA (fF (.inr rfl) results110 ?_)
   have RX := Ol.f4
   have RY := RX.nP
   exact ⟨_, _, _, _, _, RY.f5.f6.f3.f6.f6.f7.f7⟩
 ·skip
  refine jP 9 rfl (by kernel_rfl) (gB (uM .i64) Py) (nR rfl) ?_
  rintro _ Uj ⟨b31, rfl, Hu⟩
  have U2 := aB.kp (Hu.f4.right.f4.f4.f4.f4)
  refine dM U2 (fun W hW => (Kp.h hW).right.f3.f3.f3) ?_
  refine zL (i := 8) (j := 12) (by kernel_rfl) ?_ ?_
  ·skip
   refine jP 8 rfl (by kernel_rfl) (vJ (xI rfl func102 rfl rfl) (lH Hu.f4)) (nR rfl) ?_
   rintro _ w32 ⟨rfl, Ls⟩
   have Qv := aB.kp (Ls.f5.f5.f5.f5.f5)
   refine dM Qv (fun W hW => (Kp.h hW).right.f4.f4.f4.f4) ?_
   refine iU 10 rfl Qv (fun _ => fE (zl := [.int .i64 0, .map none]) (pl := [(0, 1), (1, 1)]) [_, _] underlying85 zeroValue85 rfl (fun w => by kernel_rfl) rfl (.one (by first | rfl | assumption) (.one (by first | rfl | assumption) .nil)) rfl) ?_
   refine zL (i := 11) (j := 12) (by kernel_rfl) ?_ ?_
   ·skip
    refine jP 11 rfl (by kernel_rfl) (gV (l := [_, _]) Ls rfl rfl) (nR rfl) ?_
    rintro _ VK ⟨b33, rfl, Hw⟩
    have U3 := aB.kp (Hw.f6.f6.f6.f6.f6.f6)
    refine dM U3 (fun W hW => (Kp.h hW).right.f5.f5.f5.f5.f5) ?_
    refine jB 12 rfl (gB (uM .i64) Hw) ?_
    rintro _ Wq ⟨b34, rfl, Om⟩
    have JK := aB.kp (Om.f7.f7.f7.f7.f7.f7.f7)
    refine dM JK (fun W hW => (Kp.h hW).right.f6.f6.f6.f6.f6.f6) ?_
    refine iU 18 rfl JK (fun _ => fE (zl := [.pointer none, .pointer none, .pointer none, .map none, .int .i64 0, .bool false, .int .i64 0, .int .i64 0, .int .i64 0, .int .i64 0, .bool false]) (pl := [(0, 1), (1, 1), (2, 1), (3, 1), (4, 1), (5, 1), (6, 1), (7, 1), (8, 1), (9, 1), (10, 1)]) [_, _, _, _, _, _, _, _, _, _, _] underlying32 zeroValue32 rfl (fun w => by kernel_rfl) rfl (.one (by first | rfl | assumption) (.one (by first | rfl | assumption) (.one (by first | rfl | assumption) (.one (by first | rfl | assumption) (.one (by first | rfl | assumption) (.zero (zs := [.bool false]) rfl (.zero (zs := [.int .i64 0]) rfl (.zero (zs := [.int .i64 0]) rfl (.zero (zs := [.int .i64 0]) rfl (.zero (zs := [.int .i64 0]) rfl (.zero (zs := [.bool false]) rfl .nil))))))))))) rfl) ?_
    refine jv 19 rfl JK rfl (fU 20 rfl JK 0 underlying37 rfl sizeOf32 rfl ?_)
    refine eP 21 rfl (by kernel_rfl) (cO 0 (l' := [_, _, _, _, _, _, _, _, _, _, _, _, _, _, _, _, _, _, _, _, _, _, _, _, _, _, _, _, _, _, _, _, _, _]) (us := [_, _, _, _, _, _, _, _, _, _, _]) Om.f5 sizeOf32 rfl rfl rfl (aC (by first | rfl | assumption) (aC (by first | rfl | assumption) (aC (by first | rfl | assumption) (aC (by first | rfl | assumption) (aC (by first | rfl | assumption) (aC (by first | rfl | assumption) (aC (by first | rfl | assumption) (aC (by first | rfl | assumption) (aC (by first | rfl | assumption) (aC (by first | rfl | assumption) (aC (by first | rfl | assumption) bP))))))))))) rfl rfl) ?_
    rintro _ YQ Td
    have U4 := aB.kp (Td.f7.f7.f7.f7.f7.f7.f7)
    refine eX U4 (by kernel_rfl) ?_
    refine oV (aj (ah (aO rfl (aO rfl (aO rfl (bK rfl (aZ 13 underlying37 rfl sizeOf4 rfl (aG (aN 13 (l' := [_, _, _, _, _, _, _, _, _, _, _, _, _, _, _, _, _, _, _, _, _, _, _, _, _, _, _, _, _, _, _, _, _, _]) Td sizeOf4 rfl rfl (by first | rfl | assumption) rfl rfl) ?_))))))))
    rintro _ YR Uk
    refine bK rfl (aZ 14 underlying37 rfl sizeOf4 rfl (aG (aN 14 (l' := [_, _, _, _, _, _, _, _, _, _, _, _, _, _, _, _, _, _, _, _, _, _, _, _, _, _, _, _, _, _, _, _, _, _]) Uk sizeOf4 rfl rfl (by first | rfl | assumption) rfl rfl) ?_))
    rintro _ ZF Ws
    refine bK rfl (aZ 15 underlying37 rfl sizeOf3 rfl (aG (aN 15 (l' := [_, _, _, _, _, _, _, _, _, _, _, _, _, _, _, _, _, _, _, _, _, _, _, _, _, _, _, _, _, _, _, _, _, _]) Ws sizeOf3 rfl rfl (by first | rfl | assumption) rfl rfl) ?_))
    rintro _ Ul Ri
    refine aA (fF (.inr rfl) results110 ?_)
    have XH := Ri.f2
    have XI := XH.nP
    exact ⟨_, _, _, _, _, XI.f4.f6.f3.f6.f6.f7.f7⟩
   ·skip
    refine jP 12 rfl (by kernel_rfl) (gB (uM .i64) Ls) (nR rfl) ?_
    rintro _ YT ⟨b41, rfl, Qj⟩
    have U5 := aB.kp (Qj.f6.f6.f6.f6.f6.f6)
    refine dM U5 (fun W hW => (Kp.h hW).right.f5.f5.f5.f5.f5) ?_
    refine jB 11 rfl (gV (l := [_, _]) Qj rfl rfl) ?_
    rintro _ YU ⟨b42, rfl, Tf⟩
    have JL := aB.kp (Tf.f7.f7.f7.f7.f7.f7.f7)
    refine dM JL (fun W hW => (Kp.h hW).right.f6.f6.f6.f6.f6.f6) ?_
    refine iU 18 rfl JL (fun _ => fE (zl := [.pointer none, .pointer none, .pointer none, .map none, .int .i64 0, .bool false, .int .i64 0, .int .i64 0, .int .i64 0, .int .i64 0, .bool false]) (pl := [(0, 1), (1, 1), (2, 1), (3, 1), (4, 1), (5, 1), (6, 1), (7, 1), (8, 1), (9, 1), (10, 1)]) [_, _, _, _, _, _, _, _, _, _, _] underlying32 zeroValue32 rfl (fun w => by kernel_rfl) rfl (.one (by first | rfl | assumption) (.one (by first | rfl | assumption) (.one (by first | rfl | assumption) (.one (by first | rfl | assumption) (.one (by first | rfl | assumption) (.zero (zs := [.bool false]) rfl (.zero (zs := [.int .i64 0]) rfl (.zero (zs := [.int .i64 0]) rfl (.zero (zs := [.int .i64 0]) rfl (.zero (zs := [.int .i64 0]) rfl (.zero (zs := [.bool false]) rfl .nil))))))))))) rfl) ?_
    refine jv 19 rfl JL rfl (fU 20 rfl JL 0 underlying37 rfl sizeOf32 rfl ?_)
    refine eP 21 rfl (by kernel_rfl) (cO 0 (l' := [_, _, _, _, _, _, _, _, _, _, _, _, _, _, _, _, _, _, _, _, _, _, _, _, _, _, _, _, _, _, _, _, _, _]) (us := [_, _, _, _, _, _, _, _, _, _, _]) Tf.f5 sizeOf32 rfl rfl rfl (aC (by first | rfl | assumption) (aC (by first | rfl | assumption) (aC (by first | rfl | assumption) (aC (by first | rfl | assumption) (aC (by first | rfl | assumption) (aC (by first | rfl | assumption) (aC (by first | rfl | assumption) (aC (by first | rfl | assumption) (aC (by first | rfl | assumption) (aC (by first | rfl | assumption) (aC (by first | rfl | assumption) bP))))))))))) rfl rfl) ?_
    rintro _ Wu Ti
    have U6 := aB.kp (Ti.f7.f7.f7.f7.f7.f7.f7)
    refine eX U6 (by kernel_rfl) ?_
    refine oV (aj (ah (aO rfl (aO rfl (aO rfl (bK rfl (aZ 13 underlying37 rfl sizeOf4 rfl (aG (aN 13 (l' := [_, _, _, _, _, _, _, _, _, _, _, _, _, _, _, _, _, _, _, _, _, _, _, _, _, _, _, _, _, _, _, _, _, _]) Ti sizeOf4 rfl rfl (by first | rfl | assumption) rfl rfl) ?_))))))))
    rintro _ YV Rj
    refine bK rfl (aZ 14 underlying37 rfl sizeOf4 rfl (aG (aN 14 (l' := [_, _, _, _, _, _, _, _, _, _, _, _, _, _, _, _, _, _, _, _, _, _, _, _, _, _, _, _, _, _, _, _, _, _]) Rj sizeOf4 rfl rfl (by first | rfl | assumption) rfl rfl) ?_))
    rintro _ VO Qk
    refine bK rfl (aZ 15 underlying37 rfl sizeOf3 rfl (aG (aN 15 (l' := [_, _, _, _, _, _, _, _, _, _, _, _, _, _, _, _, _, _, _, _, _, _, _, _, _, _, _, _, _, _, _, _, _, _]) Qk sizeOf3 rfl rfl (by first | rfl | assumption) rfl rfl) ?_))
    rintro _ YW Um
    refine aA (fF (.inr rfl) results110 ?_)
    have XJ := Um.f3
    have XK := XJ.nP
    exact ⟨_, _, _, _, _, XK.f4.f6.f3.f6.f6.f7.f7⟩
  ·skip
   refine jP 12 rfl (by kernel_rfl) (gB (uM .i64) Hu) (nR rfl) ?_
   rintro _ w49 ⟨b49, rfl, VW⟩
   have U7 := aB.kp (VW.f5.right.f5.f5.f5.f5.f5)
   refine dM U7 (fun W hW => (Kp.h hW).right.f4.f4.f4.f4) ?_
   refine jB 8 rfl (vK rfl func102 (lH VW.f5)) ?_
   rintro _ Zh ⟨rfl, TA⟩
   have Qw := aB.kp (TA.f6.f6.f6.f6.f6.f6)
   refine dM Qw (fun W hW => (Kp.h hW).right.f5.f5.f5.f5.f5) ?_
   refine iU 10 rfl Qw (fun _ => fE (zl := [.int .i64 0, .map none]) (pl := [(0, 1), (1, 1)]) [_, _] underlying85 zeroValue85 rfl (fun w => by kernel_rfl) rfl (.one (by first | rfl | assumption) (.one (by first | rfl | assumption) .nil)) rfl) ?_
   refine jB 11 rfl (gV (l := [_, _]) TA rfl rfl) ?_
   rintro _ Zi ⟨b51, rfl, RZ⟩
   have JM := aB.kp (RZ.f7.f7.f7.f7.f7.f7.f7)
   refine dM JM (fun W hW => (Kp.h hW).right.f6.f6.f6.f6.f6.f6) ?_
   refine iU 18 rfl JM (fun _ => fE (zl := [.pointer none, .pointer none, .pointer none, .map none, .int .i64 0, .bool false, .int .i64 0, .int .i64 0, .int .i64 0, .int .i64 0, .bool false]) (pl := [(0, 1), (1, 1), (2, 1), (3, 1), (4, 1), (5, 1), (6, 1), (7, 1), (8, 1), (9, 1), (10, 1)]) [_, _, _, _, _, _, _, _, _, _, _] underlying32 zeroValue32 rfl (fun w => by kernel_rfl) rfl (.one (by first | rfl | assumption) (.one (by first | rfl | assumption) (.one (by first | rfl | assumption) (.one (by first | rfl | assumption) (.one (by first | rfl | assumption) (.zero (zs := [.bool false]) rfl (.zero (zs := [.int .i64 0]) rfl (.zero (zs := [.int .i64 0]) rfl (.zero (zs := [.int .i64 0]) rfl (.zero (zs := [.int .i64 0]) rfl (.zero (zs := [.bool false]) rfl .nil))))))))))) rfl) ?_
   refine jv 19 rfl JM rfl (fU 20 rfl JM 0 underlying37 rfl sizeOf32 rfl ?_)
   refine eP 21 rfl (by kernel_rfl) (cO 0 (l' := [_, _, _, _, _, _, _, _, _, _, _, _, _, _, _, _, _, _, _, _, _, _, _, _, _, _, _, _, _, _, _, _, _, _]) (us := [_, _, _, _, _, _, _, _, _, _, _]) RZ.f5 sizeOf32 rfl rfl rfl (aC (by first | rfl | assumption) (aC (by first | rfl | assumption) (aC (by first | rfl | assumption) (aC (by first | rfl | assumption) (aC (by first | rfl | assumption) (aC (by first | rfl | assumption) (aC (by first | rfl | assumption) (aC (by first | rfl | assumption) (aC (by first | rfl | assumption) (aC (by first | rfl | assumption) (aC (by first | rfl | assumption) bP))))))))))) rfl rfl) ?_
   rintro _ Zj Qx
   have U8 := aB.kp (Qx.f7.f7.f7.f7.f7.f7.f7)
   refine eX U8 (by kernel_rfl) ?_
   refine oV (aj (ah (aO rfl (aO rfl (aO rfl (bK rfl (aZ 13 underlying37 rfl sizeOf4 rfl (aG (aN 13 (l' := [_, _, _, _, _, _, _, _, _, _, _, _, _, _, _, _, _, _, _, _, _, _, _, _, _, _, _, _, _, _, _, _, _, _]) Qx sizeOf4 rfl rfl (by first | rfl | assumption) rfl rfl) ?_))))))))
   rintro _ Zk TB
   refine bK rfl (aZ 14 underlying37 rfl sizeOf4 rfl (aG (aN 14 (l' := [_, _, _, _, _, _, _, _, _, _, _, _, _, _, _, _, _, _, _, _, _, _, _, _, _, _, _, _, _, _, _, _, _, _]) TB sizeOf4 rfl rfl (by first | rfl | assumption) rfl rfl) ?_))
   rintro _ w54 XL
   refine bK rfl (aZ 15 underlying37 rfl sizeOf3 rfl (aG (aN 15 (l' := [_, _, _, _, _, _, _, _, _, _, _, _, _, _, _, _, _, _, _, _, _, _, _, _, _, _, _, _, _, _, _, _, _, _]) XL sizeOf3 rfl rfl (by first | rfl | assumption) rfl rfl) ?_))
   rintro _ w55 VX
   refine aA (fF (.inr rfl) results110 ?_)
   have XM := VX.f4
   have XO := XM.nP
   exact ⟨_, _, _, _, _, XO.f4.f6.f3.f6.f6.f7.f7⟩
 ·skip
  refine jP 12 rfl (by kernel_rfl) (gB (uM .i64) Py) (nR rfl) ?_
  rintro _ Zl ⟨b58, rfl, Pz⟩
  have U9 := aB.kp (Pz.f4.right.f4.f4.f4.f4)
  refine dM U9 (fun W hW => (Kp.h hW).right.f3.f3.f3) ?_
  refine zL (i := 8) (j := 9) (by kernel_rfl) ?_ ?_
  ·skip
   refine jP 8 rfl (by kernel_rfl) (vJ (xI rfl func102 rfl rfl) (lH Pz.f4)) (nR rfl) ?_
   rintro _ w59 ⟨rfl, Va⟩
   have Vb := aB.kp (Va.f5.f5.f5.f5.f5)
   refine dM Vb (fun W hW => (Kp.h hW).right.f4.f4.f4.f4) ?_
   refine jB 9 rfl (gB (uM .i64) Va) ?_
   rintro _ XP ⟨b60, rfl, TD⟩
   have Qy := aB.kp (TD.f6.f6.f6.f6.f6.f6)
   refine dM Qy (fun W hW => (Kp.h hW).right.f5.f5.f5.f5.f5) ?_
   refine iU 10 rfl Qy (fun _ => fE (zl := [.int .i64 0, .map none]) (pl := [(0, 1), (1, 1)]) [_, _] underlying85 zeroValue85 rfl (fun w => by kernel_rfl) rfl (.one (by first | rfl | assumption) (.one (by first | rfl | assumption) .nil)) rfl) ?_
   refine jB 11 rfl (gV (l := [_, _]) TD rfl rfl) ?_
   rintro _ w61 ⟨b61, rfl, VY⟩
   have JO := aB.kp (VY.f7.f7.f7.f7.f7.f7.f7)
   refine dM JO (fun W hW => (Kp.h hW).right.f6.f6.f6.f6.f6.f6) ?_
   refine iU 18 rfl JO (fun _ => fE (zl := [.pointer none, .pointer none, .pointer none, .map none, .int .i64 0, .bool false, .int .i64 0, .int .i64 0, .int .i64 0, .int .i64 0, .bool false]) (pl := [(0, 1), (1, 1), (2, 1), (3, 1), (4, 1), (5, 1), (6, 1), (7, 1), (8, 1), (9, 1), (10, 1)]) [_, _, _, _, _, _, _, _, _, _, _] underlying32 zeroValue32 rfl (fun w => by kernel_rfl) rfl (.one (by first | rfl | assumption) (.one (by first | rfl | assumption) (.one (by first | rfl | assumption) (.one (by first | rfl | assumption) (.one (by first | rfl | assumption) (.zero (zs := [.bool false]) rfl (.zero (zs := [.int .i64 0]) rfl (.zero (zs := [.int .i64 0]) rfl (.zero (zs := [.int .i64 0]) rfl (.zero (zs := [.int .i64 0]) rfl (.zero (zs := [.bool false]) rfl .nil))))))))))) rfl) ?_
   refine jv 19 rfl JO rfl (fU 20 rfl JO 0 underlying37 rfl sizeOf32 rfl ?_)
   refine eP 21 rfl (by kernel_rfl) (cO 0 (l' := [_, _, _, _, _, _, _, _, _, _, _, _, _, _, _, _, _, _, _, _, _, _, _, _, _, _, _, _, _, _, _, _, _, _]) (us := [_, _, _, _, _, _, _, _, _, _, _]) VY.f5 sizeOf32 rfl rfl rfl (aC (by first | rfl | assumption) (aC (by first | rfl | assumption) (aC (by first | rfl | assumption) (aC (by first | rfl | assumption) (aC (by first | rfl | assumption) (aC (by first | rfl | assumption) (aC (by first | rfl | assumption) (aC (by first | rfl | assumption) (aC (by first | rfl | assumption) (aC (by first | rfl | assumption) (aC (by first | rfl | assumption) bP))))))))))) rfl rfl) ?_
   rintro _ w62 Vd
   have Ve := aB.kp (Vd.f7.f7.f7.f7.f7.f7.f7)
   refine eX Ve (by kernel_rfl) ?_
   refine oV (aj (ah (aO rfl (aO rfl (aO rfl (bK rfl (aZ 13 underlying37 rfl sizeOf4 rfl (aG (aN 13 (l' := [_, _, _, _, _, _, _, _, _, _, _, _, _, _, _, _, _, _, _, _, _, _, _, _, _, _, _, _, _, _, _, _, _, _]) Vd sizeOf4 rfl rfl (by first | rfl | assumption) rfl rfl) ?_))))))))
   rintro _ w63 Vf
   refine bK rfl (aZ 14 underlying37 rfl sizeOf4 rfl (aG (aN 14 (l' := [_, _, _, _, _, _, _, _, _, _, _, _, _, _, _, _, _, _, _, _, _, _, _, _, _, _, _, _, _, _, _, _, _, _]) Vf sizeOf4 rfl rfl (by first | rfl | assumption) rfl rfl) ?_))
   rintro _ Zm Vg
   refine bK rfl (aZ 15 underlying37 rfl sizeOf3 rfl (aG (aN 15 (l' := [_, _, _, _, _, _, _, _, _, _, _, _, _, _, _, _, _, _, _, _, _, _, _, _, _, _, _, _, _, _, _, _, _, _]) Vg sizeOf3 rfl rfl (by first | rfl | assumption) rfl rfl) ?_))
   rintro _ w65 XQ
   refine aA (fF (.inr rfl) results110 ?_)
   have XR := XQ.f5
   have XT := XR.nP
   exact ⟨_, _, _, _, _, XT.f5.f6.f3.f6.f6.f7.f7⟩
  ·skip
   refine jP 9 rfl (by kernel_rfl) (gB (uM .i64) Pz) (nR rfl) ?_
   rintro _ w68 ⟨b68, rfl, VZ⟩
   have Vh := aB.kp (VZ.f5.right.f5.f5.f5.f5.f5)
   refine dM Vh (fun W hW => (Kp.h hW).right.f4.f4.f4.f4) ?_
   refine jB 8 rfl (vK rfl func102 (lH VZ.f5)) ?_
   rintro _ w69 ⟨rfl, V3⟩
   have Qz := aB.kp (V3.f6.f6.f6.f6.f6.f6)
   refine dM Qz (fun W hW => (Kp.h hW).right.f5.f5.f5.f5.f5) ?_
   refine iU 10 rfl Qz (fun _ => fE (zl := [.int .i64 0, .map none]) (pl := [(0, 1), (1, 1)]) [_, _] underlying85 zeroValue85 rfl (fun w => by kernel_rfl) rfl (.one (by first | rfl | assumption) (.one (by first | rfl | assumption) .nil)) rfl) ?_
   refine jB 11 rfl (gV (l := [_, _]) V3 rfl rfl) ?_
   rintro _ w70 ⟨b70, rfl, Vj⟩
   have JQ := aB.kp (Vj.f7.f7.f7.f7.f7.f7.f7)
   refine dM JQ (fun W hW => (Kp.h hW).right.f6.f6.f6.f6.f6.f6) ?_
   refine iU 18 rfl JQ (fun _ => fE (zl := [.pointer none, .pointer none, .pointer none, .map none, .int .i64 0, .bool false, .int .i64 0, .int .i64 0, .int .i64 0, .int .i64 0, .bool false]) (pl := [(0, 1), (1, 1), (2, 1), (3, 1), (4, 1), (5, 1), (6, 1), (7, 1), (8, 1), (9, 1), (10, 1)]) [_, _, _, _, _, _, _, _, _, _, _] underlying32 zeroValue32 rfl (fun w => by kernel_rfl) rfl (.one (by first | rfl | assumption) (.one (by first | rfl | assumption) (.one (by first | rfl | assumption) (.one (by first | rfl | assumption) (.one (by first | rfl | assumption) (.zero (zs := [.bool false]) rfl (.zero (zs := [.int .i64 0]) rfl (.zero (zs := [.int .i64 0]) rfl (.zero (zs := [.int .i64 0]) rfl (.zero (zs := [.int .i64 0]) rfl (.zero (zs := [.bool false]) rfl .nil))))))))))) rfl) ?_
   refine jv 19 rfl JQ rfl (fU 20 rfl JQ 0 underlying37 rfl sizeOf32 rfl ?_)
   refine eP 21 rfl (by kernel_rfl) (cO 0 (l' := [_, _, _, _, _, _, _, _, _, _, _, _, _, _, _, _, _, _, _, _, _, _, _, _, _, _, _, _, _, _, _, _, _, _]) (us := [_, _, _, _, _, _, _, _, _, _, _]) Vj.f5 sizeOf32 rfl rfl rfl (aC (by first | rfl | assumption) (aC (by first | rfl | assumption) (aC (by first | rfl | assumption) (aC (by first | rfl | assumption) (aC (by first | rfl | assumption) (aC (by first | rfl | assumption) (aC (by first | rfl | assumption) (aC (by first | rfl | assumption) (aC (by first | rfl | assumption) (aC (by first | rfl | assumption) (aC (by first | rfl | assumption) bP))))))))))) rfl rfl) ?_
   rintro _ w71 TF
   have Vk := aB.kp (TF.f7.f7.f7.f7.f7.f7.f7)
   refine eX Vk (by kernel_rfl) ?_
   refine oV (aj (ah (aO rfl (aO rfl (aO rfl (bK rfl (aZ 13 underlying37 rfl sizeOf4 rfl (aG (aN 13 (l' := [_, _, _, _, _, _, _, _, _, _, _, _, _, _, _, _, _, _, _, _, _, _, _, _, _, _, _, _, _, _, _, _, _, _]) TF sizeOf4 rfl rfl (by first | rfl | assumption) rfl rfl) ?_))))))))
   rintro _ w72 XU
   refine bK rfl (aZ 14 underlying37 rfl sizeOf4 rfl (aG (aN 14 (l' := [_, _, _, _, _, _, _, _, _, _, _, _, _, _, _, _, _, _, _, _, _, _, _, _, _, _, _, _, _, _, _, _, _, _]) XU sizeOf4 rfl rfl (by first | rfl | assumption) rfl rfl) ?_))
   rintro _ w73 XV
   refine bK rfl (aZ 15 underlying37 rfl sizeOf3 rfl (aG (aN 15 (l' := [_, _, _, _, _, _, _, _, _, _, _, _, _, _, _, _, _, _, _, _, _, _, _, _, _, _, _, _, _, _, _, _, _, _]) XV sizeOf3 rfl rfl (by first | rfl | assumption) rfl rfl) ?_))
   rintro _ w74 H74
   refine aA (fF (.inr rfl) results110 ?_)
   have XW := H74.f5
   have XY := XW.nP
   exact ⟨_, _, _, _, _, XY.f4.f6.f3.f6.f6.f7.f7⟩
theorem aB.vW {c : jU} {u : List Value} (H : aB w0 w F) (hu : (u.all fun x => x.oneCell') = true) : aB w0 w (oP false c u • F) := by
  unfold oP
  rw [if_neg (by decide)]
  exact H.je hu
theorem oU {inn : Bool} {c : jU} {u : List Value} (H : aB w0 w (oP inn c u • F)) : (u.all fun x => x.oneCell') = true := by
  unfold oP at H
  cases inn with
  | true =>
    rw [if_pos rfl] at H
    obtain ⟨⟨pb, pr, pw, pt, pm⟩, H⟩ := H.kH
    obtain ⟨h, _⟩ := H.flat.fact
    rw [h]; rfl
  | false =>
    rw [if_neg (by decide)] at H
    exact H.fact.1
theorem aB.Si {pb pr pw pt pm : Nat} {c : jU} (H : aB w0 w (dJ pb c.L c.pt c.mark • bY pr c.E c.at_ • dh pw (.cells #[.int .i64 c.place, .map (some pt)] 85 (0, 0)) • dW nK pt (uf c.tx) • ru pm c.un • F)) : aB w0 w (oP true c (JH pb pr pw pm c) • F) := by
  unfold oP
  rw [if_pos rfl]
  exact aB.gy (pb, pr, pw, pt, pm) (aB.deep (aB.je rfl (H.of_eq (by unfold IB; simp only [bQ]))))
theorem aB.was {c : jU} {u : List Value} (H : aB w0 w (oP true c u • F)) : ∃ pb pr pw pt pm, u = JH pb pr pw pm c ∧ aB w0 w (dJ pb c.L c.pt c.mark • bY pr c.E c.at_ • dh pw (.cells #[.int .i64 c.place, .map (some pt)] 85 (0, 0)) • dW nK pt (uf c.tx) • ru pm c.un • F) := by
  unfold oP at H
  rw [if_pos rfl] at H
  obtain ⟨⟨pb, pr, pw, pt, pm⟩, H⟩ := H.kH
  obtain ⟨h, H⟩ := H.flat.fact
  exact ⟨pb, pr, pw, pt, pm, h, H.of_eq (by unfold IB; simp only [bQ])⟩
theorem aB.Bj {pb pr pw pt pm ph bl : Nat} {u0 u1 u2 u3 u4 u5 u6 u7 u8 u9 ua : Value} (h1 : jq s) (hp : s.put = []) (H : aB w0 w (dh e (.cells (.pointer (some ⟨pb, 0, none⟩) :: .pointer (some ⟨pr, 0, none⟩) :: .pointer (some ⟨pw, 0, none⟩) :: .map (some pm) :: .int .i64 s.c.mode :: .bool s.c.over :: .int .i64 s.c.last :: .int .i64 s.c.fr :: .int .i64 s.c.to :: .int .i64 s.c.res :: .bool s.c.run :: .pointer (some ⟨ph, 0, none⟩) :: .pointer (some ⟨bl, 0, none⟩) :: .bool s.given :: .bool s.minus :: .int .i64 s.arg :: .bool s.inn :: u0 :: u1 :: u2 :: u3 :: u4 :: u5 :: u6 :: u7 :: u8 :: u9 :: ua :: .int .i64 s.cls :: .bool s.killed :: .bool s.jY :: .bool s.argues :: .bool s.whole :: .slice none 0 0 :: []).toArray 37 (0, 0)) • dJ pb s.c.L s.c.pt s.c.mark • bY pr s.c.E s.c.at_ • dh pw (.cells #[.int .i64 s.c.place, .map (some pt)] 85 (0, 0)) • dW nK pt (uf s.c.tx) • ru pm s.c.un • dY ph s.hl s.base s.most • dh bl (.cells #[.int .i64 s.tZ] 106 (0, 0)) • oP s.inn s.was [u0, u1, u2, u3, u4, u5, u6, u7, u8, u9, ua] • F)) : aB w0 w (dw e s • F) := by
  refine aB.dF (pb := pb) (pr := pr) (pw := pw) (pt := pt) (pm := pm) (ph := ph) (bl := bl) (u0 := u0) (u1 := u1) (u2 := u2) (u3 := u3) (u4 := u4) (u5 := u5) (u6 := u6) (u7 := u7) (u8 := u8) (u9 := u9) (ua := ua) (pv := .slice none 0 0) (es := []) h1 (by rw [hp]; rfl) ?_
  rw [hp]
  exact (H.nH none).of_eq (by unfold Cm; ac_rfl)
theorem aB.IQ {pb pr pw pt pm ph bl : Nat} {u0 u1 u2 u3 u4 u5 u6 u7 u8 u9 ua : Value} (h1 : jq s) (hp : s.put = []) (hi : s.inn = false) (H : aB w0 w (dh e (.cells (.pointer (some ⟨pb, 0, none⟩) :: .pointer (some ⟨pr, 0, none⟩) :: .pointer (some ⟨pw, 0, none⟩) :: .map (some pm) :: .int .i64 s.c.mode :: .bool s.c.over :: .int .i64 s.c.last :: .int .i64 s.c.fr :: .int .i64 s.c.to :: .int .i64 s.c.res :: .bool s.c.run :: .pointer (some ⟨ph, 0, none⟩) :: .pointer (some ⟨bl, 0, none⟩) :: .bool s.given :: .bool s.minus :: .int .i64 s.arg :: .bool false :: u0 :: u1 :: u2 :: u3 :: u4 :: u5 :: u6 :: u7 :: u8 :: u9 :: ua :: .int .i64 s.cls :: .bool s.killed :: .bool s.jY :: .bool s.argues :: .bool s.whole :: .slice none 0 0 :: []).toArray 37 (0, 0)) • dJ pb s.c.L s.c.pt s.c.mark • bY pr s.c.E s.c.at_ • dh pw (.cells #[.int .i64 s.c.place, .map (some pt)] 85 (0, 0)) • dW nK pt (uf s.c.tx) • ru pm s.c.un • dY ph s.hl s.base s.most • dh bl (.cells #[.int .i64 s.tZ] 106 (0, 0)) • F)) (hu : ([u0, u1, u2, u3, u4, u5, u6, u7, u8, u9, ua].all fun x => x.oneCell') = true := by rfl) : aB w0 w (dw e s • F) := by
  refine aB.Bj (pb := pb) (pr := pr) (pw := pw) (pt := pt) (pm := pm) (ph := ph) (bl := bl) (u0 := u0) (u1 := u1) (u2 := u2) (u3 := u3) (u4 := u4) (u5 := u5) (u6 := u6) (u7 := u7) (u8 := u8) (u9 := u9) (ua := ua) h1 hp ?_
  rw [hi]
  exact (H.vW (c := s.was) (u := [u0, u1, u2, u3, u4, u5, u6, u7, u8, u9, ua]) hu).of_eq (by ac_rfl)
theorem aB.NG {pb pr pw pt pm ph bl : Nat} {u0 u1 u2 u3 u4 u5 u6 u7 u8 u9 ua : Value} {pv : Value} {es : List bZ} (h1 : jq s) (h2 : es.map bZ.says = s.put) (H : aB w0 w (Cm pv es • dh e (.cells (.pointer (some ⟨pb, 0, none⟩) :: .pointer (some ⟨pr, 0, none⟩) :: .pointer (some ⟨pw, 0, none⟩) :: .map (some pm) :: .int .i64 s.c.mode :: .bool s.c.over :: .int .i64 s.c.last :: .int .i64 s.c.fr :: .int .i64 s.c.to :: .int .i64 s.c.res :: .bool s.c.run :: .pointer (some ⟨ph, 0, none⟩) :: .pointer (some ⟨bl, 0, none⟩) :: .bool s.given :: .bool s.minus :: .int .i64 s.arg :: .bool s.inn :: u0 :: u1 :: u2 :: u3 :: u4 :: u5 :: u6 :: u7 :: u8 :: u9 :: ua :: .int .i64 s.cls :: .bool s.killed :: .bool s.jY :: .bool s.argues :: .bool s.whole :: pv :: []).toArray 37 (0, 0)) • dJ pb s.c.L s.c.pt s.c.mark • bY pr s.c.E s.c.at_ • dh pw (.cells #[.int .i64 s.c.place, .map (some pt)] 85 (0, 0)) • dW nK pt (uf s.c.tx) • ru pm s.c.un • dY ph s.hl s.base s.most • dh bl (.cells #[.int .i64 s.tZ] 106 (0, 0)) • oP s.inn s.was [u0, u1, u2, u3, u4, u5, u6, u7, u8, u9, ua] • F)) : aB w0 w (dw e s • F) := by
  refine aB.dF (pb := pb) (pr := pr) (pw := pw) (pt := pt) (pm := pm) (ph := ph) (bl := bl) (u0 := u0) (u1 := u1) (u2 := u2) (u3 := u3) (u4 := u4) (u5 := u5) (u6 := u6) (u7 := u7) (u8 := u8) (u9 := u9) (ua := ua) (pv := pv) (es := es) h1 h2 ?_
  have hl : s.put.length = es.length := by rw [← h2]; simp
  rw [hl]
  exact H.of_eq (by unfold Cm; ac_rfl)
theorem Gn (hl : List nS) (l : List Int) (E : List (List Int)) (a : Nat) (m : Int) : IC hl (jU.fresh l E a hl.length m) := ⟨by simp [jU.fresh], by simp [jU.fresh], by simp [jU.fresh]⟩
theorem Sj (hl : List nS) (base most : Int) : jq (bD.new hl base most) :=
  ⟨Gn _ _ _ _ _, by simp [bD.new], by simp [bD.new], by simp [bD.new], by simp [bD.new, bD.here, jU.fresh, dO], by simp [bD.new, jU.fresh]⟩
theorem IU (H : aB w0 w (dY h hl base most • F)) : eG prog 40 #[.pointer (some ⟨h, 0, none⟩)] w fun v w' => ∃ e, v = .tuple #[.pointer (some ⟨e, 0, none⟩), .int .i64 0] ∧ aB w0 w' (dw e (bD.new hl base most) • dY h hl base most • F) := by
 refine fP func40 ntmps40 ?_
 dsimp only [aX, Nat.reduceAdd]
 refine ay (ah (aV rfl (aV rfl (aA (aj (ay (ay (ah (aO rfl (dn rfl func45 (lI H) ?_))))))))))
 rintro _ w1 ⟨q1, rfl, H1⟩
 refine aW (fO underlying33 rfl rfl) (aA (aj (aQ rfl (fun h => by exfalso; (try simp only [aI] at h); simp at h) (fun h1 => ?_))))
 (try simp only [aI] at h1)
 refine aS (aj (ay (ah (aW (fE (zl := [.int .i64 0]) (pl := [(0, 0), (0, 0), (0, 1)]) [_] underlying106 zeroValue106 rfl (fun w => by kernel_rfl) rfl (.zero (zs := []) rfl (.zero (zs := []) rfl (.zero (zs := [.int .i64 0]) rfl .nil))) rfl) (jo (gV (l := [_]) H1 rfl rfl) ?_)))))
 rintro _ w2 ⟨b2, rfl, H2⟩
 refine aW (fE (zl := [.pointer none, .pointer none, .pointer none, .map none, .int .i64 0, .bool false, .int .i64 0, .int .i64 0, .int .i64 0, .int .i64 0, .bool false, .pointer none, .pointer none, .bool false, .bool false, .int .i64 0, .bool false, .pointer none, .pointer none, .pointer none, .map none, .int .i64 0, .bool false, .int .i64 0, .int .i64 0, .int .i64 0, .int .i64 0, .bool false, .int .i64 0, .bool false, .bool false, .bool false, .bool false, .slice none 0 0]) (pl := [(0, 11), (11, 1), (12, 1), (13, 1), (14, 1), (15, 1), (16, 1), (17, 11), (28, 1), (29, 1), (30, 1), (31, 1), (32, 1), (33, 1)]) [_, _, _, _, _, _, _, _, _, _, _, _, _, _, _, _, _, _, _, _, _, _, _, _, _, _, _, _, _, _, _, _, _, _] underlying37 zeroValue37 rfl (fun w => by kernel_rfl) rfl (.zero (zs := [.pointer none, .pointer none, .pointer none, .map none, .int .i64 0, .bool false, .int .i64 0, .int .i64 0, .int .i64 0, .int .i64 0, .bool false]) rfl (.zero (zs := [.pointer none]) rfl (.one (by first | rfl | assumption) (.zero (zs := [.bool false]) rfl (.zero (zs := [.bool false]) rfl (.zero (zs := [.int .i64 0]) rfl (.zero (zs := [.bool false]) rfl (.zero (zs := [.pointer none, .pointer none, .pointer none, .map none, .int .i64 0, .bool false, .int .i64 0, .int .i64 0, .int .i64 0, .int .i64 0, .bool false]) rfl (.zero (zs := [.int .i64 0]) rfl (.zero (zs := [.bool false]) rfl (.zero (zs := [.bool false]) rfl (.zero (zs := [.bool false]) rfl (.zero (zs := [.bool false]) rfl (.zero (zs := [.slice none 0 0]) rfl .nil)))))))))))))) rfl) ?_
 refine jo (gV (l := [_, _, _, _, _, _, _, _, _, _, _, _, _, _, _, _, _, _, _, _, _, _, _, _, _, _, _, _, _, _, _, _, _, _]) H2 rfl rfl) ?_
 rintro _ w3 ⟨b3, rfl, H3⟩
 refine aV rfl (aA (aj (ay (ah (aO rfl (dn rfl func109 (Ed H3) ?_))))))
 rintro _ w4 ⟨p4, rfl, H4⟩
 refine bK rfl (aZ 0 underlying37 rfl sizeOf32 rfl (aZ 1 underlying32 rfl sizeOf28 rfl (aG (aN 1 (l' := [_, _, _, _, _, _, _, _, _, _, _, _, _, _, _, _, _, _, _, _, _, _, _, _, _, _, _, _, _, _, _, _, _, _]) H4.f2 sizeOf28 rfl rfl (by first | rfl | assumption) rfl rfl) ?_)))
 rintro _ w5 H5
 refine aA (aj (ay (ah (aO rfl (aO rfl (dn rfl func110 (vG (E := []) (a := 0) H5.f4.right.f3.f3.f4.f4 (l := []) (fun W _ => jV.nil W _ none 0 (by decide)) (by decide)) ?_))))))
 rintro _ w6 ⟨qb, qw, qt, qm, qh, H6⟩
 refine aA (aj (ay (ah (aO rfl (aV rfl (aV rfl (aA (aj (aJ (kF (.inl rfl) results40 rfl rfl ?_))))))))))
 exact ⟨_, rfl, aB.IQ (s := bD.new hl base most) (Sj _ _ _) rfl rfl H6.f7.f9.f8.f8.f8.f8.f9.f9.f9⟩
end
end Go.Proofs.YtgndbccogcofjaaGreatDoor
end
section
namespace Go.Proofs.YtgndbccogcofjaaGreatDoor
open Go.RowKit
open _root_.Go.Proofs.Tryz
section
variable {w0 w : World} {F : HP} {e p h pr : Nat} {s : bD} {hl : List nS} {base most m : Int} {v : Value} {l : List Int}
theorem yh (h : s.inn = false) : s.bT = { s with inn := true, was := s.c, cls := 0, killed := false, jY := false, argues := false, whole := true, put := [] } := by unfold bD.bT; rw [if_neg (by simp [h])]
theorem IV (h : s.inn = true) : s.bT = s := by unfold bD.bT; rw [if_pos h]
theorem JR {G : List (List dQ)} {N : List dQ} (h : dO G N ≤ 16384) : dO G [] ≤ 16384 := by unfold dO at *; simp at *; omega
theorem NH (h : jq s) (hi : s.inn = false) : jq s.bT := by
  rw [yh hi]
  obtain ⟨h1, h2, h3, h4, h5, h6⟩ := h
  exact ⟨h1, fun _ => ⟨h1, JR h5, h6⟩, h3, by simp, JR h5, h6⟩
theorem xw (H : aB w0 w (dw e s • F)) : eG prog 26 #[.pointer (some ⟨e, 0, none⟩)] w fun v w' => v = .int .i64 s.yc ∧ aB w0 w' (dw e s.bT • F) := by
 refine fP func26 ntmps26 ?_
 dsimp only [aX, Nat.reduceAdd]
 refine ay (ah (aV rfl (aA (aj (ay (bg (ay (ah (aO rfl (dn rfl func32 (jJ H) ?_))))))))))
 rintro _ _ ⟨rfl, rfl⟩
 refine aV rfl (aA (aj (nV (ay ?_))))
 obtain ⟨oW, oZ, pq, pz, pF, pG, pI, pJ, nO, lQ, lS, lT, lU, lV, lW, lX, lY, lZ, mg, mD, dD, bF, fK, dG⟩ := (H).zy
 refine ah (aO rfl (bK rfl (aZ 16 underlying37 rfl sizeOf4 rfl (dP underlying4 rfl (dG).get.2 rfl (aV rfl (aA (aj (aQ rfl (fun h1 => ?_) (fun h1 => ?_)))))))))
 ·(try simp only [aI] at h1)
  try (exfalso; first | contradiction | omega)
  all_goals
   have hin := h1
   refine ay (ah (aV rfl (aA (aj (aJ (aU (aK (aH (.inl rfl) results26 rfl ?_))))))))
   exact ⟨by unfold bD.yc; rw [if_pos hin], by rw [IV hin]; exact aB.dF dD bF dG.f11.f11.f11.f11.f11.f11.f11.f11.f11.f11.f11⟩
 ·(try simp only [aI] at h1)
  try (exfalso; first | contradiction | omega)
  all_goals
   have hin := h1
   refine aS (aP (aj (ay (ah (aO rfl (aO rfl (aO rfl (bK rfl (aZ 0 underlying37 rfl sizeOf32 rfl (aW (pU 0 (xs := [_, _, _, _, _, _, _, _, _, _, _]) underlying32 rfl sizeOf32 rfl rfl (dG).get.2 rfl) (dn rfl func44 (Gl dG.f6.f6.f6.f6.f6) ?_)))))))))))
   rintro _ w3 ⟨qb3, qr3, qw3, qt3, qm3, rfl, H3⟩
   refine bK rfl (aZ 16 underlying37 rfl sizeOf4 rfl (aG (aN 16 (l' := [_, _, _, _, _, _, _, _, _, _, _, _, _, _, _, _, _, _, _, _, _, _, _, _, _, _, _, _, _, _, _, _, _, _]) H3.f11 sizeOf4 rfl rfl (by first | rfl | assumption) rfl rfl) ?_))
   rintro _ w4 H4
   refine bK rfl (aZ 17 underlying37 rfl sizeOf32 rfl (aG (cO 17 (l' := [_, _, _, _, _, _, _, _, _, _, _, _, _, _, _, _, _, _, _, _, _, _, _, _, _, _, _, _, _, _, _, _, _, _]) (us := [_, _, _, _, _, _, _, _, _, _, _]) H4 sizeOf32 rfl rfl rfl (aC (by first | rfl | assumption) (aC (by first | rfl | assumption) (aC (by first | rfl | assumption) (aC (by first | rfl | assumption) (aC (by first | rfl | assumption) (aC (by first | rfl | assumption) (aC (by first | rfl | assumption) (aC (by first | rfl | assumption) (aC (by first | rfl | assumption) (aC (by first | rfl | assumption) (aC (by first | rfl | assumption) bP))))))))))) rfl rfl) ?_))
   rintro _ w5 H5
   refine aA (aj (ay (ah (aO rfl (aO rfl (aO rfl (aO rfl (aO rfl (aO rfl (bK rfl (aZ 28 underlying37 rfl sizeOf3 rfl (aG (aN 28 (l' := [_, _, _, _, _, _, _, _, _, _, _, _, _, _, _, _, _, _, _, _, _, _, _, _, _, _, _, _, _, _, _, _, _, _]) H5 sizeOf3 rfl rfl (by first | rfl | assumption) rfl rfl) ?_))))))))))))
   rintro _ w6 H6
   refine bK rfl (aZ 29 underlying37 rfl sizeOf4 rfl (aG (aN 29 (l' := [_, _, _, _, _, _, _, _, _, _, _, _, _, _, _, _, _, _, _, _, _, _, _, _, _, _, _, _, _, _, _, _, _, _]) H6 sizeOf4 rfl rfl (by first | rfl | assumption) rfl rfl) ?_))
   rintro _ w7 H7
   refine bK rfl (aZ 30 underlying37 rfl sizeOf4 rfl (aG (aN 30 (l' := [_, _, _, _, _, _, _, _, _, _, _, _, _, _, _, _, _, _, _, _, _, _, _, _, _, _, _, _, _, _, _, _, _, _]) H7 sizeOf4 rfl rfl (by first | rfl | assumption) rfl rfl) ?_))
   rintro _ w8 H8
   refine bK rfl (aZ 31 underlying37 rfl sizeOf4 rfl (aG (aN 31 (l' := [_, _, _, _, _, _, _, _, _, _, _, _, _, _, _, _, _, _, _, _, _, _, _, _, _, _, _, _, _, _, _, _, _, _]) H8 sizeOf4 rfl rfl (by first | rfl | assumption) rfl rfl) ?_))
   rintro _ w9 H9
   refine bK rfl (aZ 32 underlying37 rfl sizeOf4 rfl (aG (aN 32 (l' := [_, _, _, _, _, _, _, _, _, _, _, _, _, _, _, _, _, _, _, _, _, _, _, _, _, _, _, _, _, _, _, _, _, _]) H9 sizeOf4 rfl rfl (by first | rfl | assumption) rfl rfl) ?_))
   rintro _ w10 ng
   refine bK rfl (aZ 33 underlying37 rfl sizeOf35 rfl (aG (aN 33 (l' := [_, _, _, _, _, _, _, _, _, _, _, _, _, _, _, _, _, _, _, _, _, _, _, _, _, _, _, _, _, _, _, _, _, _]) ng sizeOf35 rfl rfl (by first | rfl | assumption) rfl rfl) ?_))
   rintro _ Ht wB
   refine aA (aj (ay (ah (aV rfl (aA (aj (aJ (aH (.inl rfl) results26 rfl ?_))))))))
   have IK := wB.f6.f6.f6.f6.f6
   have IL := aB.Si (c := s.c) IK
   exact ⟨by unfold bD.yc; rw [if_neg (by simp [hin])], by rw [yh hin]; exact aB.Bj (yh hin ▸ NH dD hin) rfl IL.f10.right.f10.right.f10.right.f9.f9.f9.f9.f9.f9.f9.f9⟩
end
end Go.Proofs.YtgndbccogcofjaaGreatDoor
end
section
namespace Go.Proofs.YtgndbccogcofjaaGreatDoor
open Go.RowKit
open _root_.Go.Proofs.Tryz
section
variable {w0 w : World} {F : HP} {e p h pr : Nat} {s : bD} {x : Int} {b : Bool}
theorem rD (h : jq s) (L : List Int) (pt mk : Int) : jq (s.iI L pt mk) := h
theorem Gp (H : aB w0 w (dw e s • F)) : eG prog 42 #[.pointer (some ⟨e, 0, none⟩), .int .i64 x] w fun v w' => v = .int .i64 (s.Bc x) ∧ aB w0 w' (dw e (s.sQ x) • F) := by
 refine fP func42 ntmps42 ?_
 dsimp only [aX, Nat.reduceAdd]
 refine ay (ah (aV rfl (aA (aj (ay (ay (ah (aO rfl (dn rfl func94 (jd H) ?_)))))))))
 rintro _ _ ⟨rfl, rfl⟩
 refine aV rfl (aA (aj (ay (ah (aO rfl (aW (dU rfl rfl) (aA (aj (aQ rfl (fun h1 => ?_) (fun h1 => ?_))))))))))
 ·(try simp only [aI] at h1)
  obtain ⟨hin, hpe⟩ := xq h1
  refine ay (ah (aO rfl (aV rfl (aA (aj (aJ (aK (aH (.inl rfl) results42 rfl ?_))))))))
  rw [hpe]
  exact ⟨by simp [bD.Bc, bD.sQ, hin], by rw [show s.sQ x = s from by simp [bD.Bc, bD.sQ, hin]]; exact H⟩
 ·(try simp only [aI] at h1)
  have hin := ug h1
  refine aS (aj (ay ?_))
  obtain ⟨oW, oZ, pq, pz, pF, pG, pI, pJ, nO, lQ, lS, lT, lU, lV, lW, lX, lY, lZ, mg, mD, dD, bF, fK, dG⟩ := (H).zy
  refine ah (aO rfl (bK rfl (aZ 0 underlying37 rfl sizeOf32 rfl (aZ 0 underlying32 rfl sizeOf27 rfl (dP underlying27 rfl (dG).get.2 rfl (aO rfl (dn rfl func111 (Eb dG.f2) ?_)))))))
  rintro _ w3 ⟨rfl, H3⟩
  refine aV rfl (aA (aj (aJ (aH (.inl rfl) results42 rfl ?_))))
  exact ⟨by simp [bD.Bc, hin], by rw [show s.sQ x = s.iI s.c.L (Ql s.c.L.length s.c.pt x) s.c.mark from by simp [bD.sQ, hin]]; exact aB.dF (rD dD _ _ _) bF H3.f11.f11.f11.f11.f11.f11.f11.f11.f11.f10.f11⟩
theorem EC (H : aB w0 w (dw e s • F)) : eG prog 28 #[.pointer (some ⟨e, 0, none⟩)] w fun v w' => v = .int .i64 s.count ∧ aB w0 w' (dw e s • F) := by
 refine fP func28 ntmps28 ?_
 dsimp only [aX, Nat.reduceAdd]
 refine ay (ah (aV rfl (aA (aj (ay (bg (ay (ah (aO rfl (dn rfl func32 (jJ H) ?_))))))))))
 rintro _ _ ⟨rfl, rfl⟩
 refine aV rfl (aA (aj (nV (ay ?_))))
 obtain ⟨oW, oZ, pq, pz, pF, pG, pI, pJ, nO, lQ, lS, lT, lU, lV, lW, lX, lY, lZ, mg, mD, dD, bF, fK, dG⟩ := (H).zy
 have harg := dD.2.2.1
 refine ah (aO rfl (bK rfl (aZ 13 underlying37 rfl sizeOf4 rfl (dP underlying4 rfl (dG).get.2 rfl (aW (kC rfl) (aV rfl (aA (aj (aQ rfl (fun h1 => ?_) (fun h1 => ?_))))))))))
 ·(try simp only [aI] at h1)
  have hg := h1
  refine ay (ah (aV rfl (aA (aj (aJ (aU (aK (aH (.inl rfl) results28 rfl ?_))))))))
  have MO := dG.f11.f11.f11.f11.f11.f11.f11.f11.f11.f11.f11
  have MP := aB.dF (s := s) dD bF MO
  exact ⟨by unfold bD.count; simp only [*]; first | rfl | (split <;> simp_all <;> omega) | simp_all, MP⟩
 ·(try simp only [aI] at h1)
  have hg := h1
  refine aS (aP (aj (ay (ah (aO rfl (bK rfl (aZ 15 underlying37 rfl sizeOf3 rfl (dP underlying3 rfl (dG).get.2 rfl (aV rfl (aA (aj (ay (ay (ah (aO rfl (aW (eU rfl rfl) (aA (aj (aQ rfl (fun h2 => ?_) (fun h2 => ?_))))))))))))))))))))
  ·(try simp only [aI] at h2)
   refine ah (aV rfl (aA (aj (ay (ay (ah (aO rfl (bK rfl (aZ 14 underlying37 rfl sizeOf4 rfl (dP underlying4 rfl (dG).get.2 rfl (aA (aj (aQ rfl (fun h3 => ?_) (fun h3 => ?_))))))))))))))
   ·(try simp only [aI] at h3)
    refine ay (ah (aO rfl (aW (LH rfl (by omega)) (aV rfl (aA (aj (aJ (aK (aH (.inl rfl) results28 rfl ?_)))))))))
    have Ry := dG.f11.f11.f11.f11.f11.f11.f11.f11.f11.f11.f11
    have Rz := aB.dF (s := s) dD bF Ry
    exact ⟨by unfold bD.count; simp only [*]; first | rfl | (split <;> simp_all <;> omega) | simp_all, Rz⟩
   ·(try simp only [aI] at h3)
    refine aS (aj (ay (ah (aO rfl (aV rfl (aA (aj (aJ (aH (.inl rfl) results28 rfl ?_)))))))))
    have RG := dG.f11.f11.f11.f11.f11.f11.f11.f11.f11.f11.f11
    have RH := aB.dF (s := s) dD bF RG
    exact ⟨by unfold bD.count; simp only [*]; first | rfl | (split <;> simp_all <;> omega) | simp_all, RH⟩
  ·(try simp only [aI] at h2)
   refine aS (aj (ay (ay (ah (aO rfl (bK rfl (aZ 14 underlying37 rfl sizeOf4 rfl (dP underlying4 rfl (dG).get.2 rfl (aA (aj (aQ rfl (fun h4 => ?_) (fun h4 => ?_))))))))))))
   ·(try simp only [aI] at h4)
    refine ay (ah (aO rfl (aW (LH rfl (by omega)) (aV rfl (aA (aj (aJ (aK (aH (.inl rfl) results28 rfl ?_)))))))))
    have XZ := dG.f11.f11.f11.f11.f11.f11.f11.f11.f11.f11.f11
    have X0 := aB.dF (s := s) dD bF XZ
    exact ⟨by unfold bD.count; simp only [*]; first | rfl | (split <;> simp_all <;> omega) | simp_all, X0⟩
   ·(try simp only [aI] at h4)
    refine aS (aj (ay (ah (aO rfl (aV rfl (aA (aj (aJ (aH (.inl rfl) results28 rfl ?_)))))))))
    have X3 := dG.f11.f11.f11.f11.f11.f11.f11.f11.f11.f11.f11
    have X5 := aB.dF (s := s) dD bF X3
    exact ⟨by unfold bD.count; simp only [*]; first | rfl | (split <;> simp_all <;> omega) | simp_all, X5⟩
theorem ED (H : aB w0 w (dw e s • F)) : eG prog 29 #[.pointer (some ⟨e, 0, none⟩)] w fun v w' => v = .bool s.given ∧ aB w0 w' (dw e s • F) := by
 refine fP func29 ntmps29 ?_
 dsimp only [aX, Nat.reduceAdd]
 refine ay (ah (aV rfl (aA (aj (ay (ah (aO rfl (dn rfl func32 (jJ H) ?_))))))))
 rintro _ _ ⟨rfl, rfl⟩
 refine aW (kC rfl) ?_
 obtain ⟨oW, oZ, pq, pz, pF, pG, pI, pJ, nO, lQ, lS, lT, lU, lV, lW, lX, lY, lZ, mg, mD, dD, bF, fK, dG⟩ := (H).zy
 refine fV rfl (fun h1 => ?_) (fun h => by exfalso; (try simp only [aI] at h); simp at h)
 (try simp only [aI] at h1)
 refine bf (aO rfl (bf (bK rfl (bf (aZ 13 underlying37 rfl sizeOf4 rfl (bf (dP underlying4 rfl (dG).get.2 rfl (fG rfl rfl (aV rfl (aA (aj (aJ (aH (.inl rfl) results29 rfl ?_)))))))))))))
 have MO := dG.f11.f11.f11.f11.f11.f11.f11.f11.f11.f11.f11
 have MP := aB.dF (s := s) dD bF MO
 exact ⟨rfl, MP⟩
theorem qg (H : aB w0 w (dw e s • F)) : eG prog 21 #[.pointer (some ⟨e, 0, none⟩)] w fun v w' => ∃ u, v = .agg (oH u s.c.pt s.c.mark) ∧ aB w0 w' (iE 21 .i32 u s.c.L • dw e s • F) := by
 refine fP func21 ntmps21 ?_
 dsimp only [aX, Nat.reduceAdd]
 refine ay (ah (jo (fJ (l := [_, _, _]) H zeroValue53 rfl) ?_))
 rintro _ w1 ⟨b1, rfl, H1⟩
 refine aA (aj (ay (ay (ah (aO rfl (dn rfl func32 (jJ H1.f2) ?_))))))
 rintro _ _ ⟨rfl, rfl⟩
 refine aA (aj (nV (aS (aj (ay ?_)))))
 obtain ⟨oW, oZ, pq, pz, pF, pG, pI, pJ, nO, lQ, lS, lT, lU, lV, lW, lX, lY, lZ, mg, mD, dD, bF, fK, dG⟩ := (H1.f2).zy
 refine ah (aO rfl (bK rfl (aZ 0 underlying37 rfl sizeOf32 rfl (aZ 0 underlying32 rfl sizeOf27 rfl (dP underlying27 rfl (dG).get.2 rfl (dn rfl func43 (Ec dG.f2) ?_))))))
 rintro _ w4 ⟨u4, rfl, H4⟩
 refine aG (cO 0 (l' := [_, _, _]) (us := [_, _, _]) H4.f13 sizeOf53 rfl rfl rfl (aC (by first | rfl | exact Rd.one ((H4).aT)) (aC (by first | rfl | assumption) (aC (by first | rfl | assumption) bP))) rfl rfl) ?_
 rintro _ w5 H5
 refine aA (aj (aJ ?_))
 refine rH (.inl rfl) (LV results21 rfl underlying53 rfl (by rw [show (prog.info? 53).map (·.size) = some 3 from by kernel_rfl]; rfl) (H5).get.2) ?_
 have Ry := H5.f13.f13.f13.f13.f13.f13.f13.f13.f13.f12.f13
 have Rz := aB.dF (s := s) dD bF Ry
 exact ⟨_, rfl, Rz.f2.right.f2⟩
end
end Go.Proofs.YtgndbccogcofjaaGreatDoor
end
