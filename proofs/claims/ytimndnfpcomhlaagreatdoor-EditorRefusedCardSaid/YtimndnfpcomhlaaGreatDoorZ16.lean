import Derived.Test.YtimndnfpcomhlaaGreatDoorZ4
import Derived.Test.YtimndnfpcomhlaaGreatDoorZ15
import Derived.Test.YtimndnfpcomhlaaGreatDoorZ5
set_option linter.unusedSimpArgs false
set_option linter.unusedVariables false
/- Texts of mine, joined, their names in short: EdS3 RefTab Utf2 Utf3 Utf4. -/
section
namespace Go.Proofs.YtimndnfpcomhlaaGreatDoor
open Go.RowKit
open _root_.Go.Proofs.Tryz
def LZ (s : aY) (u ks sv : Value) : List Value := [u, .int .i64 s.c.pt, .int .i64 s.c.mark, .int .i64 s.c.mode, .bool s.c.over, .bool s.given, .bool s.minus, .int .i64 s.arg, .int .i64 s.Fj, .int .i64 s.frS, .int .i64 s.toS, ks, .int .i64 s.c.place, sv, .int .i64 s.yg, .int .i64 s.c.res, .int .i64 s.kE]
section
variable {w0 w : World} {F : HP} {e p ph pw pt pr pm pb : Nat} {s : aY} {k x place : Int} {hl : List qE} {base most cls : Int} {tx : Int → Option ByteArray} {v pv : Value} {U : Int → List (List gV)} {L : List Int} {ZW mk : Int}
theorem FH {x1 x2 x3 x4 x5 x6 x7 x8 x9 x10 x12 yV x14 x15 x16 x17 x18 x19 x20 x21 zM x23 x24 x25 zN x27 x28 x29 x30 x31 x32 Bq : Value} (H : V w0 w (dR e (.cells (.pointer (some ⟨pb, 0, none⟩) :: x1 :: x2 :: x3 :: x4 :: x5 :: x6 :: x7 :: x8 :: x9 :: x10 :: .pointer (some ⟨ph, 0, none⟩) :: x12 :: yV :: x14 :: x15 :: x16 :: x17 :: x18 :: x19 :: x20 :: x21 :: zM :: x23 :: x24 :: x25 :: zN :: x27 :: x28 :: x29 :: x30 :: x31 :: x32 :: Bq :: []).toArray 69 (0, 0)) • fF pb L ZW mk • F)) : iU prog 35 #[.pointer (some ⟨e, 0, none⟩)] w fun v' w' =>
  ∃ u, v' = .agg (pR u ZW mk) ∧ V w0 w' (jR 21 .i32 u L • dR e (.cells (.pointer (some ⟨pb, 0, none⟩) :: x1 :: x2 :: x3 :: x4 :: x5 :: x6 :: x7 :: x8 :: x9 :: x10 :: .pointer (some ⟨ph, 0, none⟩) :: x12 :: yV :: x14 :: x15 :: x16 :: x17 :: x18 :: x19 :: x20 :: x21 :: zM :: x23 :: x24 :: x25 :: zN :: x27 :: x28 :: x29 :: x30 :: x31 :: x32 :: Bq :: []).toArray 69 (0, 0)) • fF pb L ZW mk • F) := by
 refine ji func35 ntmps35 ?_
 refine jg (jL (fE (l := [_, _, _]) H zeroValue40 O) ?_)
 rintro _ w1 ⟨b1, rfl, H1⟩
 refine qj (bM O (dZ O func17 (AX H1.f2) ?_))
 rintro _ _ ⟨rfl, rfl⟩
 refine iT (vO (iq (bM O (dM O (bf 0 ah O aJ O (bf 0 aA O iD O (dQ dU O (H1.f2).get.2 O (dZ O func78 (Lc H1.f3) ?_))))))))
 rintro _ w3 ⟨u3, rfl, H3⟩
 refine aI (dh 0 (l' := [_, _, _]) (us := [_, _, _]) H3.f3 sizeOf40 O O O (aZ (by first | rfl | exact Rd.one ((H3).aP)) (aF (aF bK))) O O) ?_
 rintro _ w4 H4
 refine zkc ?_
 refine rW (.inl O) (Pv results35 O jo O (by rw [Yy]; rfl) (H4).get.2) ?_
 exact ⟨_, O, H4.right.f2.f3.f3⟩
theorem wJ {x0 x1 x3 x4 x5 x6 x7 x8 x9 x10 x12 yV x14 x15 x16 x17 x18 x19 x20 x21 zM x23 x24 x25 zN x27 x28 x29 x30 x31 x32 Bq : Value} (H : V w0 w (dR e (.cells (x0 :: x1 :: .pointer (some ⟨pw, 0, none⟩) :: x3 :: x4 :: x5 :: x6 :: x7 :: x8 :: x9 :: x10 :: .pointer (some ⟨ph, 0, none⟩) :: x12 :: yV :: x14 :: x15 :: x16 :: x17 :: x18 :: x19 :: x20 :: x21 :: zM :: x23 :: x24 :: x25 :: zN :: x27 :: x28 :: x29 :: x30 :: x31 :: x32 :: Bq :: []).toArray 69 (0, 0)) • dR pw (.cells #[.int .i64 place, .map (some pt)] 81 (0, 0)) • iI qH pt (qI tx) • gK ph hl base most • F)) :
    iU prog 37 #[.pointer (some ⟨e, 0, none⟩)] w fun v' w' => V w0 w' (Row 88 2 v' (zu hl tx place).length ((zu hl tx place).flatMap qO) •
      dR e (.cells (x0 :: x1 :: .pointer (some ⟨pw, 0, none⟩) :: x3 :: x4 :: x5 :: x6 :: x7 :: x8 :: x9 :: x10 :: .pointer (some ⟨ph, 0, none⟩) :: x12 :: yV :: x14 :: x15 :: x16 :: x17 :: x18 :: x19 :: x20 :: x21 :: zM :: x23 :: x24 :: x25 :: zN :: x27 :: x28 :: x29 :: x30 :: x31 :: x32 :: Bq :: []).toArray 69 (0, 0)) • dR pw (.cells #[.int .i64 place, .map (some pt)] 81 (0, 0)) • iI qH pt (qI tx) • gK ph hl base most • F) := by
  have hb : hl.length ≤ 4096 := by obtain ⟨v, h, _⟩ := H.r4.hist; exact h.1
  refine ji func37 ntmps37 ?_
  refine lZ O (lZ O (bM O (dM O (bf 11 ah O sizeOf48 O (dQ lC O (H).get.2 O (dZ O func67 (nN H.f4) ?_))))))
  rintro _ w1 ⟨rfl, H1⟩
  refine tJ O (bM O (cZ O (iT (bn ?_))))
  refine iR [(0, _), (4, _), (11, _)] (fun (⟨i, u⟩ : Nat × Value) => [(3, u), (12, .int .i64 (i : Int))]) (fun (⟨i, u⟩ : Nat × Value) W => i ≤ hl.length ∧ V w0 W (Row 88 2 u (qG hl tx place i).length ((qG hl tx place i).flatMap qO) • dR e (.cells (x0 :: x1 :: .pointer (some ⟨pw, 0, none⟩) :: x3 :: x4 :: x5 :: x6 :: x7 :: x8 :: x9 :: x10 :: .pointer (some ⟨ph, 0, none⟩) :: x12 :: yV :: x14 :: x15 :: x16 :: x17 :: x18 :: x19 :: x20 :: x21 :: zM :: x23 :: x24 :: x25 :: zN :: x27 :: x28 :: x29 :: x30 :: x31 :: x32 :: Bq :: []).toArray 69 (0, 0)) • dR pw (.cells #[.int .i64 place, .map (some pt)] 81 (0, 0)) • iI qH pt (qI tx) • gK ph hl base most • F)) (fun (⟨i, u⟩ : Nat × Value) => hl.length - i) ((0, .slice none 0 0)) Gf vT ⟨by omega, H1.f4.f4.f4.jH none⟩ ?_
  rintro ⟨i, u⟩ w2 ⟨hi, HL⟩
  dsimp only [List.cons_append, List.nil_append]
  refine jg (aV (fJ O O) (qj (bI O (fun h1 => ?_) (fun h1 => ?_))))
  · (try simp only [aH] at h1)
    refine iq (aO (bn (bM O (tJ O ?_))))
    have hLen := vJ hl tx place i
    refine aC (mQ O O (dM O (bf 0 ah O aJ O (bf 2 aA O kJ O (dQ iM O (HL.f2).get.2 O (dM O (bf 0 dP O aj O (dQ ay O (HL.f3).get.2 O (aV (dO O O) (qC O (fun h2 => ?_) (fun h2 => ?_)))))))))))
    · (try simp only [aH] at h2)
      have hpl := h2
      refine bU (cZ O (bU (cZ O (bU (dZ O func70 (rJ HL.f5.f5.f5.f5) ?_)))))
      rintro _ w3 ⟨rfl, H3⟩
      refine bU (cZ O (bU (cZ O (bU (dZ O func80 (Ei H3.f4.f2) ?_)))))
      rintro _ w4 ⟨rfl, H4⟩
      refine bU (aV (Sz O O) (pW O O (kK O (fun h3 => ?_) (fun h3 => ?_))))
      · (try simp only [aH] at h3)
        have hsv := OB (hl := hl) (tx := tx) (place := place) (i := i) (by unfold BH; rw [decide_eq_true hpl]; simpa using h3)
        refine aC (mQ O O (mQ O O (dZ O func70 (rJ H4.f2.f4.f4.f4) ?_)))
        rintro _ w5 ⟨rfl, H5⟩
        refine aV (gB (zl := [.int .i64 0, .string .empty]) (pl := [(0, 1), (1, 1)]) [_, _] underlying88 zeroValue88 O (fun w => by kernel_rfl) O (.on (.on .nil)) O) ?_
        refine jL (sH H5 iO sizeOf88 zeroValue88 O O O (by decide) (by decide)) ?_
        rintro l6 w6 H6
        refine jL (iQ H6.f6 iO YR O O O ((H6).aP) (aF (aF bK)) (by omega) (by omega)) ?_
        rintro l7 w7 H7
        have Hd8 := H7.f2.right
        refine lU O (bY (aN (bg (aC (aV (gX O O (by omega)) (cZ O (bY ?_)))))))
        have hLen := vJ hl tx place i
        refine fG ((i + 1, l7)) ?_ ?_ ?_ ?_
        · exact vT
        · exact Gf
        · (try dsimp only)
          first | done | exact ⟨by omega, by first | (rw [hsv, List.length_append, List.flatMap_append]; exact Hd8.f5.f5.f5.f5.f5) | (rw [hsv]; exact Hd8.f5.f5.f5.f5.f5)⟩
        · (try dsimp only); omega
      · (try simp only [aH] at h3)
        have hsv := II (hl := hl) (tx := tx) (place := place) (i := i) (by unfold BH; rw [decide_eq_true hpl]; simpa using h3)
        refine fU (aN (bg (aC (aV (gX O O (by omega)) (cZ O (bY ?_))))))
        have hLen := vJ hl tx place i
        refine fG ((i + 1, u)) ?_ ?_ ?_ ?_
        · exact vT
        · exact Gf
        · (try dsimp only)
          first | done | exact ⟨by omega, by first | (rw [hsv, List.length_append, List.flatMap_append]; exact H4.f2.f4.f4.f4.f5) | (rw [hsv]; exact H4.f2.f4.f4.f4.f5)⟩
        · (try dsimp only); omega
    · (try simp only [aH] at h2)
      have hsv := II (hl := hl) (tx := tx) (place := place) (i := i) (by unfold BH; rw [decide_eq_false (by simpa using h2)]; rfl)
      refine dH (dH (dH (dH (dH (dH (dH (lV O O (iT (vO (fU (aN (bg (aC (aV (gX O O (by omega)) (cZ O (bY ?_))))))))))))))))
      have hLen := vJ hl tx place i
      refine fG ((i + 1, u)) ?_ ?_ ?_ ?_
      · exact vT
      · exact Gf
      · (try dsimp only)
        first | done | exact ⟨by omega, by first | (rw [hsv, List.length_append, List.flatMap_append]; exact HL.f5.f5.f5.f5.f5) | (rw [hsv]; exact HL.f5.f5.f5.f5.f5)⟩
      · (try dsimp only); omega
  · (try simp only [aH] at h1)
    refine iJ (aX ?_)
    obtain rfl : i = hl.length := by omega
    refine aX (dA (bg (aO (aO ?_))))
    have hLen := vJ hl tx place hl.length
    refine aC (ny O O (bf 0 ah O aJ O (bf 2 aA O kJ O (dQ iM O (HL.f2).get.2 O (dM O (bf 0 dP O aj O (dQ ay O (HL.f3).get.2 O (cZ O (aV (dO O O) (kK O (fun h4 => ?_) (fun h4 => ?_)))))))))))
    · (try simp only [aH] at h4)
      have hsv : zu hl tx place = qG hl tx place hl.length ++ [((hl.length : Int), jT hl tx hl.length)] := by unfold zu; rw [if_pos h4]
      refine aC (mQ O O (mQ O O (dZ O func70 (rJ HL.f5.f5.f5.f5) ?_)))
      rintro _ w9 ⟨rfl, H9⟩
      refine aV (gB (zl := [.int .i64 0, .string .empty]) (pl := [(0, 1), (1, 1)]) [_, _] underlying88 zeroValue88 O (fun w => by kernel_rfl) O (.on (.on .nil)) O) ?_
      refine jL (sH H9 iO sizeOf88 zeroValue88 O O O (by decide) (by decide)) ?_
      rintro l10 w10 sV
      refine jL (iQ sV.f6 iO YR O O O ((sV).aP) (aF (aF bK)) (by omega) (by omega)) ?_
      rintro l11 I9 yt
      have Jv := yt.f2.right
      refine gY O (bM O (iW O (fB results37 O ?_)))
      first
        | (rw [hsv, List.length_append, List.flatMap_append]; exact Jv.f5.f5.f5.f5.f5)
        | (rw [hsv]; exact Jv.f5.f5.f5.f5.f5)
    · (try simp only [aH] at h4)
      have hsv : zu hl tx place = qG hl tx place hl.length := by unfold zu; rw [if_neg (by simpa using h4), List.append_nil]
      refine iq (bM O (iW O (fB results37 O ?_)))
      first
        | (rw [hsv, List.length_append, List.flatMap_append]; exact HL.f5.f5.f5.f5.f5)
        | (rw [hsv]; exact HL.f5.f5.f5.f5.f5)
theorem TS {u0 u1 u2 u3 u4 u5 u6 u7 u8 u9 ua : Value} (hin : s.inn = true) (H : V w0 w (vH s.inn s.was [u0, u1, u2, u3, u4, u5, u6, u7, u8, u9, ua] • F)) : u6 = .int .i64 s.was.last ∧ u7 = .int .i64 s.was.fr ∧ u8 = .int .i64 s.was.to := by
  rw [hin] at H
  obtain ⟨qb, qr, qw, qt, qm, hu, -⟩ := H.was
  simp only [N7, List.cons.injEq, and_true] at hu
  exact ⟨hu.2.2.2.2.2.2.1, hu.2.2.2.2.2.2.2.1, hu.2.2.2.2.2.2.2.2.1⟩
set_option maxHeartbeats 1000000 in
theorem zH (H : V w0 w (eH e s • F)) : iU prog 9 #[.pointer (some ⟨e, 0, none⟩)] w fun v w' => ∃ u ks us sv, v = .agg (LZ s u ks sv).toArray ∧
  V w0 w' (jR 21 .i32 u s.c.L • Row 34 1 ks s.c.E.length us • Ae 21 .i32 us (ug s.c.E s.c.at_) • Row 88 2 sv s.saved.length (s.saved.flatMap qO) • eH e s • F) := by
 refine ji func9 ntmps9 ?_
 obtain ⟨qV, rC, rD, rZ, rE, rF, rG, rH, qA, oZ, o7, o8, o9, pq, pz, pF, pG, pI, pJ, pK, dV, bP, jh, dY⟩ := (H).Dy
 have hU : (s.c.un s.c.place).length ≤ 16384 := by
  obtain ⟨D, P, hD1, hD2, HU⟩ := (dY.f6).Vx
  by_cases hm : s.c.place ∈ D
  ·have HF := HU.swap
   rw [sO hm] at HF
   obtain ⟨_, _, _, _, k1, _⟩ := HF.flat.wB
   have := k1.len; simpa using this
  ·rw [hD2 _ hm]; decide
 refine jg (jL (fE (l := [_, _, _, _, _, _, _, _, _, _, _, _, _, _, _, _, _]) dY iG O) ?_)
 rintro _ w2 ⟨b2, rfl, H2⟩
 refine qj (bM O (dZ O func17 (AX H2.f2) ?_))
 rintro _ _ ⟨rfl, rfl⟩
 refine iT (vO (iq ?_))
 refine Dz [(0, _)] (fun (⟨r, q, u, ks, sv, us⟩ : Nat × Nat × Value × Value × Value × List Value) => [(2, .pointer (some ⟨r, 0, none⟩)), (3, .pointer (some ⟨q, 0, none⟩))]) (fun (⟨r, q, u, ks, sv, us⟩ : Nat × Nat × Value × Value × Value × List Value) W => V w0 W (dR q (.cells (u :: .int .i64 s.c.pt :: .int .i64 s.c.mark :: .int .i64 s.c.mode :: .bool s.c.over :: .bool s.given :: .bool s.minus :: .int .i64 s.arg :: .int .i64 s.c.last :: .int .i64 s.c.fr :: .int .i64 s.c.to :: ks :: .int .i64 s.c.place :: sv :: .int .i64 s.yg :: .int .i64 s.c.res :: .int .i64 s.kE :: []).toArray 44 (0, 0)) • jR 21 .i32 u s.c.L • Row 34 1 ks s.c.E.length us • Ae 21 .i32 us (ug s.c.E s.c.at_) • Row 88 2 sv s.saved.length (s.saved.flatMap qO) • dR e (.cells (.pointer (some ⟨qV, 0, none⟩) :: .pointer (some ⟨rC, 0, none⟩) :: .pointer (some ⟨rD, 0, none⟩) :: .map (some rE) :: .int .i64 s.c.mode :: .bool s.c.over :: .int .i64 s.c.last :: .int .i64 s.c.fr :: .int .i64 s.c.to :: .int .i64 s.c.res :: .bool s.c.run :: .pointer (some ⟨rF, 0, none⟩) :: .pointer (some ⟨rG, 0, none⟩) :: .bool s.given :: .bool s.minus :: .int .i64 s.arg :: .bool s.inn :: oZ :: o7 :: o8 :: o9 :: pq :: pz :: pF :: pG :: pI :: pJ :: pK :: .int .i64 s.cls :: .bool s.killed :: .bool s.lW :: .bool s.argues :: .bool s.whole :: rH :: []).toArray 69 (0, 0)) • fF qV s.c.L s.c.pt s.c.mark • dL rC s.c.E s.c.at_ • dR rD (.cells #[.int .i64 s.c.place, .map (some rZ)] 81 (0, 0)) • iI qH rZ (qI s.c.tx) • vW rE s.c.un • gK rF s.hl s.base s.most • dR rG (.cells #[.int .i64 s.kE] 97 (0, 0)) • Row 124 3 rH s.put.length (qA.flatMap fD.enc) • nC qA • vH s.inn s.was [oZ, o7, o8, o9, pq, pz, pF, pG, pI, pJ, pK] • dR r (.cells (.slice none 0 0 :: .int .i64 0 :: .int .i64 0 :: .int .i64 0 :: .bool false :: .bool false :: .bool false :: .int .i64 0 :: .int .i64 0 :: .int .i64 0 :: .int .i64 0 :: .slice none 0 0 :: .int .i64 0 :: .slice none 0 0 :: .int .i64 0 :: .int .i64 0 :: .int .i64 0 :: []).toArray 44 (0, 0)) • F)) sJ ?_ ?_
 ·rintro ⟨r, q, u, ks, sv, us⟩ w4 HJ
  dsimp only [List.cons_append, List.nil_append]
  refine aO (bM O (dM O (bf 16 ah O aQ O (dQ bW O (HJ.f6).get.2 O (kK O (fun h1 => ?_) (fun h1 => ?_))))))
  ·(try simp only [aH] at h1)
   have hin := h1
   obtain ⟨rfl, rfl, rfl⟩ := TS hin HJ.f16
   have abh := HJ.drew
   have vK := V.kp (abh.right.f16.f16.f16.f16.f16.f16.f16.f16.f16.f16.f16.f16.f16.f16.f16.f16)
   refine xP [4, 9, 14] vK O (jc 0 O vK O (kN 1 O vK O (fV 2 O vK 17 ah O aJ O (fV 3 O vK 6 aA O aj O (jq 4 O vK (fun W hW => jV ay O ((Kp.h hW).f5).get.2 O) (jc 5 O vK O (kN 6 O vK O (fV 7 O vK 17 ah O aJ O (fV 8 O vK 7 aA O aj O (jq 9 O vK (fun W hW => jV ay O ((Kp.h hW).f5).get.2 O) (jc 10 O vK O (kN 11 O vK O (fV 12 O vK 17 ah O aJ O (fV 13 O vK 8 aA O aj O (jq 14 O vK (fun W hW => jV ay O ((Kp.h hW).f5).get.2 O) (fV 15 O vK 8 aT O aj O ?_))))))))))))))))
   refine eF 16 O (by kernel_rfl) (Jd 8 abh aj) ?_
   rintro _ w5 H5
   have Dc := V.kp (H5.right.f16.f16.f16.f16.f16.f16.f16.f16.f16.f16.f16.f16.f16.f16.f16.f16)
   refine dK Dc (fun W hW => (Kp.h hW).f16.f16.f16.f16.f16.f16.f16.f16.f16.f16.f16.f16.f16.f16.f16.f16) ?_
   refine fV 17 O Dc 9 aT O aj O ?_
   refine eF 18 O (by kernel_rfl) (Jd 9 H5 aj) ?_
   rintro _ w6 H6
   have yF := V.kp (H6.f17.f17.f17.f17.f17.f17.f17.f17.f17.f17.f17.f17.f17.f17.f17.f17.f17)
   refine dK yF (fun W hW => (Kp.h hW).right.f16.f16.f16.f16.f16.f16.f16.f16.f16.f16.f16.f16.f16.f16.f16.f16) ?_
   refine fV 19 O yF 10 aT O aj O ?_
   refine eF 20 O (by kernel_rfl) (Jd 10 H6 aj) ?_
   rintro _ w7 H7
   have yM := V.kp (H7.f17.f17.f17.f17.f17.f17.f17.f17.f17.f17.f17.f17.f17.f17.f17.f17.f17)
   refine iC yM (by kernel_rfl) ?_
   refine qp (bg (jg (aV (dG aT O kZ O O (H7).get.2) (aI (dh 0 (l' := [_, _, _, _, _, _, _, _, _, _, _, _, _, _, _, _, _]) (us := [_, _, _, _, _, _, _, _, _, _, _, _, _, _, _, _, _]) H7.f17 kZ O O O (aZ (by first | rfl | exact Rd.one ((H7.f2).aP)) (aF (aF (aF (aF (aF (aF (aF (aF (aF (aF (aZ (by first | rfl | exact Rd.one ((H7.f3).aP)) (aF (aZ (by first | rfl | exact Rd.one ((H7.f5).aP)) (aF (aF (aF bK))))))))))))))))) O O) ?_))))
   rintro _ w8 H8
   refine zkc ?_
   refine rW (.inl O) (Pv results9 O aT O (by rw [YS]; rfl) (H8).get.2) ?_
   have Zw := H8.f17.f17.f17.f17.f17.f17.f17.f17.f17.f17.f17
   have Zx := V.eY (s := s) dV bP Zw
   refine ⟨u, ks, us, sv, ?_, Zx.f2.right.f2.right.f5.f5.f5.f5⟩
   unfold LZ aY.Fj aY.frS aY.toS
   rw [hin]
   rfl
  ·(try simp only [aH] at h1)
   have hin := h1
   refine iq (jg (aV (dG aT O kZ O O (HJ).get.2) (aI (dh 0 (l' := [_, _, _, _, _, _, _, _, _, _, _, _, _, _, _, _, _]) (us := [_, _, _, _, _, _, _, _, _, _, _, _, _, _, _, _, _]) HJ.f17 kZ O O O (aZ (by first | rfl | exact Rd.one ((HJ.f2).aP)) (aF (aF (aF (aF (aF (aF (aF (aF (aF (aF (aZ (by first | rfl | exact Rd.one ((HJ.f3).aP)) (aF (aZ (by first | rfl | exact Rd.one ((HJ.f5).aP)) (aF (aF (aF bK))))))))))))))))) O O) ?_)))
   rintro _ w12 wz
   refine zkc ?_
   refine rW (.inl O) (Pv results9 O aT O (by rw [YS]; rfl) (wz).get.2) ?_
   have VE := wz.f17.f17.f17.f17.f17.f17.f17.f17.f17.f17.f17
   have VF := V.eY (s := s) dV bP VE
   refine ⟨u, ks, us, sv, ?_, VF.f2.right.f2.right.f5.f5.f5.f5⟩
   unfold LZ aY.Fj aY.frS aY.toS
   rw [hin]
   rfl
 ·skip
  have Wi := H2.drew
  have dW := V.kp (Wi.f7.right.f7.right.f10.f10.f10.f10.f10.f10.f10.f10.f10.f10)
  refine xP [6, 11, 15, 19, 23, 28, 33, 38, 45, 48, 57, 61] dW O (jc 0 O dW O (jc 2 O dW O (kN 3 O dW O (fV 4 O dW 0 ah O aJ O (fV 5 O dW 4 aA O aj O (jq 6 O dW (fun W hW => jV ay O ((Kp.h hW).f2).get.2 O) (jc 7 O dW O (kN 8 O dW O (fV 9 O dW 0 ah O aJ O (fV 10 O dW 5 aA O aQ O (jq 11 O dW (fun W hW => jV bW O ((Kp.h hW).f2).get.2 O) (jc 12 O dW O (kN 13 O dW O (fV 14 O dW 13 ah O aQ O (jq 15 O dW (fun W hW => jV bW O ((Kp.h hW).f2).get.2 O) (jc 16 O dW O (kN 17 O dW O (fV 18 O dW 14 ah O aQ O (jq 19 O dW (fun W hW => jV bW O ((Kp.h hW).f2).get.2 O) (jc 20 O dW O (kN 21 O dW O (fV 22 O dW 15 ah O aj O (jq 23 O dW (fun W hW => jV ay O ((Kp.h hW).f2).get.2 O) (jc 24 O dW O (kN 25 O dW O (fV 26 O dW 0 ah O aJ O (fV 27 O dW 6 aA O aj O (jq 28 O dW (fun W hW => jV ay O ((Kp.h hW).f2).get.2 O) (jc 29 O dW O (kN 30 O dW O (fV 31 O dW 0 ah O aJ O (fV 32 O dW 7 aA O aj O (jq 33 O dW (fun W hW => jV ay O ((Kp.h hW).f2).get.2 O) (jc 34 O dW O (kN 35 O dW O (fV 36 O dW 0 ah O aJ O (fV 37 O dW 8 aA O aj O (jq 38 O dW (fun W hW => jV ay O ((Kp.h hW).f2).get.2 O) (jc 39 O dW O ?_)))))))))))))))))))))))))))))))))))))))
  refine jc 41 O dW O (kN 42 O dW O (fV 43 O dW 0 ah O aJ O (fV 44 O dW 2 aA O kJ O (jq 45 O dW (fun W hW => jV iM O ((Kp.h hW).f2).get.2 O) (kN 46 O dW O (fV 47 O dW 0 dP O aj O (jq 48 O dW (fun W hW => jV ay O ((Kp.h hW).f5).get.2 O) (jc 49 O dW O (jc 51 O dW O (jc 53 O dW O (kN 54 O dW O (fV 55 O dW 0 ah O aJ O (fV 56 O dW 9 aA O aj O (jq 57 O dW (fun W hW => jV ay O ((Kp.h hW).f2).get.2 O) (jc 58 O dW O (kN 59 O dW O (fV 60 O dW 12 ah O sizeOf66 O (jq 61 O dW (fun W hW => jV underlying66 O ((Kp.h hW).f2).get.2 O) ?_))))))))))))))))))
  refine xO (i := 1) (j := 64) (by kernel_rfl) ?_ ?_
  ·skip
   refine jZ 1 O (by kernel_rfl) (tq (tu O func35 O O) (FH Wi.f3.f3)) (jY O) ?_
   rintro _ w16 ⟨u16, rfl, uO⟩
   have D7 := V.kp (uO.f8.right.f8.right.f11.f11.f11.f11.f11.f11.f11.f11.f11.f11.f11)
   refine dK D7 (fun W hW => (Kp.h hW).right.f10.f10.f10.f10.f10.f10.f10.f9.f9.f10) ?_
   refine xO (i := 40) (j := 64) (by kernel_rfl) ?_ ?_
   ·skip
    refine jZ 40 O (by kernel_rfl) (tq (tu O func36 O O) (zG uO.f5.f3)) (jY O) ?_
    rintro u17 Xc ⟨adH, Dx⟩
    have Fh := V.kp (Dx.f10.right.f10.right.f13.f13.f13.f13.f13.f13.f13.f13.f13.f13.f13.f13.f13)
    refine dK Fh (fun W hW => (Kp.h hW).right.right.f11.f11.f11.f11.f11.f11.f8.f11.f11.f10.f11) ?_
    refine xO (i := 50) (j := 64) (by kernel_rfl) ?_ ?_
    ·skip
     refine jZ 50 O (by kernel_rfl) (tq (tu O func37 O O) (wJ Dx.f11.f10.f10.f6)) (jY O) ?_
     rintro u18 Xd Es
     have Hw := V.kp (Es.f12.right.f15.f15.f15.f15.f15.f15.f15.f15.f15.f15.f15.f15.f15.f15.f15)
     refine dK Hw (fun W hW => (Kp.h hW).right.f4.right.f13.f13.f13.f13.f7.f7.f13.f13.f13.f13.f11.f13.f13) ?_
     refine xO (i := 52) (j := 64) (by kernel_rfl) ?_ ?_
     ·skip
      refine jZ 52 O (by kernel_rfl) (tq (tu O func38 O O) (rM Es.f14.f13.f5.f5 hU)) (jY O) ?_
      rintro _ Xf ⟨rfl, zO⟩
      have NW := V.kp (zO.f16.f16.f16.f16.f16.f16.f16.f16.f16.f16.f16.f16.f16.f16.f16.f16)
      refine dK NW (fun W hW => (Kp.h hW).f3.right.f15.f15.f5.f15.f15.f15.f15.f15.f15.f15.f15.f15.f14.f14.f15) ?_
      refine xO (i := 62) (j := 64) (by kernel_rfl) ?_ ?_
      ·skip
       refine jZ 62 O (by kernel_rfl) (tq (tu O func39 O O) (pU zO.f14)) (jY O) ?_
       rintro _ _ ⟨rfl, rfl⟩
       have Ec := V.kp (zO.f16.f16.f16.f16.f16.f16.f16.f16.f16.f16.f16.f16.f16.f16.f16.f16)
       refine dK Ec (fun W hW => (Kp.h hW).f16.f16.f16.f16.f16.f16.f16.f16.f16.f16.f16.f16.f16.f16.f16.f16) ?_
       refine jW 63 O Ec (fun _ => gB (zl := [.slice none 0 0, .int .i64 0, .int .i64 0, .int .i64 0, .bool false, .bool false, .bool false, .int .i64 0, .int .i64 0, .int .i64 0, .int .i64 0, .slice none 0 0, .int .i64 0, .slice none 0 0, .int .i64 0, .int .i64 0, .int .i64 0]) (pl := [(0, 3), (3, 1), (4, 1), (5, 1), (6, 1), (7, 1), (8, 1), (9, 1), (10, 1), (11, 1), (12, 1), (13, 1), (14, 1), (15, 1), (16, 1)]) [_, _, _, _, _, _, _, _, _, _, _, _, _, _, _, _, _] aT iG O (fun w => by kernel_rfl) O (.agg (us := [_, _, _]) (zs := [.slice none 0 0, .int .i64 0, .int .i64 0]) O O (.on (.on (.on (.on (.on (.on (.on (.on (.one (Rd.one ((zO.f8).aP)) (.on (.one (Rd.one ((zO.f5).aP)) (.on (.on (.on .nil))))))))))))))) O) ?_
       refine mP 64 O (fE (l := [_, _, _, _, _, _, _, _, _, _, _, _, _, _, _, _, _]) zO iG O) ?_
       rintro _ XK ⟨b21, rfl, sW⟩
       have RD := V.kp (sW.f17.f17.f17.f17.f17.f17.f17.f17.f17.f17.f17.f17.f17.f17.f17.f17.f17)
       refine dK RD (fun W hW => (Kp.h hW).right.f16.f16.f16.f16.f16.f16.f16.f16.f16.f16.f16.f16.f16.f16.f16.f16) ?_
       refine eF 65 O (by kernel_rfl) (dh 0 (l' := [_, _, _, _, _, _, _, _, _, _, _, _, _, _, _, _, _]) (us := [_, _, _, _, _, _, _, _, _, _, _, _, _, _, _, _, _]) sW kZ O O O (aZ (by first | rfl | exact Rd.one ((sW.f12).aP)) (aF (aF (aF (aF (aF (aF (aF (aF (aF (aF (aZ (by first | rfl | exact Rd.one ((sW.f9).aP)) (aF (aZ (by first | rfl | exact Rd.one ((sW.f6).aP)) (aF (aF (aF bK))))))))))))))))) O O) ?_
       rintro _ w22 Gi
       have Ed := V.kp (Gi.f17.f17.f17.f17.f17.f17.f17.f17.f17.f17.f17.f17.f17.f17.f17.f17.f17)
       refine iC Ed (by kernel_rfl) ?_
       refine qp ?_
       refine nJ (_, _, _, _, _, _) vT sJ (by (try dsimp only); exact Gi.f14.f17.f17.f8.f17.f12.f10.f12.f11.f15.f17.f13.f14.f16.f16.f17.f17)
      ·skip
       refine jZ 64 O (by kernel_rfl) (fE (l := [_, _, _, _, _, _, _, _, _, _, _, _, _, _, _, _, _]) zO iG O) (jY O) ?_
       rintro _ UZ ⟨b23, rfl, xu⟩
       have Fq := V.kp (xu.f17.f17.f17.f17.f17.f17.f17.f17.f17.f17.f17.f17.f17.f17.f17.f17.f17)
       refine dK Fq (fun W hW => (Kp.h hW).right.f16.f16.f16.f16.f16.f16.f16.f16.f16.f16.f16.f16.f16.f16.f16.f16) ?_
       refine mP 62 O (wu O func39 (pU xu.f15)) ?_
       rintro _ _ ⟨rfl, rfl⟩
       have Iw := V.kp (xu.f17.f17.f17.f17.f17.f17.f17.f17.f17.f17.f17.f17.f17.f17.f17.f17.f17)
       refine dK Iw (fun W hW => (Kp.h hW).f17.f17.f17.f17.f17.f17.f17.f17.f17.f17.f17.f17.f17.f17.f17.f17.f17) ?_
       refine jW 63 O Iw (fun _ => gB (zl := [.slice none 0 0, .int .i64 0, .int .i64 0, .int .i64 0, .bool false, .bool false, .bool false, .int .i64 0, .int .i64 0, .int .i64 0, .int .i64 0, .slice none 0 0, .int .i64 0, .slice none 0 0, .int .i64 0, .int .i64 0, .int .i64 0]) (pl := [(0, 3), (3, 1), (4, 1), (5, 1), (6, 1), (7, 1), (8, 1), (9, 1), (10, 1), (11, 1), (12, 1), (13, 1), (14, 1), (15, 1), (16, 1)]) [_, _, _, _, _, _, _, _, _, _, _, _, _, _, _, _, _] aT iG O (fun w => by kernel_rfl) O (.agg (us := [_, _, _]) (zs := [.slice none 0 0, .int .i64 0, .int .i64 0]) O O (.on (.on (.on (.on (.on (.on (.on (.on (.one (Rd.one ((xu.f9).aP)) (.on (.one (Rd.one ((xu.f6).aP)) (.on (.on (.on .nil))))))))))))))) O) ?_
       refine eF 65 O (by kernel_rfl) (dh 0 (l' := [_, _, _, _, _, _, _, _, _, _, _, _, _, _, _, _, _]) (us := [_, _, _, _, _, _, _, _, _, _, _, _, _, _, _, _, _]) xu kZ O O O (aZ (by first | rfl | exact Rd.one ((xu.f12).aP)) (aF (aF (aF (aF (aF (aF (aF (aF (aF (aF (aZ (by first | rfl | exact Rd.one ((xu.f9).aP)) (aF (aZ (by first | rfl | exact Rd.one ((xu.f6).aP)) (aF (aF (aF bK))))))))))))))))) O O) ?_
       rintro _ w25 JX
       have J8 := V.kp (JX.f17.f17.f17.f17.f17.f17.f17.f17.f17.f17.f17.f17.f17.f17.f17.f17.f17)
       refine iC J8 (by kernel_rfl) ?_
       refine qp ?_
       refine nJ (_, _, _, _, _, _) vT sJ (by (try dsimp only); exact JX.f14.f17.f17.f8.f17.f12.f10.f12.f11.f15.f17.f13.f14.f16.f16.f17.f17)
     ·skip
      refine jZ 64 O (by kernel_rfl) (fE (l := [_, _, _, _, _, _, _, _, _, _, _, _, _, _, _, _, _]) Es iG O) (jY O) ?_
      rintro _ w26 ⟨b26, rfl, Nk⟩
      have RF := V.kp (Nk.f13.right.f16.f16.f16.f16.f16.f16.f16.f16.f16.f16.f16.f16.f16.f16.f16.f16)
      refine dK RF (fun W hW => (Kp.h hW).right.f15.f15.f15.f15.f15.f15.f15.f15.f15.f15.f15.f15.f15.f15.f15) ?_
      refine mP 52 O (wu O func38 (rM Nk.f15.f14.f6.f6 hU)) ?_
      rintro _ w27 ⟨rfl, Jh⟩
      have RH := V.kp (Jh.f17.f17.f17.f17.f17.f17.f17.f17.f17.f17.f17.f17.f17.f17.f17.f17.f17)
      refine dK RH (fun W hW => (Kp.h hW).f3.right.f16.f16.f5.f16.f16.f16.f16.f16.f16.f16.f16.f16.f14.f14.f16.f16) ?_
      refine mP 62 O (wu O func39 (pU Jh.f15)) ?_
      rintro _ _ ⟨rfl, rfl⟩
      have OC := V.kp (Jh.f17.f17.f17.f17.f17.f17.f17.f17.f17.f17.f17.f17.f17.f17.f17.f17.f17)
      refine dK OC (fun W hW => (Kp.h hW).f17.f17.f17.f17.f17.f17.f17.f17.f17.f17.f17.f17.f17.f17.f17.f17.f17) ?_
      refine jW 63 O OC (fun _ => gB (zl := [.slice none 0 0, .int .i64 0, .int .i64 0, .int .i64 0, .bool false, .bool false, .bool false, .int .i64 0, .int .i64 0, .int .i64 0, .int .i64 0, .slice none 0 0, .int .i64 0, .slice none 0 0, .int .i64 0, .int .i64 0, .int .i64 0]) (pl := [(0, 3), (3, 1), (4, 1), (5, 1), (6, 1), (7, 1), (8, 1), (9, 1), (10, 1), (11, 1), (12, 1), (13, 1), (14, 1), (15, 1), (16, 1)]) [_, _, _, _, _, _, _, _, _, _, _, _, _, _, _, _, _] aT iG O (fun w => by kernel_rfl) O (.agg (us := [_, _, _]) (zs := [.slice none 0 0, .int .i64 0, .int .i64 0]) O O (.on (.on (.on (.on (.on (.on (.on (.on (.one (Rd.one ((Jh.f9).aP)) (.on (.one (Rd.one ((Jh.f6).aP)) (.on (.on (.on .nil))))))))))))))) O) ?_
      refine eF 65 O (by kernel_rfl) (dh 0 (l' := [_, _, _, _, _, _, _, _, _, _, _, _, _, _, _, _, _]) (us := [_, _, _, _, _, _, _, _, _, _, _, _, _, _, _, _, _]) Jh.f5 kZ O O O (aZ (by first | rfl | exact Rd.one ((Jh.f12).aP)) (aF (aF (aF (aF (aF (aF (aF (aF (aF (aF (aZ (by first | rfl | exact Rd.one ((Jh.f9).aP)) (aF (aZ (by first | rfl | exact Rd.one ((Jh.f6).aP)) (aF (aF (aF bK))))))))))))))))) O O) ?_
      rintro _ w29 U1
      have RI := V.kp (U1.f17.f17.f17.f17.f17.f17.f17.f17.f17.f17.f17.f17.f17.f17.f17.f17.f17)
      refine iC RI (by kernel_rfl) ?_
      refine qp ?_
      refine nJ (_, _, _, _, _, _) vT sJ (by (try dsimp only); exact U1.f14.f17.f17.f8.f17.f12.f10.f12.f11.f15.f17.f13.f14.f16.f16.f17.f17)
    ·skip
     refine jZ 64 O (by kernel_rfl) (fE (l := [_, _, _, _, _, _, _, _, _, _, _, _, _, _, _, _, _]) Dx iG O) (jY O) ?_
     rintro _ w30 ⟨b30, rfl, PK⟩
     have RJ := V.kp (PK.f11.right.f11.right.f14.f14.f14.f14.f14.f14.f14.f14.f14.f14.f14.f14.f14.f14)
     refine dK RJ (fun W hW => (Kp.h hW).right.f13.f13.f13.f13.f13.f13.f13.f13.f13.f13.f13.f13.f13) ?_
     refine mP 50 O (wu O func37 (wJ PK.f12.f11.f11.f7)) ?_
     rintro u31 w31 KZ
     have Ob := V.kp (KZ.f13.right.f16.f16.f16.f16.f16.f16.f16.f16.f16.f16.f16.f16.f16.f16.f16.f16)
     refine dK Ob (fun W hW => (Kp.h hW).right.f4.right.f14.f14.f14.f14.f7.f7.f14.f14.f14.f14.f11.f14.f14.f14) ?_
     refine mP 52 O (wu O func38 (rM KZ.f15.f14.f5.f5 hU)) ?_
     rintro _ Zg ⟨rfl, Ja⟩
     have Rl := V.kp (Ja.f17.f17.f17.f17.f17.f17.f17.f17.f17.f17.f17.f17.f17.f17.f17.f17.f17)
     refine dK Rl (fun W hW => (Kp.h hW).f3.right.f16.f16.f5.f16.f16.f16.f16.f16.f16.f16.f16.f16.f16.f15.f15.f16) ?_
     refine mP 62 O (wu O func39 (pU Ja.f15)) ?_
     rintro _ _ ⟨rfl, rfl⟩
     have Rn := V.kp (Ja.f17.f17.f17.f17.f17.f17.f17.f17.f17.f17.f17.f17.f17.f17.f17.f17.f17)
     refine dK Rn (fun W hW => (Kp.h hW).f17.f17.f17.f17.f17.f17.f17.f17.f17.f17.f17.f17.f17.f17.f17.f17.f17) ?_
     refine jW 63 O Rn (fun _ => gB (zl := [.slice none 0 0, .int .i64 0, .int .i64 0, .int .i64 0, .bool false, .bool false, .bool false, .int .i64 0, .int .i64 0, .int .i64 0, .int .i64 0, .slice none 0 0, .int .i64 0, .slice none 0 0, .int .i64 0, .int .i64 0, .int .i64 0]) (pl := [(0, 3), (3, 1), (4, 1), (5, 1), (6, 1), (7, 1), (8, 1), (9, 1), (10, 1), (11, 1), (12, 1), (13, 1), (14, 1), (15, 1), (16, 1)]) [_, _, _, _, _, _, _, _, _, _, _, _, _, _, _, _, _] aT iG O (fun w => by kernel_rfl) O (.agg (us := [_, _, _]) (zs := [.slice none 0 0, .int .i64 0, .int .i64 0]) O O (.on (.on (.on (.on (.on (.on (.on (.on (.one (Rd.one ((Ja.f9).aP)) (.on (.one (Rd.one ((Ja.f5).aP)) (.on (.on (.on .nil))))))))))))))) O) ?_
     refine eF 65 O (by kernel_rfl) (dh 0 (l' := [_, _, _, _, _, _, _, _, _, _, _, _, _, _, _, _, _]) (us := [_, _, _, _, _, _, _, _, _, _, _, _, _, _, _, _, _]) Ja.f8 kZ O O O (aZ (by first | rfl | exact Rd.one ((Ja.f12).aP)) (aF (aF (aF (aF (aF (aF (aF (aF (aF (aF (aZ (by first | rfl | exact Rd.one ((Ja.f9).aP)) (aF (aZ (by first | rfl | exact Rd.one ((Ja.f5).aP)) (aF (aF (aF bK))))))))))))))))) O O) ?_
     rintro _ w34 VH
     have J9 := V.kp (VH.f17.f17.f17.f17.f17.f17.f17.f17.f17.f17.f17.f17.f17.f17.f17.f17.f17)
     refine iC J9 (by kernel_rfl) ?_
     refine qp ?_
     refine nJ (_, _, _, _, _, _) vT sJ (by (try dsimp only); exact VH.f14.f17.f17.f8.f17.f12.f10.f12.f11.f15.f17.f13.f14.f16.f16.f17.f17)
   ·skip
    refine jZ 64 O (by kernel_rfl) (fE (l := [_, _, _, _, _, _, _, _, _, _, _, _, _, _, _, _, _]) uO iG O) (jY O) ?_
    rintro _ w35 ⟨b35, rfl, ZJ⟩
    have VI := V.kp (ZJ.f9.right.f9.right.f12.f12.f12.f12.f12.f12.f12.f12.f12.f12.f12.f12)
    refine dK VI (fun W hW => (Kp.h hW).right.f11.f11.f11.f11.f11.f11.f11.f11.f11.f11.f11) ?_
    refine mP 40 O (wu O func36 (zG ZJ.f6.f4)) ?_
    rintro u36 w36 ⟨adI, H36⟩
    have abj := V.kp (H36.f11.right.f11.right.f14.f14.f14.f14.f14.f14.f14.f14.f14.f14.f14.f14.f14.f14)
    refine dK abj (fun W hW => (Kp.h hW).right.right.f12.f12.f12.f12.f12.f12.f8.f12.f12.f10.f12.f12) ?_
    refine mP 50 O (wu O func37 (wJ H36.f12.f11.f11.f6)) ?_
    rintro u37 w37 H37
    have abk := V.kp (H37.f13.right.f16.f16.f16.f16.f16.f16.f16.f16.f16.f16.f16.f16.f16.f16.f16.f16)
    refine dK abk (fun W hW => (Kp.h hW).right.f4.right.f14.f14.f14.f14.f7.f7.f14.f14.f14.f14.f14.f12.f14.f14) ?_
    refine mP 52 O (wu O func38 (rM H37.f15.f14.f5.f5 hU)) ?_
    rintro _ w38 ⟨rfl, Qk⟩
    have abl := V.kp (Qk.f17.f17.f17.f17.f17.f17.f17.f17.f17.f17.f17.f17.f17.f17.f17.f17.f17)
    refine dK abl (fun W hW => (Kp.h hW).f3.right.f16.f16.f5.f16.f16.f16.f16.f16.f16.f16.f16.f16.f16.f15.f15.f16) ?_
    refine mP 62 O (wu O func39 (pU Qk.f15)) ?_
    rintro _ _ ⟨rfl, rfl⟩
    have Ot := V.kp (Qk.f17.f17.f17.f17.f17.f17.f17.f17.f17.f17.f17.f17.f17.f17.f17.f17.f17)
    refine dK Ot (fun W hW => (Kp.h hW).f17.f17.f17.f17.f17.f17.f17.f17.f17.f17.f17.f17.f17.f17.f17.f17.f17) ?_
    refine jW 63 O Ot (fun _ => gB (zl := [.slice none 0 0, .int .i64 0, .int .i64 0, .int .i64 0, .bool false, .bool false, .bool false, .int .i64 0, .int .i64 0, .int .i64 0, .int .i64 0, .slice none 0 0, .int .i64 0, .slice none 0 0, .int .i64 0, .int .i64 0, .int .i64 0]) (pl := [(0, 3), (3, 1), (4, 1), (5, 1), (6, 1), (7, 1), (8, 1), (9, 1), (10, 1), (11, 1), (12, 1), (13, 1), (14, 1), (15, 1), (16, 1)]) [_, _, _, _, _, _, _, _, _, _, _, _, _, _, _, _, _] aT iG O (fun w => by kernel_rfl) O (.agg (us := [_, _, _]) (zs := [.slice none 0 0, .int .i64 0, .int .i64 0]) O O (.on (.on (.on (.on (.on (.on (.on (.on (.one (Rd.one ((Qk.f8).aP)) (.on (.one (Rd.one ((Qk.f5).aP)) (.on (.on (.on .nil))))))))))))))) O) ?_
    refine eF 65 O (by kernel_rfl) (dh 0 (l' := [_, _, _, _, _, _, _, _, _, _, _, _, _, _, _, _, _]) (us := [_, _, _, _, _, _, _, _, _, _, _, _, _, _, _, _, _]) Qk.f11 kZ O O O (aZ (by first | rfl | exact Rd.one ((Qk.f12).aP)) (aF (aF (aF (aF (aF (aF (aF (aF (aF (aF (aZ (by first | rfl | exact Rd.one ((Qk.f8).aP)) (aF (aZ (by first | rfl | exact Rd.one ((Qk.f5).aP)) (aF (aF (aF bK))))))))))))))))) O O) ?_
    rintro _ w40 H40
    have abm := V.kp (H40.f17.f17.f17.f17.f17.f17.f17.f17.f17.f17.f17.f17.f17.f17.f17.f17.f17)
    refine iC abm (by kernel_rfl) ?_
    refine qp ?_
    refine nJ (_, _, _, _, _, _) vT sJ (by (try dsimp only); exact H40.f14.f17.f17.f8.f17.f12.f10.f12.f11.f15.f17.f13.f14.f16.f16.f17.f17)
  ·skip
   refine jZ 64 O (by kernel_rfl) (fE (l := [_, _, _, _, _, _, _, _, _, _, _, _, _, _, _, _, _]) Wi iG O) (jY O) ?_
   rintro _ w41 ⟨b41, rfl, X0⟩
   have VJ := V.kp (X0.f8.right.f8.right.f11.f11.f11.f11.f11.f11.f11.f11.f11.f11.f11)
   refine dK VJ (fun W hW => (Kp.h hW).right.f10.f10.f10.f10.f10.f10.f10.f10.f10.f10) ?_
   refine mP 1 O (wu O func35 (FH X0.f4.f4)) ?_
   rintro _ w42 ⟨u42, rfl, ZK⟩
   have Ko := V.kp (ZK.f9.right.f9.right.f12.f12.f12.f12.f12.f12.f12.f12.f12.f12.f12.f12)
   refine dK Ko (fun W hW => (Kp.h hW).right.f11.f11.f11.f11.f11.f11.f11.f9.f9.f11.f11) ?_
   refine mP 40 O (wu O func36 (zG ZK.f6.f3)) ?_
   rintro u43 w43 ⟨adJ, ZL⟩
   have VK := V.kp (ZL.f11.right.f11.right.f14.f14.f14.f14.f14.f14.f14.f14.f14.f14.f14.f14.f14.f14)
   refine dK VK (fun W hW => (Kp.h hW).right.right.f12.f12.f12.f12.f12.f12.f8.f12.f12.f12.f11.f12) ?_
   refine mP 50 O (wu O func37 (wJ ZL.f12.f11.f11.f6)) ?_
   rintro u44 w44 YI
   have abn := V.kp (YI.f13.right.f16.f16.f16.f16.f16.f16.f16.f16.f16.f16.f16.f16.f16.f16.f16.f16)
   refine dK abn (fun W hW => (Kp.h hW).right.f4.right.f14.f14.f14.f14.f7.f7.f14.f14.f14.f14.f14.f12.f14.f14) ?_
   refine mP 52 O (wu O func38 (rM YI.f15.f14.f5.f5 hU)) ?_
   rintro _ w45 ⟨rfl, O9⟩
   have abo := V.kp (O9.f17.f17.f17.f17.f17.f17.f17.f17.f17.f17.f17.f17.f17.f17.f17.f17.f17)
   refine dK abo (fun W hW => (Kp.h hW).f3.right.f16.f16.f5.f16.f16.f16.f16.f16.f16.f16.f16.f16.f16.f15.f15.f16) ?_
   refine mP 62 O (wu O func39 (pU O9.f15)) ?_
   rintro _ _ ⟨rfl, rfl⟩
   have YT := V.kp (O9.f17.f17.f17.f17.f17.f17.f17.f17.f17.f17.f17.f17.f17.f17.f17.f17.f17)
   refine dK YT (fun W hW => (Kp.h hW).f17.f17.f17.f17.f17.f17.f17.f17.f17.f17.f17.f17.f17.f17.f17.f17.f17) ?_
   refine jW 63 O YT (fun _ => gB (zl := [.slice none 0 0, .int .i64 0, .int .i64 0, .int .i64 0, .bool false, .bool false, .bool false, .int .i64 0, .int .i64 0, .int .i64 0, .int .i64 0, .slice none 0 0, .int .i64 0, .slice none 0 0, .int .i64 0, .int .i64 0, .int .i64 0]) (pl := [(0, 3), (3, 1), (4, 1), (5, 1), (6, 1), (7, 1), (8, 1), (9, 1), (10, 1), (11, 1), (12, 1), (13, 1), (14, 1), (15, 1), (16, 1)]) [_, _, _, _, _, _, _, _, _, _, _, _, _, _, _, _, _] aT iG O (fun w => by kernel_rfl) O (.agg (us := [_, _, _]) (zs := [.slice none 0 0, .int .i64 0, .int .i64 0]) O O (.on (.on (.on (.on (.on (.on (.on (.on (.one (Rd.one ((O9.f8).aP)) (.on (.one (Rd.one ((O9.f5).aP)) (.on (.on (.on .nil))))))))))))))) O) ?_
   refine eF 65 O (by kernel_rfl) (dh 0 (l' := [_, _, _, _, _, _, _, _, _, _, _, _, _, _, _, _, _]) (us := [_, _, _, _, _, _, _, _, _, _, _, _, _, _, _, _, _]) O9.f13 kZ O O O (aZ (by first | rfl | exact Rd.one ((O9.f11).aP)) (aF (aF (aF (aF (aF (aF (aF (aF (aF (aF (aZ (by first | rfl | exact Rd.one ((O9.f8).aP)) (aF (aZ (by first | rfl | exact Rd.one ((O9.f5).aP)) (aF (aF (aF bK))))))))))))))))) O O) ?_
   rintro _ w47 ZV
   have abp := V.kp (ZV.f17.f17.f17.f17.f17.f17.f17.f17.f17.f17.f17.f17.f17.f17.f17.f17.f17)
   refine iC abp (by kernel_rfl) ?_
   refine qp ?_
   refine nJ (_, _, _, _, _, _) vT sJ (by (try dsimp only); exact ZV.f14.f17.f17.f8.f17.f12.f10.f12.f11.f15.f17.f13.f14.f16.f16.f17.f17)
end
end Go.Proofs.YtimndnfpcomhlaaGreatDoor
end
section
namespace Go.Proofs.YtimndnfpcomhlaaGreatDoor
open Go.RowKit
def ends (T : List (Int × Int)) : List Int := T.flatMap fun x => [x.1, x.2]
section
variable {w0 w : World} {F : HP} {r : Int}
abbrev acO : List (Int × Int) := [(48, 57), (65, 90), (97, 122)]
abbrev adK : List (Int × Int) := [(215, 215), (247, 247), (8192, 8303), (12288, 12351), (65280, 65295), (65533, 65533)]
end
end Go.Proofs.YtimndnfpcomhlaaGreatDoor
end
section
namespace Go.Proofs.YtimndnfpcomhlaaGreatDoor
open Go.RowKit
open _root_.Go.Proofs.Tryz
theorem TT {r : Int} (h : lG r = false) : Lib.encodeRuneZ r = [239, 191, 189] := Lib.encodeRuneZ_bad (by
  unfold lG at h
  simp only [decide_eq_false_iff_not] at h
  omega)
section
variable {w0 w : World} {F : HP} {v : Value} {b l : List Int} {r x y : Int}
theorem Qw (H : V w0 w F) (hT : DU w0) (hv : kP w0 F .u8 v b) (hb : Jg b) (hne : b ≠ []) : iU prog 105 #[v] w fun v' w' => v' = .tuple #[.int .i32 (qY b).1, .int .i64 ((qY b).2 : Nat)] ∧ V w0 w' F := by
 have hl := List.length_pos_iff.2 hne
 have y0 := EG hb 0
 refine ji func105 ntmps105 ?_
 refine jg (lU O (tJ O (bM O (aV (rX (hv _ (H)) bH O) (cZ O (iT (bn ?_)))))))
 obtain ⟨av, cv, ev, -⟩ := mM.open (hv _ (H))
 subst ev
 refine iR [(0, _), (6, _), (7, _)] (fun (k : Nat) => [(8, .int .i64 (k : Int))]) (fun (k : Nat) W => k = 0 ∧ V w0 W F) (fun (k : Nat) => 0) (0) Gf sJ ⟨O, H⟩ ?_
 rintro k w2 ⟨rfl, HL⟩
 dsimp only [List.cons_append, List.nil_append]
 refine jg (aV (fJ O O) (qj (wcA O (fun h1 => ?_))))
 (try simp only [aH] at h1)
 refine iq (aO (bn (jg ?_)))
 obtain ⟨bv, ov, rfl⟩ := mM.pos (hv _ (HL)) (by omega)
 refine aV (gU bH jl O O (by omega)) ?_
 refine aV (jM (fK dn O) O (by first | exact mM.GI (hv _ (HL)) (by omega) | exact mM.Xx (hv _ (HL)) (by omega) | exact mM.Xb (hv _ (HL)) (by omega))) ?_
 simp only [Int.natCast_zero]
 refine tJ O (bM O (aV (fJ O O) (kK O (fun h2 => ?_) (fun h2 => ?_))))
 ·(try simp only [aH] at h2)
  refine bM O ?_
  refine aV (kU O (by rw [underlying5]; rfl) fH (mY (by omega))) ?_
  refine lU O (iW O (aK (bD (aK (aK (bD (aK (DL results105 O O ?_))))))))
  exact ⟨by rw [GV hne (by omega)]; rfl, HL⟩
 ·(try simp only [aH] at h2)
  refine iq (iJ ?_)
  refine BX (by decide) ?_
  refine aX (aX (dA (bg (bM O (dZ O func115 (UO HL hT (fun W HW => hv _ (HW)) (by assumption) (by assumption)) ?_)))))
  rintro _ w3 ⟨rfl, H3⟩
  refine cZ O (rO O O (rO O O (lU O (iW O (DL results105 O O ?_)))))
  exact ⟨O, H3⟩
theorem OD (H : V w0 w (jR 5 .u8 v l • F)) (hl : l.length ≤ 70368744177664) (hr : ¬ (0 ≤ r ∧ r ≤ 127)) (hw : -2147483648 ≤ r ∧ r < 2147483648) :
  iU prog 121 #[v, .int .i32 r] w fun v' w' => V w0 w' (jR 5 .u8 v' (l ++ Lib.encodeRuneZ r) • F) := by
 refine oP func121 ntmps121 ?_
 refine lZ O (bM O ?_)
 refine aV (GU O (by rw [underlying21]; rfl) underlying199) ?_
 refine gY O (bn (bM O (aV (BZ O O) (gY O (bI O (fun h1 => ?_) (fun h1 => ?_))))))
 ·(try simp only [aH] at h1)
  refine bM O (cZ O (aV (wX 6 64 (by decide) (by decide) O O) ?_))
  refine aV (iY O (by rw [underlying21]; rfl) dn) ?_
  refine aV (lS 6 64 (by decide) O O (by omega)) (cZ O ?_)
  refine aV (iY O (by rw [underlying21]; rfl) dn) ?_
  refine aV (jf 6 63 64 (by decide) (by decide) (by decide) O O (by omega)) (aV (lS 7 128 (by decide) O O (by omega)) (jL (jO (k := .u8) (l := [_, _]) H bH jl jU O O O (by decide)) ?_))
  rintro l1 w1 H1
  refine jL (gy H1.f2 ((H1).aP) bH ER O O (by first | omega | (simp only [List.length_append, List.length_nil, List.length_cons]; omega) | (simp; omega)) (by first | omega | (simp only [List.length_append, List.length_nil, List.length_cons]; omega) | (simp; omega))) ?_
  rintro l2 w2 H2
  try simp only [List.nil_append] at H2
  refine iW O (bD (fB kM O ?_))
  rw [Lib.encodeRuneZ_two (by omega) (by omega)]
  have HX := H2.f2.right
  rw [show r / 64 % 256 = r / 64 from by omega, show r % 256 % 64 = r % 64 from by omega] at HX
  exact HX
 ·(try simp only [aH] at h1)
  refine aO (bM O (aV (fJ O O) (gY O (bI O (fun h2 => ?_) (fun h2 => ?_)))))
  ·(try simp only [aH] at h2)
   refine iq (bI O (fun h3 => ?_) (fun h3 => ?_))
   ·(try simp only [aH] at h3)
    refine bM O (cZ O (aV (wX 12 4096 (by decide) (by decide) O O) ?_))
    refine aV (iY O (by rw [underlying21]; rfl) dn) ?_
    refine aV (lS 5 32 (by decide) O O (by omega)) (cZ O (aV (wX 6 64 (by decide) (by decide) O O) ?_))
    refine aV (iY O (by rw [underlying21]; rfl) dn) ?_
    refine aV (jf 6 63 64 (by decide) (by decide) (by decide) O O (by omega)) (aV (lS 7 128 (by decide) O O (by omega)) (cZ O ?_))
    refine aV (iY O (by rw [underlying21]; rfl) dn) ?_
    refine aV (jf 6 63 64 (by decide) (by decide) (by decide) O O (by omega)) (aV (lS 7 128 (by decide) O O (by omega)) (jL (jO (k := .u8) (l := [_, _, _]) H bH jl jU O O O (by decide)) ?_))
    rintro l3 w3 H3
    refine jL (gy H3.f2 ((H3).aP) bH ER O O (by first | omega | (simp only [List.length_append, List.length_nil, List.length_cons]; omega) | (simp; omega)) (by first | omega | (simp only [List.length_append, List.length_nil, List.length_cons]; omega) | (simp; omega))) ?_
    rintro l4 w4 H4
    try simp only [List.nil_append] at H4
    refine iW O (bD (fB kM O ?_))
    rw [Lib.encodeRuneZ_three (by omega)]
    have HX := H4.f2.right
    rw [show r / 4096 % 256 = r / 4096 from by omega, show r / 64 % 256 % 64 = r / 64 % 64 from by omega, show r % 256 % 64 = r % 64 from by omega] at HX
    exact HX
   ·(try simp only [aH] at h3)
    refine bM O (aV (fZ O O) (qC O (fun h4 => ?_) (fun h4 => ?_)))
    ·(try simp only [aH] at h4)
     refine bU (cZ O (bU (aV (BZ O O) (pW O O (gY O (bI O (fun h5 => ?_) (fun h5 => ?_)))))))
     ·(try simp only [aH] at h5)
      refine bM O (cZ O (aV (wX 18 262144 (by decide) (by decide) O O) ?_))
      refine aV (iY O (by rw [underlying21]; rfl) dn) ?_
      refine aV (lS 4 16 (by decide) O O (by omega)) (cZ O (aV (wX 12 4096 (by decide) (by decide) O O) ?_))
      refine aV (iY O (by rw [underlying21]; rfl) dn) ?_
      refine aV (jf 6 63 64 (by decide) (by decide) (by decide) O O (by omega)) (aV (lS 7 128 (by decide) O O (by omega)) (cZ O (aV (wX 6 64 (by decide) (by decide) O O) ?_)))
      refine aV (iY O (by rw [underlying21]; rfl) dn) ?_
      refine aV (jf 6 63 64 (by decide) (by decide) (by decide) O O (by omega)) (aV (lS 7 128 (by decide) O O (by omega)) (cZ O ?_))
      refine aV (iY O (by rw [underlying21]; rfl) dn) ?_
      refine aV (jf 6 63 64 (by decide) (by decide) (by decide) O O (by omega)) (aV (lS 7 128 (by decide) O O (by omega)) (jL (jO (k := .u8) (l := [_, _, _, _]) H bH jl jU O O O (by decide)) ?_))
      rintro l5 w5 H5
      refine jL (gy H5.f2 ((H5).aP) bH ER O O (by first | omega | (simp only [List.length_append, List.length_nil, List.length_cons]; omega) | (simp; omega)) (by first | omega | (simp only [List.length_append, List.length_nil, List.length_cons]; omega) | (simp; omega))) ?_
      rintro l6 w6 H6
      try simp only [List.nil_append] at H6
      refine iW O (bD (fB kM O ?_))
      rw [Lib.encodeRuneZ_four (by omega) (by omega)]
      have HX := H6.f2.right
      rw [show r / 262144 % 256 = r / 262144 from by omega, show r / 4096 % 256 % 64 = r / 4096 % 64 from by omega, show r / 64 % 256 % 64 = r / 64 % 64 from by omega, show r % 256 % 64 = r % 64 from by omega] at HX
      exact HX
     ·(try simp only [aH] at h5)
      refine bM O (jL (jO (k := .u8) (l := [239, 191, 189]) H bH jl jU O O O (by decide)) ?_)
      rintro l7 w7 H7
      refine jL (gy H7.f2 ((H7).aP) bH ER O O (by first | omega | (simp only [List.length_append, List.length_nil, List.length_cons]; omega) | (simp; omega)) (by first | omega | (simp only [List.length_append, List.length_nil, List.length_cons]; omega) | (simp; omega))) ?_
      rintro l8 w8 H8
      try simp only [List.nil_append] at H8
      refine iW O (bD (fB kM O ?_))
      rw [Lib.encodeRuneZ_bad (by omega)]
      exact H8.f2.right
    ·(try simp only [aH] at h4)
     refine dH (dH (lV O O (gY O (vO (bM O (jL (jO (k := .u8) (l := [239, 191, 189]) H bH jl jU O O O (by decide)) ?_))))))
     rintro l9 w9 H9
     refine jL (gy H9.f2 ((H9).aP) bH ER O O (by first | omega | (simp only [List.length_append, List.length_nil, List.length_cons]; omega) | (simp; omega)) (by first | omega | (simp only [List.length_append, List.length_nil, List.length_cons]; omega) | (simp; omega))) ?_
     rintro l10 w10 sV
     try simp only [List.nil_append] at sV
     refine iW O (bD (fB kM O ?_))
     rw [Lib.encodeRuneZ_bad (by omega)]
     exact sV.f2.right
  ·(try simp only [aH] at h2)
   refine aC (cZ O (aV (fJ O O) (qC O (fun h6 => ?_) (fun h6 => ?_))))
   ·(try simp only [aH] at h6)
    refine bU (cZ O (bU (aV (BZ O O) (pW O O (gY O (bI O (fun h7 => ?_) (fun h7 => ?_)))))))
    ·(try simp only [aH] at h7)
     refine bM O (cZ O (aV (wX 12 4096 (by decide) (by decide) O O) ?_))
     refine aV (iY O (by rw [underlying21]; rfl) dn) ?_
     refine aV (lS 5 32 (by decide) O O (by omega)) (cZ O (aV (wX 6 64 (by decide) (by decide) O O) ?_))
     refine aV (iY O (by rw [underlying21]; rfl) dn) ?_
     refine aV (jf 6 63 64 (by decide) (by decide) (by decide) O O (by omega)) (aV (lS 7 128 (by decide) O O (by omega)) (cZ O ?_))
     refine aV (iY O (by rw [underlying21]; rfl) dn) ?_
     refine aV (jf 6 63 64 (by decide) (by decide) (by decide) O O (by omega)) (aV (lS 7 128 (by decide) O O (by omega)) (jL (jO (k := .u8) (l := [_, _, _]) H bH jl jU O O O (by decide)) ?_))
     rintro l11 I9 yt
     refine jL (gy yt.f2 ((yt).aP) bH ER O O (by first | omega | (simp only [List.length_append, List.length_nil, List.length_cons]; omega) | (simp; omega)) (by first | omega | (simp only [List.length_append, List.length_nil, List.length_cons]; omega) | (simp; omega))) ?_
     rintro l12 w12 wz
     try simp only [List.nil_append] at wz
     refine iW O (bD (fB kM O ?_))
     rw [Lib.encodeRuneZ_three (by omega)]
     have HX := wz.f2.right
     rw [show r / 4096 % 256 = r / 4096 from by omega, show r / 64 % 256 % 64 = r / 64 % 64 from by omega, show r % 256 % 64 = r % 64 from by omega] at HX
     exact HX
    ·(try simp only [aH] at h7)
     refine bM O (aV (fZ O O) (qC O (fun h8 => ?_) (fun h8 => ?_)))
     ·(try simp only [aH] at h8)
      refine bU (cZ O (bU (aV (BZ O O) (pW O O (gY O (bI O (fun h9 => ?_) (fun h9 => ?_)))))))
      ·(try simp only [aH] at h9)
       refine bM O (cZ O (aV (wX 18 262144 (by decide) (by decide) O O) ?_))
       refine aV (iY O (by rw [underlying21]; rfl) dn) ?_
       refine aV (lS 4 16 (by decide) O O (by omega)) (cZ O (aV (wX 12 4096 (by decide) (by decide) O O) ?_))
       refine aV (iY O (by rw [underlying21]; rfl) dn) ?_
       refine aV (jf 6 63 64 (by decide) (by decide) (by decide) O O (by omega)) (aV (lS 7 128 (by decide) O O (by omega)) (cZ O (aV (wX 6 64 (by decide) (by decide) O O) ?_)))
       refine aV (iY O (by rw [underlying21]; rfl) dn) ?_
       refine aV (jf 6 63 64 (by decide) (by decide) (by decide) O O (by omega)) (aV (lS 7 128 (by decide) O O (by omega)) (cZ O ?_))
       refine aV (iY O (by rw [underlying21]; rfl) dn) ?_
       refine aV (jf 6 63 64 (by decide) (by decide) (by decide) O O (by omega)) (aV (lS 7 128 (by decide) O O (by omega)) (jL (jO (k := .u8) (l := [_, _, _, _]) H bH jl jU O O O (by decide)) ?_))
       rintro l13 O8 yY
       refine jL (gy yY.f2 ((yY).aP) bH ER O O (by first | omega | (simp only [List.length_append, List.length_nil, List.length_cons]; omega) | (simp; omega)) (by first | omega | (simp only [List.length_append, List.length_nil, List.length_cons]; omega) | (simp; omega))) ?_
       rintro l14 MK yu
       try simp only [List.nil_append] at yu
       refine iW O (bD (fB kM O ?_))
       rw [Lib.encodeRuneZ_four (by omega) (by omega)]
       have HX := yu.f2.right
       rw [show r / 262144 % 256 = r / 262144 from by omega, show r / 4096 % 256 % 64 = r / 4096 % 64 from by omega, show r / 64 % 256 % 64 = r / 64 % 64 from by omega, show r % 256 % 64 = r % 64 from by omega] at HX
       exact HX
      ·(try simp only [aH] at h9)
       refine bM O (jL (jO (k := .u8) (l := [239, 191, 189]) H bH jl jU O O O (by decide)) ?_)
       rintro l15 SX BA
       refine jL (gy BA.f2 ((BA).aP) bH ER O O (by first | omega | (simp only [List.length_append, List.length_nil, List.length_cons]; omega) | (simp; omega)) (by first | omega | (simp only [List.length_append, List.length_nil, List.length_cons]; omega) | (simp; omega))) ?_
       rintro l16 w16 uO
       try simp only [List.nil_append] at uO
       refine iW O (bD (fB kM O ?_))
       rw [Lib.encodeRuneZ_bad (by omega)]
       exact uO.f2.right
     ·(try simp only [aH] at h8)
      refine dH (dH (lV O O (gY O (vO (bM O (jL (jO (k := .u8) (l := [239, 191, 189]) H bH jl jU O O O (by decide)) ?_))))))
      rintro l17 Xc Dx
      refine jL (gy Dx.f2 ((Dx).aP) bH ER O O (by first | omega | (simp only [List.length_append, List.length_nil, List.length_cons]; omega) | (simp; omega)) (by first | omega | (simp only [List.length_append, List.length_nil, List.length_cons]; omega) | (simp; omega))) ?_
      rintro l18 Xd Es
      try simp only [List.nil_append] at Es
      refine iW O (bD (fB kM O ?_))
      rw [Lib.encodeRuneZ_bad (by omega)]
      exact Es.f2.right
   ·(try simp only [aH] at h6)
    refine dH (dH (lV O O (gY O (vO (bM O (aV (fZ O O) (qC O (fun h10 => ?_) (fun h10 => ?_))))))))
    ·(try simp only [aH] at h10)
     refine bU (cZ O (bU (aV (BZ O O) (pW O O (gY O (bI O (fun h11 => ?_) (fun h11 => ?_)))))))
     ·(try simp only [aH] at h11)
      refine bM O (cZ O (aV (wX 18 262144 (by decide) (by decide) O O) ?_))
      refine aV (iY O (by rw [underlying21]; rfl) dn) ?_
      refine aV (lS 4 16 (by decide) O O (by omega)) (cZ O (aV (wX 12 4096 (by decide) (by decide) O O) ?_))
      refine aV (iY O (by rw [underlying21]; rfl) dn) ?_
      refine aV (jf 6 63 64 (by decide) (by decide) (by decide) O O (by omega)) (aV (lS 7 128 (by decide) O O (by omega)) (cZ O (aV (wX 6 64 (by decide) (by decide) O O) ?_)))
      refine aV (iY O (by rw [underlying21]; rfl) dn) ?_
      refine aV (jf 6 63 64 (by decide) (by decide) (by decide) O O (by omega)) (aV (lS 7 128 (by decide) O O (by omega)) (cZ O ?_))
      refine aV (iY O (by rw [underlying21]; rfl) dn) ?_
      refine aV (jf 6 63 64 (by decide) (by decide) (by decide) O O (by omega)) (aV (lS 7 128 (by decide) O O (by omega)) (jL (jO (k := .u8) (l := [_, _, _, _]) H bH jl jU O O O (by decide)) ?_))
      rintro l19 Xf zO
      refine jL (gy zO.f2 ((zO).aP) bH ER O O (by first | omega | (simp only [List.length_append, List.length_nil, List.length_cons]; omega) | (simp; omega)) (by first | omega | (simp only [List.length_append, List.length_nil, List.length_cons]; omega) | (simp; omega))) ?_
      rintro l20 XJ BD
      try simp only [List.nil_append] at BD
      refine iW O (bD (fB kM O ?_))
      rw [Lib.encodeRuneZ_four (by omega) (by omega)]
      have HX := BD.f2.right
      rw [show r / 262144 % 256 = r / 262144 from by omega, show r / 4096 % 256 % 64 = r / 4096 % 64 from by omega, show r / 64 % 256 % 64 = r / 64 % 64 from by omega, show r % 256 % 64 = r % 64 from by omega] at HX
      exact HX
     ·(try simp only [aH] at h11)
      refine bM O (jL (jO (k := .u8) (l := [239, 191, 189]) H bH jl jU O O O (by decide)) ?_)
      rintro l21 XK sW
      refine jL (gy sW.f2 ((sW).aP) bH ER O O (by first | omega | (simp only [List.length_append, List.length_nil, List.length_cons]; omega) | (simp; omega)) (by first | omega | (simp only [List.length_append, List.length_nil, List.length_cons]; omega) | (simp; omega))) ?_
      rintro l22 w22 Gi
      try simp only [List.nil_append] at Gi
      refine iW O (bD (fB kM O ?_))
      rw [Lib.encodeRuneZ_bad (by omega)]
      exact Gi.f2.right
    ·(try simp only [aH] at h10)
     refine dH (dH (lV O O (gY O (vO (bM O (jL (jO (k := .u8) (l := [239, 191, 189]) H bH jl jU O O O (by decide)) ?_))))))
     rintro l23 UZ xu
     refine jL (gy xu.f2 ((xu).aP) bH ER O O (by first | omega | (simp only [List.length_append, List.length_nil, List.length_cons]; omega) | (simp; omega)) (by first | omega | (simp only [List.length_append, List.length_nil, List.length_cons]; omega) | (simp; omega))) ?_
     rintro l24 w24 JW
     try simp only [List.nil_append] at JW
     refine iW O (bD (fB kM O ?_))
     rw [Lib.encodeRuneZ_bad (by omega)]
     exact JW.f2.right
end
section
variable {w0 w : World} {F : HP} {v : Value} {b l : List Int} {r x y : Int}
theorem Ej (H : V w0 w (jR 5 .u8 v l • F)) (hl : l.length ≤ 70368744177664) (hw : -2147483648 ≤ r ∧ r < 2147483648) :
    iU prog 117 #[v, .int .i32 r] w fun v' w' => V w0 w' (jR 5 .u8 v' (l ++ Lib.encodeRuneZ r) • F) := by
  refine oP func117 ntmps117 ?_
  refine lZ O (aO (bM O ?_))
  refine aV (GU O (by rw [underlying21]; rfl) underlying199) ?_
  refine aV (BZ O O) (kK O (fun h1 => ?_) (fun h1 => ?_))
  · (try simp only [aH] at h1)
    refine bM O (cZ O ?_)
    refine aV (iY O (by rw [underlying21]; rfl) dn) ?_
    refine jL (jO (k := .u8) (l := [_]) H bH jl jU O O O (by decide)) ?_
    rintro l1 w1 H1
    refine jL (gy H1.f2 ((H1).aP) bH ER O O (by first | omega | (simp only [List.length_append, List.length_nil, List.length_cons]; omega) | (simp; omega)) (by first | omega | (simp only [List.length_append, List.length_nil, List.length_cons]; omega) | (simp; omega))) ?_
    rintro l2 w2 H2
    try simp only [List.nil_append] at H2
    refine iW O (aK (fB results117 O ?_))
    rw [Lib.encodeRuneZ_one (by omega) (by omega)]
    have HX := H2.f2.right
    rw [show r % 256 = r from by omega] at HX
    exact HX
  · (try simp only [aH] at h1)
    refine iq (bM O (cZ O (dZ O func121 (OD H (by omega) (by omega) hw) ?_)))
    rintro u3 w3 H3
    refine iW O (fB results117 O ?_)
    exact H3
end
end Go.Proofs.YtimndnfpcomhlaaGreatDoor
end
section
namespace Go.Proofs.YtimndnfpcomhlaaGreatDoor
open Go.RowKit
section
variable {w0 w : World} {F : HP} {v : Value} {b l : List Int} {r x y : Int}
end
end Go.Proofs.YtimndnfpcomhlaaGreatDoor
end
