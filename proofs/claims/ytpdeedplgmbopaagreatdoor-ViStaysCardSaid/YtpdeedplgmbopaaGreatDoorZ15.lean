import Derived.Test.YtpdeedplgmbopaaGreatDoorZ4
import Derived.Test.YtpdeedplgmbopaaGreatDoorZ14
import Derived.Test.YtpdeedplgmbopaaGreatDoorZ5
import Derived.Lib.RuneBytes
import Derived.Test.YtpdeedplgmbopaaGreatDoorZ3
import Derived.Laws.BitsLemmas
import GoSem.PinnedTables
import Derived.Laws.IdiomStrings
import Derived.Test.YtpdeedplgmbopaaGreatDoorZ12
import Derived.Test.YtpdeedplgmbopaaGreatDoorZ11
import Derived.Test.YtpdeedplgmbopaaGreatDoorZ13
import Derived.Test.YtpdeedplgmbopaaGreatDoorZ9
set_option linter.unusedSimpArgs false
set_option linter.unusedVariables false
/- Texts of mine, joined, their names in short: EdS3 UtfM Bits Utf RefTab Utf2 Utf3 Utf4 Utf5 StrB EdG EdGo EEditG ETyM. -/
section
namespace Go.Proofs.YtpdeedplgmbopaaGreatDoor
open Go.RowKit
open _root_.Go.Proofs.Tryz
def Y2 (s : bQ) (u ks sv : Value) : List Value := [u, .int .i64 s.c.pt, .int .i64 s.c.mark, .int .i64 s.c.mode, .bool s.c.over, .bool s.given, .bool s.minus, .int .i64 s.arg, .int .i64 s.Ef, .int .i64 s.frS, .int .i64 s.toS, ks, .int .i64 s.c.place, sv, .int .i64 s.rE, .int .i64 s.c.res, .int .i64 s.lI]
section
variable {w0 w : World} {F : HP} {e p ph pw pt pr pm pb : Nat} {s : bQ} {k x place : Int} {hl : List wY} {base most cls : Int} {tx : Int → Option ByteArray} {v pv : Value} {U : Int → List (List jL)} {L : List Int} {pnt mk : Int}
theorem Nl {x1 x2 x3 x4 x5 x6 x7 x8 x9 x10 x12 BK x14 x15 x16 x17 x18 x19 x20 x21 Dn x23 x24 x25 Dp x27 x28 x29 x30 x31 x32 Eb : Value} (H : V w0 w (gJ e (.cells (.pointer (some ⟨pb, 0, none⟩) :: x1 :: x2 :: x3 :: x4 :: x5 :: x6 :: x7 :: x8 :: x9 :: x10 :: .pointer (some ⟨ph, 0, none⟩) :: x12 :: BK :: x14 :: x15 :: x16 :: x17 :: x18 :: x19 :: x20 :: x21 :: Dn :: x23 :: x24 :: x25 :: Dp :: x27 :: x28 :: x29 :: x30 :: x31 :: x32 :: Eb :: []).toArray 82 (0, 0)) • jF pb L pnt mk • F)) : jf prog 28 #[.pointer (some ⟨e, 0, none⟩)] w fun v' w' =>
  ∃ u, v' = .agg (uG u pnt mk) ∧ V w0 w' (je 21 .i32 u L • gJ e (.cells (.pointer (some ⟨pb, 0, none⟩) :: x1 :: x2 :: x3 :: x4 :: x5 :: x6 :: x7 :: x8 :: x9 :: x10 :: .pointer (some ⟨ph, 0, none⟩) :: x12 :: BK :: x14 :: x15 :: x16 :: x17 :: x18 :: x19 :: x20 :: x21 :: Dn :: x23 :: x24 :: x25 :: Dp :: x27 :: x28 :: x29 :: x30 :: x31 :: x32 :: Eb :: []).toArray 82 (0, 0)) • jF pb L pnt mk • F) := by
 refine jE func28 ntmps28 ?_
 refine jg (kV (iO (l := [_, _, _]) H zeroValue46 O) ?_)
 rintro _ w1 ⟨b1, rfl, H1⟩
 refine rW (bI O (dX O func65 (Ie H1.f2) ?_))
 rintro _ _ ⟨rfl, rfl⟩
 refine iR (oL (gy (bI O (dV O (bM 0 ay O aY O (bM 0 aS O nX O (eH jX O (H1.f2).get.2 O (dX O func79 (Kt H1.f3) ?_))))))))
 rintro _ w3 ⟨u3, rfl, H3⟩
 refine aQ (dM 0 (l' := [_, _, _]) (us := [_, _, _]) H3.f3 sizeOf46 O O O (bG (by first | rfl | exact Rd.one ((H3).aO)) (aJ (aJ dn))) O O) ?_
 rintro _ w4 H4
 refine zkc ?_
 refine wS (.inl O) (Ud results28 O fK O (by rw [acz]; rfl) (H4).get.2) ?_
 exact ⟨_, O, H4.right.f2.f3.f3⟩
theorem CB {x0 x1 x3 x4 x5 x6 x7 x8 x9 x10 x12 BK x14 x15 x16 x17 x18 x19 x20 x21 Dn x23 x24 x25 Dp x27 x28 x29 x30 x31 x32 Eb : Value} (H : V w0 w (gJ e (.cells (x0 :: x1 :: .pointer (some ⟨pw, 0, none⟩) :: x3 :: x4 :: x5 :: x6 :: x7 :: x8 :: x9 :: x10 :: .pointer (some ⟨ph, 0, none⟩) :: x12 :: BK :: x14 :: x15 :: x16 :: x17 :: x18 :: x19 :: x20 :: x21 :: Dn :: x23 :: x24 :: x25 :: Dp :: x27 :: x28 :: x29 :: x30 :: x31 :: x32 :: Eb :: []).toArray 82 (0, 0)) • gJ pw (.cells #[.int .i64 place, .map (some pt)] 122 (0, 0)) • jv yx pt (zJ tx) • jZ ph hl base most • F)) :
    jf prog 66 #[.pointer (some ⟨e, 0, none⟩)] w fun v' w' => V w0 w' (Row 133 2 v' (FV hl tx place).length ((FV hl tx place).flatMap yH) •
      gJ e (.cells (x0 :: x1 :: .pointer (some ⟨pw, 0, none⟩) :: x3 :: x4 :: x5 :: x6 :: x7 :: x8 :: x9 :: x10 :: .pointer (some ⟨ph, 0, none⟩) :: x12 :: BK :: x14 :: x15 :: x16 :: x17 :: x18 :: x19 :: x20 :: x21 :: Dn :: x23 :: x24 :: x25 :: Dp :: x27 :: x28 :: x29 :: x30 :: x31 :: x32 :: Eb :: []).toArray 82 (0, 0)) • gJ pw (.cells #[.int .i64 place, .map (some pt)] 122 (0, 0)) • jv yx pt (zJ tx) • jZ ph hl base most • F) := by
  have hb : hl.length ≤ 4096 := by obtain ⟨v, h, _⟩ := H.r4.hist; exact h.1
  refine jE func66 ntmps66 ?_
  refine kH O (kH O (bI O (dV O (bM 11 ay O sizeOf78 O (eH nK O (H).get.2 O (dX O func117 (uZ H.f4) ?_))))))
  rintro _ w1 ⟨rfl, H1⟩
  refine tX O (bI O (bW O (iR (bf ?_))))
  refine iy [(0, _), (4, _), (11, _)] (fun (⟨i, u⟩ : Nat × Value) => [(3, u), (12, .int .i64 (i : Int))]) (fun (⟨i, u⟩ : Nat × Value) W => i ≤ hl.length ∧ V w0 W (Row 133 2 u (xC hl tx place i).length ((xC hl tx place i).flatMap yH) • gJ e (.cells (x0 :: x1 :: .pointer (some ⟨pw, 0, none⟩) :: x3 :: x4 :: x5 :: x6 :: x7 :: x8 :: x9 :: x10 :: .pointer (some ⟨ph, 0, none⟩) :: x12 :: BK :: x14 :: x15 :: x16 :: x17 :: x18 :: x19 :: x20 :: x21 :: Dn :: x23 :: x24 :: x25 :: Dp :: x27 :: x28 :: x29 :: x30 :: x31 :: x32 :: Eb :: []).toArray 82 (0, 0)) • gJ pw (.cells #[.int .i64 place, .map (some pt)] 122 (0, 0)) • jv yx pt (zJ tx) • jZ ph hl base most • F)) (fun (⟨i, u⟩ : Nat × Value) => hl.length - i) ((0, .slice none 0 0)) wW sG ⟨by omega, H1.f4.f4.f4.kF none⟩ ?_
  rintro ⟨i, u⟩ w2 ⟨hi, HL⟩
  dsimp only [List.cons_append, List.nil_append]
  refine jg (aV (gG O O) (rW (bg O (fun h1 => ?_) (fun h1 => ?_))))
  · (try simp only [Z] at h1)
    refine gy (aI (bf (bI O (tX O ?_))))
    have hLen := Ba hl tx place i
    refine aF (jU O O (dV O (bM 0 ay O aY O (bM 2 aS O sizeOf74 O (eH oV O (HL.f2).get.2 O (dV O (bM 0 jk O aj O (eH aA O (HL.f3).get.2 O (aV (fF O O) (jY O (fun h2 => ?_) (fun h2 => ?_)))))))))))
    · (try simp only [Z] at h2)
      have hpl := h2
      refine bF (bW O (bF (bW O (bF (dX O func118 (EM HL.f5.f5.f5.f5) ?_)))))
      rintro _ w3 ⟨rfl, H3⟩
      refine bF (bW O (bF (bW O (bF (dX O func119 (KR H3.f4.f2) ?_)))))
      rintro _ w4 ⟨rfl, H4⟩
      refine bF (aV (LK O O) (jQ O O (iW O (fun h3 => ?_) (fun h3 => ?_))))
      · (try simp only [Z] at h3)
        have hsv := WY (hl := hl) (tx := tx) (place := place) (i := i) (by unfold IK; rw [decide_eq_true hpl]; simpa using h3)
        refine aF (jU O O (jU O O (dX O func118 (EM H4.f2.f4.f4.f4) ?_)))
        rintro _ w5 ⟨rfl, H5⟩
        refine aV (iJ (zl := [.int .i64 0, .string .empty]) (pl := [(0, 1), (1, 1)]) [_, _] underlying133 zeroValue133 O (fun w => by kernel_rfl) O (.on (.on .nil)) O) ?_
        refine kV (yU H5 kP sizeOf133 zeroValue133 O O O (by decide) (by decide)) ?_
        rintro l6 w6 H6
        refine kV (jy H6.f6 kP adg O O O ((H6).aO) (aJ (aJ dn)) (by omega) (by omega)) ?_
        rintro l7 w7 H7
        have Hd8 := H7.f2.right
        refine gW O (bT (aH (aU (aF (aV (fH O O (by omega)) (bW O (bT ?_)))))))
        have hLen := Ba hl tx place i
        refine dN ((i + 1, l7)) ?_ ?_ ?_ ?_
        · exact sG
        · exact wW
        · (try dsimp only)
          first | done | exact ⟨by omega, by first | (rw [hsv, List.length_append, List.flatMap_append]; exact Hd8.f5.f5.f5.f5.f5) | (rw [hsv]; exact Hd8.f5.f5.f5.f5.f5)⟩
        · (try dsimp only); omega
      · (try simp only [Z] at h3)
        have hsv := PO (hl := hl) (tx := tx) (place := place) (i := i) (by unfold IK; rw [decide_eq_true hpl]; simpa using h3)
        refine bU (aH (aU (aF (aV (fH O O (by omega)) (bW O (bT ?_))))))
        have hLen := Ba hl tx place i
        refine dN ((i + 1, u)) ?_ ?_ ?_ ?_
        · exact sG
        · exact wW
        · (try dsimp only)
          first | done | exact ⟨by omega, by first | (rw [hsv, List.length_append, List.flatMap_append]; exact H4.f2.f4.f4.f4.f5) | (rw [hsv]; exact H4.f2.f4.f4.f4.f5)⟩
        · (try dsimp only); omega
    · (try simp only [Z] at h2)
      have hsv := PO (hl := hl) (tx := tx) (place := place) (i := i) (by unfold IK; rw [decide_eq_false (by simpa using h2)]; rfl)
      refine bK (bK (bK (bK (bK (bK (bK (iH O O (iR (oL (bU (aH (aU (aF (aV (fH O O (by omega)) (bW O (bT ?_))))))))))))))))
      have hLen := Ba hl tx place i
      refine dN ((i + 1, u)) ?_ ?_ ?_ ?_
      · exact sG
      · exact wW
      · (try dsimp only)
        first | done | exact ⟨by omega, by first | (rw [hsv, List.length_append, List.flatMap_append]; exact HL.f5.f5.f5.f5.f5) | (rw [hsv]; exact HL.f5.f5.f5.f5.f5)⟩
      · (try dsimp only); omega
  · (try simp only [Z] at h1)
    refine dR (aP ?_)
    obtain rfl : i = hl.length := by omega
    refine aP (bH (aU (aI (aI ?_))))
    have hLen := Ba hl tx place hl.length
    refine aF (mX O O (bM 0 ay O aY O (bM 2 aS O sizeOf74 O (eH oV O (HL.f2).get.2 O (dV O (bM 0 jk O aj O (eH aA O (HL.f3).get.2 O (bW O (aV (fF O O) (iW O (fun h4 => ?_) (fun h4 => ?_)))))))))))
    · (try simp only [Z] at h4)
      have hsv : FV hl tx place = xC hl tx place hl.length ++ [((hl.length : Int), lS hl tx hl.length)] := by unfold FV; rw [if_pos h4]
      refine aF (jU O O (jU O O (dX O func118 (EM HL.f5.f5.f5.f5) ?_)))
      rintro _ w9 ⟨rfl, H9⟩
      refine aV (iJ (zl := [.int .i64 0, .string .empty]) (pl := [(0, 1), (1, 1)]) [_, _] underlying133 zeroValue133 O (fun w => by kernel_rfl) O (.on (.on .nil)) O) ?_
      refine kV (yU H9 kP sizeOf133 zeroValue133 O O O (by decide) (by decide)) ?_
      rintro l10 w10 pG
      refine kV (jy pG.f6 kP adg O O O ((pG).aO) (aJ (aJ dn)) (by omega) (by omega)) ?_
      rintro l11 FK ru
      have NQ := ru.f2.right
      refine fO O (bI O (fP O (dL results66 O ?_)))
      first
        | (rw [hsv, List.length_append, List.flatMap_append]; exact NQ.f5.f5.f5.f5.f5)
        | (rw [hsv]; exact NQ.f5.f5.f5.f5.f5)
    · (try simp only [Z] at h4)
      have hsv : FV hl tx place = xC hl tx place hl.length := by unfold FV; rw [if_neg (by simpa using h4), List.append_nil]
      refine gy (bI O (fP O (dL results66 O ?_)))
      first
        | (rw [hsv, List.length_append, List.flatMap_append]; exact HL.f5.f5.f5.f5.f5)
        | (rw [hsv]; exact HL.f5.f5.f5.f5.f5)
theorem abv {u0 u1 u2 u3 u4 u5 u6 u7 u8 u9 ua : Value} (hin : s.inn = true) (H : V w0 w (AY s.inn s.was [u0, u1, u2, u3, u4, u5, u6, u7, u8, u9, ua] • F)) : u6 = .int .i64 s.was.last ∧ u7 = .int .i64 s.was.fr ∧ u8 = .int .i64 s.was.to := by
  rw [hin] at H
  obtain ⟨qb, qr, qw, qt, qm, hu, -⟩ := H.was
  simp only [Wq, List.cons.injEq, and_true] at hu
  exact ⟨hu.2.2.2.2.2.2.1, hu.2.2.2.2.2.2.2.1, hu.2.2.2.2.2.2.2.2.1⟩
set_option maxHeartbeats 1000000 in
theorem CG (H : V w0 w (dZ e s • F)) : jf prog 23 #[.pointer (some ⟨e, 0, none⟩)] w fun v w' => ∃ u ks us sv, v = .agg (Y2 s u ks sv).toArray ∧
  V w0 w' (je 21 .i32 u s.c.L • Row 22 1 ks s.c.E.length us • Ic 21 .i32 us (nC s.c.E s.c.at_) • Row 133 2 sv s.saved.length (s.saved.flatMap yH) • dZ e s • F) := by
 refine jE func23 ntmps23 ?_
 obtain ⟨xE, yB, yC, y9, yD, yE, yF, yG, xG, vM, vN, vO, vP, vS, vT, vU, vV, vW, vX, vY, iT, dQ, lT, jm⟩ := (H).Jp
 have hU : (s.c.un s.c.place).length ≤ 16384 := by
  obtain ⟨D, P, hD1, hD2, HU⟩ := (jm.f6).afD
  by_cases hm : s.c.place ∈ D
  ·have HF := HU.swap
   rw [y5 hm] at HF
   obtain ⟨_, _, _, _, k1, _⟩ := HF.flat.BM
   have := k1.len; simpa using this
  ·rw [hD2 _ hm]; decide
 refine jg (kV (iO (l := [_, _, _, _, _, _, _, _, _, _, _, _, _, _, _, _, _]) jm kW O) ?_)
 rintro _ w2 ⟨b2, rfl, H2⟩
 refine rW (bI O (dX O func65 (Ie H2.f2) ?_))
 rintro _ _ ⟨rfl, rfl⟩
 refine iR (oL (gy ?_))
 refine kE [(0, _)] (fun (⟨r, q, u, ks, sv, us⟩ : Nat × Nat × Value × Value × Value × List Value) => [(2, .pointer (some ⟨r, 0, none⟩)), (3, .pointer (some ⟨q, 0, none⟩))]) (fun (⟨r, q, u, ks, sv, us⟩ : Nat × Nat × Value × Value × Value × List Value) W => V w0 W (gJ q (.cells (u :: .int .i64 s.c.pt :: .int .i64 s.c.mark :: .int .i64 s.c.mode :: .bool s.c.over :: .bool s.given :: .bool s.minus :: .int .i64 s.arg :: .int .i64 s.c.last :: .int .i64 s.c.fr :: .int .i64 s.c.to :: ks :: .int .i64 s.c.place :: sv :: .int .i64 s.rE :: .int .i64 s.c.res :: .int .i64 s.lI :: []).toArray 50 (0, 0)) • je 21 .i32 u s.c.L • Row 22 1 ks s.c.E.length us • Ic 21 .i32 us (nC s.c.E s.c.at_) • Row 133 2 sv s.saved.length (s.saved.flatMap yH) • gJ e (.cells (.pointer (some ⟨xE, 0, none⟩) :: .pointer (some ⟨yB, 0, none⟩) :: .pointer (some ⟨yC, 0, none⟩) :: .map (some yD) :: .int .i64 s.c.mode :: .bool s.c.over :: .int .i64 s.c.last :: .int .i64 s.c.fr :: .int .i64 s.c.to :: .int .i64 s.c.res :: .bool s.c.run :: .pointer (some ⟨yE, 0, none⟩) :: .pointer (some ⟨yF, 0, none⟩) :: .bool s.given :: .bool s.minus :: .int .i64 s.arg :: .bool s.inn :: vM :: vN :: vO :: vP :: vS :: vT :: vU :: vV :: vW :: vX :: vY :: .int .i64 s.cls :: .bool s.killed :: .bool s.mM :: .bool s.argues :: .bool s.whole :: yG :: []).toArray 82 (0, 0)) • jF xE s.c.L s.c.pt s.c.mark • gY yB s.c.E s.c.at_ • gJ yC (.cells #[.int .i64 s.c.place, .map (some y9)] 122 (0, 0)) • jv yx y9 (zJ s.c.tx) • Ci yD s.c.un • jZ yE s.hl s.base s.most • gJ yF (.cells #[.int .i64 s.lI] 161 (0, 0)) • Row 189 3 yG s.put.length (xG.flatMap gX.enc) • nD xG • AY s.inn s.was [vM, vN, vO, vP, vS, vT, vU, vV, vW, vX, vY] • gJ r (.cells (.slice none 0 0 :: .int .i64 0 :: .int .i64 0 :: .int .i64 0 :: .bool false :: .bool false :: .bool false :: .int .i64 0 :: .int .i64 0 :: .int .i64 0 :: .int .i64 0 :: .slice none 0 0 :: .int .i64 0 :: .slice none 0 0 :: .int .i64 0 :: .int .i64 0 :: .int .i64 0 :: []).toArray 50 (0, 0)) • F)) lH ?_ ?_
 ·rintro ⟨r, q, u, ks, sv, us⟩ w4 HJ
  dsimp only [List.cons_append, List.nil_append]
  refine aI (bI O (dV O (bM 16 ay O aT O (eH bJ O (HJ.f6).get.2 O (iW O (fun h1 => ?_) (fun h1 => ?_))))))
  ·(try simp only [Z] at h1)
   have hin := h1
   obtain ⟨rfl, rfl, rfl⟩ := abv hin HJ.f16
   have ajv := HJ.drew
   have Bc := V.kp (ajv.right.f16.f16.f16.f16.f16.f16.f16.f16.f16.f16.f16.f16.f16.f16.f16.f16)
   refine nG [4, 9, 14] Bc O (fD 0 O Bc O (iG 1 O Bc O (dJ 2 O Bc 17 ay O aY O (dJ 3 O Bc 6 aS O aj O (fM 4 O Bc (fun W hW => fQ aA O ((Kp.h hW).f5).get.2 O) (fD 5 O Bc O (iG 6 O Bc O (dJ 7 O Bc 17 ay O aY O (dJ 8 O Bc 7 aS O aj O (fM 9 O Bc (fun W hW => fQ aA O ((Kp.h hW).f5).get.2 O) (fD 10 O Bc O (iG 11 O Bc O (dJ 12 O Bc 17 ay O aY O (dJ 13 O Bc 8 aS O aj O (fM 14 O Bc (fun W hW => fQ aA O ((Kp.h hW).f5).get.2 O) (dJ 15 O Bc 8 aG O aj O ?_))))))))))))))))
   refine dF 16 O (by kernel_rfl) (nO 8 ajv aj) ?_
   rintro _ w5 H5
   have D8 := V.kp (H5.right.f16.f16.f16.f16.f16.f16.f16.f16.f16.f16.f16.f16.f16.f16.f16.f16)
   refine dK D8 (fun W hW => (Kp.h hW).f16.f16.f16.f16.f16.f16.f16.f16.f16.f16.f16.f16.f16.f16.f16.f16) ?_
   refine dJ 17 O D8 9 aG O aj O ?_
   refine dF 18 O (by kernel_rfl) (nO 9 H5 aj) ?_
   rintro _ w6 H6
   have jV := V.kp (H6.f17.f17.f17.f17.f17.f17.f17.f17.f17.f17.f17.f17.f17.f17.f17.f17.f17)
   refine dK jV (fun W hW => (Kp.h hW).right.f16.f16.f16.f16.f16.f16.f16.f16.f16.f16.f16.f16.f16.f16.f16.f16) ?_
   refine dJ 19 O jV 10 aG O aj O ?_
   refine dF 20 O (by kernel_rfl) (nO 10 H6 aj) ?_
   rintro _ w7 H7
   have Ae := V.kp (H7.f17.f17.f17.f17.f17.f17.f17.f17.f17.f17.f17.f17.f17.f17.f17.f17.f17)
   refine gU Ae (by kernel_rfl) ?_
   refine lJ (aU (jg (aV (dH aG O jC O O (H7).get.2) (aQ (dM 0 (l' := [_, _, _, _, _, _, _, _, _, _, _, _, _, _, _, _, _]) (us := [_, _, _, _, _, _, _, _, _, _, _, _, _, _, _, _, _]) H7.f17 jC O O O (bG (by first | rfl | exact Rd.one ((H7.f2).aO)) (aJ (aJ (aJ (aJ (aJ (aJ (aJ (aJ (aJ (aJ (bG (by first | rfl | exact Rd.one ((H7.f3).aO)) (aJ (bG (by first | rfl | exact Rd.one ((H7.f5).aO)) (aJ (aJ (aJ dn))))))))))))))))) O O) ?_))))
   rintro _ w8 H8
   refine zkc ?_
   refine wS (.inl O) (Ud results23 O aG O (by rw [agN]; rfl) (H8).get.2) ?_
   have UC := H8.f17.f17.f17.f17.f17.f17.f17.f17.f17.f17.f17
   have UD := V.ji (s := s) iT dQ UC
   refine ⟨u, ks, us, sv, ?_, UD.f2.right.f2.right.f5.f5.f5.f5⟩
   unfold Y2 bQ.Ef bQ.frS bQ.toS
   rw [hin]
   rfl
  ·(try simp only [Z] at h1)
   have hin := h1
   refine gy (jg (aV (dH aG O jC O O (HJ).get.2) (aQ (dM 0 (l' := [_, _, _, _, _, _, _, _, _, _, _, _, _, _, _, _, _]) (us := [_, _, _, _, _, _, _, _, _, _, _, _, _, _, _, _, _]) HJ.f17 jC O O O (bG (by first | rfl | exact Rd.one ((HJ.f2).aO)) (aJ (aJ (aJ (aJ (aJ (aJ (aJ (aJ (aJ (aJ (bG (by first | rfl | exact Rd.one ((HJ.f3).aO)) (aJ (bG (by first | rfl | exact Rd.one ((HJ.f5).aO)) (aJ (aJ (aJ dn))))))))))))))))) O O) ?_)))
   rintro _ w12 wQ
   refine zkc ?_
   refine wS (.inl O) (Ud results23 O aG O (by rw [agN]; rfl) (wQ).get.2) ?_
   have ahK := wQ.f17.f17.f17.f17.f17.f17.f17.f17.f17.f17.f17
   have ahL := V.ji (s := s) iT dQ ahK
   refine ⟨u, ks, us, sv, ?_, ahL.f2.right.f2.right.f5.f5.f5.f5⟩
   unfold Y2 bQ.Ef bQ.frS bQ.toS
   rw [hin]
   rfl
 ·skip
  have adh := H2.drew
  have iQ := V.kp (adh.f7.right.f7.right.f10.f10.f10.f10.f10.f10.f10.f10.f10.f10)
  refine nG [6, 11, 15, 19, 23, 28, 33, 38, 45, 48, 57, 61] iQ O (fD 0 O iQ O (fD 2 O iQ O (iG 3 O iQ O (dJ 4 O iQ 0 ay O aY O (dJ 5 O iQ 4 aS O aj O (fM 6 O iQ (fun W hW => fQ aA O ((Kp.h hW).f2).get.2 O) (fD 7 O iQ O (iG 8 O iQ O (dJ 9 O iQ 0 ay O aY O (dJ 10 O iQ 5 aS O aT O (fM 11 O iQ (fun W hW => fQ bJ O ((Kp.h hW).f2).get.2 O) (fD 12 O iQ O (iG 13 O iQ O (dJ 14 O iQ 13 ay O aT O (fM 15 O iQ (fun W hW => fQ bJ O ((Kp.h hW).f2).get.2 O) (fD 16 O iQ O (iG 17 O iQ O (dJ 18 O iQ 14 ay O aT O (fM 19 O iQ (fun W hW => fQ bJ O ((Kp.h hW).f2).get.2 O) (fD 20 O iQ O (iG 21 O iQ O (dJ 22 O iQ 15 ay O aj O (fM 23 O iQ (fun W hW => fQ aA O ((Kp.h hW).f2).get.2 O) (fD 24 O iQ O (iG 25 O iQ O (dJ 26 O iQ 0 ay O aY O (dJ 27 O iQ 6 aS O aj O (fM 28 O iQ (fun W hW => fQ aA O ((Kp.h hW).f2).get.2 O) (fD 29 O iQ O (iG 30 O iQ O (dJ 31 O iQ 0 ay O aY O (dJ 32 O iQ 7 aS O aj O (fM 33 O iQ (fun W hW => fQ aA O ((Kp.h hW).f2).get.2 O) (fD 34 O iQ O (iG 35 O iQ O (dJ 36 O iQ 0 ay O aY O (dJ 37 O iQ 8 aS O aj O (fM 38 O iQ (fun W hW => fQ aA O ((Kp.h hW).f2).get.2 O) (fD 39 O iQ O ?_)))))))))))))))))))))))))))))))))))))))
  refine fD 41 O iQ O (iG 42 O iQ O (dJ 43 O iQ 0 ay O aY O (dJ 44 O iQ 2 aS O sizeOf74 O (fM 45 O iQ (fun W hW => fQ oV O ((Kp.h hW).f2).get.2 O) (iG 46 O iQ O (dJ 47 O iQ 0 jk O aj O (fM 48 O iQ (fun W hW => fQ aA O ((Kp.h hW).f5).get.2 O) (fD 49 O iQ O (fD 51 O iQ O (fD 53 O iQ O (iG 54 O iQ O (dJ 55 O iQ 0 ay O aY O (dJ 56 O iQ 9 aS O aj O (fM 57 O iQ (fun W hW => fQ aA O ((Kp.h hW).f2).get.2 O) (fD 58 O iQ O (iG 59 O iQ O (dJ 60 O iQ 12 ay O sizeOf79 O (fM 61 O iQ (fun W hW => fQ underlying79 O ((Kp.h hW).f2).get.2 O) ?_))))))))))))))))))
  refine Ez (i := 1) (j := 64) (by kernel_rfl) ?_ ?_
  ·skip
   refine nM 1 O (by kernel_rfl) (uU (wF O func28 O O) (Nl adh.f3.f3)) (gV O) ?_
   rintro _ w16 ⟨u16, rfl, uT⟩
   have yY := V.kp (uT.f8.right.f8.right.f11.f11.f11.f11.f11.f11.f11.f11.f11.f11.f11)
   refine dK yY (fun W hW => (Kp.h hW).right.f10.f10.f10.f10.f10.f10.f10.f9.f9.f10) ?_
   refine Ez (i := 40) (j := 64) (by kernel_rfl) ?_ ?_
   ·skip
    refine nM 40 O (by kernel_rfl) (uU (wF O func33 O O) (F7 uT.f5.f3)) (gV O) ?_
    rintro u17 Yp ⟨amq, BX⟩
    have Ed := V.kp (BX.f10.right.f10.right.f13.f13.f13.f13.f13.f13.f13.f13.f13.f13.f13.f13.f13)
    refine dK Ed (fun W hW => (Kp.h hW).right.right.f11.f11.f11.f11.f11.f11.f8.f11.f11.f10.f11) ?_
    refine Ez (i := 50) (j := 64) (by kernel_rfl) ?_ ?_
    ·skip
     refine nM 50 O (by kernel_rfl) (uU (wF O func66 O O) (CB BX.f11.f10.f10.f6)) (gV O) ?_
     rintro u18 ZO EW
     have Gp := V.kp (EW.f12.right.f15.f15.f15.f15.f15.f15.f15.f15.f15.f15.f15.f15.f15.f15.f15)
     refine dK Gp (fun W hW => (Kp.h hW).right.f4.right.f13.f13.f13.f13.f7.f7.f13.f13.f13.f13.f11.f13.f13) ?_
     refine Ez (i := 52) (j := 64) (by kernel_rfl) ?_ ?_
     ·skip
      refine nM 52 O (by kernel_rfl) (uU (wF O func67 O O) (yI EW.f14.f13.f5.f5 hU)) (gV O) ?_
      rintro _ w19 ⟨rfl, EP⟩
      have Nc := V.kp (EP.f16.f16.f16.f16.f16.f16.f16.f16.f16.f16.f16.f16.f16.f16.f16.f16)
      refine dK Nc (fun W hW => (Kp.h hW).f3.right.f15.f15.f5.f15.f15.f15.f15.f15.f15.f15.f15.f15.f14.f14.f15) ?_
      refine Ez (i := 62) (j := 64) (by kernel_rfl) ?_ ?_
      ·skip
       refine nM 62 O (by kernel_rfl) (uU (wF O func68 O O) (sZ EP.f14)) (gV O) ?_
       rintro _ _ ⟨rfl, rfl⟩
       have zI := V.kp (EP.f16.f16.f16.f16.f16.f16.f16.f16.f16.f16.f16.f16.f16.f16.f16.f16)
       refine dK zI (fun W hW => (Kp.h hW).f16.f16.f16.f16.f16.f16.f16.f16.f16.f16.f16.f16.f16.f16.f16.f16) ?_
       refine dS 63 O zI (fun _ => iJ (zl := [.slice none 0 0, .int .i64 0, .int .i64 0, .int .i64 0, .bool false, .bool false, .bool false, .int .i64 0, .int .i64 0, .int .i64 0, .int .i64 0, .slice none 0 0, .int .i64 0, .slice none 0 0, .int .i64 0, .int .i64 0, .int .i64 0]) (pl := [(0, 3), (3, 1), (4, 1), (5, 1), (6, 1), (7, 1), (8, 1), (9, 1), (10, 1), (11, 1), (12, 1), (13, 1), (14, 1), (15, 1), (16, 1)]) [_, _, _, _, _, _, _, _, _, _, _, _, _, _, _, _, _] aG kW O (fun w => by kernel_rfl) O (.agg (us := [_, _, _]) (zs := [.slice none 0 0, .int .i64 0, .int .i64 0]) O O (.on (.on (.on (.on (.on (.on (.on (.on (.one (Rd.one ((EP.f8).aO)) (.on (.one (Rd.one ((EP.f5).aO)) (.on (.on (.on .nil))))))))))))))) O) ?_
       refine ny 64 O (iO (l := [_, _, _, _, _, _, _, _, _, _, _, _, _, _, _, _, _]) EP kW O) ?_
       rintro _ w21 ⟨b21, rfl, wP⟩
       have PU := V.kp (wP.f17.f17.f17.f17.f17.f17.f17.f17.f17.f17.f17.f17.f17.f17.f17.f17.f17)
       refine dK PU (fun W hW => (Kp.h hW).right.f16.f16.f16.f16.f16.f16.f16.f16.f16.f16.f16.f16.f16.f16.f16.f16) ?_
       refine dF 65 O (by kernel_rfl) (dM 0 (l' := [_, _, _, _, _, _, _, _, _, _, _, _, _, _, _, _, _]) (us := [_, _, _, _, _, _, _, _, _, _, _, _, _, _, _, _, _]) wP jC O O O (bG (by first | rfl | exact Rd.one ((wP.f12).aO)) (aJ (aJ (aJ (aJ (aJ (aJ (aJ (aJ (aJ (aJ (bG (by first | rfl | exact Rd.one ((wP.f9).aO)) (aJ (bG (by first | rfl | exact Rd.one ((wP.f6).aO)) (aJ (aJ (aJ dn))))))))))))))))) O O) ?_
       rintro _ w22 Jh
       have KG := V.kp (Jh.f17.f17.f17.f17.f17.f17.f17.f17.f17.f17.f17.f17.f17.f17.f17.f17.f17)
       refine gU KG (by kernel_rfl) ?_
       refine lJ ?_
       refine dG (_, _, _, _, _, _) sG lH (by (try dsimp only); exact Jh.f14.f17.f17.f8.f17.f12.f10.f12.f11.f15.f17.f13.f14.f16.f16.f17.f17)
      ·skip
       refine nM 64 O (by kernel_rfl) (iO (l := [_, _, _, _, _, _, _, _, _, _, _, _, _, _, _, _, _]) EP kW O) (gV O) ?_
       rintro _ w23 ⟨b23, rfl, AQ⟩
       have Fa := V.kp (AQ.f17.f17.f17.f17.f17.f17.f17.f17.f17.f17.f17.f17.f17.f17.f17.f17.f17)
       refine dK Fa (fun W hW => (Kp.h hW).right.f16.f16.f16.f16.f16.f16.f16.f16.f16.f16.f16.f16.f16.f16.f16.f16) ?_
       refine ny 62 O (wM O func68 (sZ AQ.f15)) ?_
       rintro _ _ ⟨rfl, rfl⟩
       have Jr := V.kp (AQ.f17.f17.f17.f17.f17.f17.f17.f17.f17.f17.f17.f17.f17.f17.f17.f17.f17)
       refine dK Jr (fun W hW => (Kp.h hW).f17.f17.f17.f17.f17.f17.f17.f17.f17.f17.f17.f17.f17.f17.f17.f17.f17) ?_
       refine dS 63 O Jr (fun _ => iJ (zl := [.slice none 0 0, .int .i64 0, .int .i64 0, .int .i64 0, .bool false, .bool false, .bool false, .int .i64 0, .int .i64 0, .int .i64 0, .int .i64 0, .slice none 0 0, .int .i64 0, .slice none 0 0, .int .i64 0, .int .i64 0, .int .i64 0]) (pl := [(0, 3), (3, 1), (4, 1), (5, 1), (6, 1), (7, 1), (8, 1), (9, 1), (10, 1), (11, 1), (12, 1), (13, 1), (14, 1), (15, 1), (16, 1)]) [_, _, _, _, _, _, _, _, _, _, _, _, _, _, _, _, _] aG kW O (fun w => by kernel_rfl) O (.agg (us := [_, _, _]) (zs := [.slice none 0 0, .int .i64 0, .int .i64 0]) O O (.on (.on (.on (.on (.on (.on (.on (.on (.one (Rd.one ((AQ.f9).aO)) (.on (.one (Rd.one ((AQ.f6).aO)) (.on (.on (.on .nil))))))))))))))) O) ?_
       refine dF 65 O (by kernel_rfl) (dM 0 (l' := [_, _, _, _, _, _, _, _, _, _, _, _, _, _, _, _, _]) (us := [_, _, _, _, _, _, _, _, _, _, _, _, _, _, _, _, _]) AQ jC O O O (bG (by first | rfl | exact Rd.one ((AQ.f12).aO)) (aJ (aJ (aJ (aJ (aJ (aJ (aJ (aJ (aJ (aJ (bG (by first | rfl | exact Rd.one ((AQ.f9).aO)) (aJ (bG (by first | rfl | exact Rd.one ((AQ.f6).aO)) (aJ (aJ (aJ dn))))))))))))))))) O O) ?_
       rintro _ w25 LU
       have Hy := V.kp (LU.f17.f17.f17.f17.f17.f17.f17.f17.f17.f17.f17.f17.f17.f17.f17.f17.f17)
       refine gU Hy (by kernel_rfl) ?_
       refine lJ ?_
       refine dG (_, _, _, _, _, _) sG lH (by (try dsimp only); exact LU.f14.f17.f17.f8.f17.f12.f10.f12.f11.f15.f17.f13.f14.f16.f16.f17.f17)
     ·skip
      refine nM 64 O (by kernel_rfl) (iO (l := [_, _, _, _, _, _, _, _, _, _, _, _, _, _, _, _, _]) EW kW O) (gV O) ?_
      rintro _ w26 ⟨b26, rfl, QS⟩
      have PV := V.kp (QS.f13.right.f16.f16.f16.f16.f16.f16.f16.f16.f16.f16.f16.f16.f16.f16.f16.f16)
      refine dK PV (fun W hW => (Kp.h hW).right.f15.f15.f15.f15.f15.f15.f15.f15.f15.f15.f15.f15.f15.f15.f15) ?_
      refine ny 52 O (wM O func67 (yI QS.f15.f14.f6.f6 hU)) ?_
      rintro _ w27 ⟨rfl, LV⟩
      have PW := V.kp (LV.f17.f17.f17.f17.f17.f17.f17.f17.f17.f17.f17.f17.f17.f17.f17.f17.f17)
      refine dK PW (fun W hW => (Kp.h hW).f3.right.f16.f16.f5.f16.f16.f16.f16.f16.f16.f16.f16.f16.f14.f14.f16.f16) ?_
      refine ny 62 O (wM O func68 (sZ LV.f15)) ?_
      rintro _ _ ⟨rfl, rfl⟩
      have WZ := V.kp (LV.f17.f17.f17.f17.f17.f17.f17.f17.f17.f17.f17.f17.f17.f17.f17.f17.f17)
      refine dK WZ (fun W hW => (Kp.h hW).f17.f17.f17.f17.f17.f17.f17.f17.f17.f17.f17.f17.f17.f17.f17.f17.f17) ?_
      refine dS 63 O WZ (fun _ => iJ (zl := [.slice none 0 0, .int .i64 0, .int .i64 0, .int .i64 0, .bool false, .bool false, .bool false, .int .i64 0, .int .i64 0, .int .i64 0, .int .i64 0, .slice none 0 0, .int .i64 0, .slice none 0 0, .int .i64 0, .int .i64 0, .int .i64 0]) (pl := [(0, 3), (3, 1), (4, 1), (5, 1), (6, 1), (7, 1), (8, 1), (9, 1), (10, 1), (11, 1), (12, 1), (13, 1), (14, 1), (15, 1), (16, 1)]) [_, _, _, _, _, _, _, _, _, _, _, _, _, _, _, _, _] aG kW O (fun w => by kernel_rfl) O (.agg (us := [_, _, _]) (zs := [.slice none 0 0, .int .i64 0, .int .i64 0]) O O (.on (.on (.on (.on (.on (.on (.on (.on (.one (Rd.one ((LV.f9).aO)) (.on (.one (Rd.one ((LV.f6).aO)) (.on (.on (.on .nil))))))))))))))) O) ?_
      refine dF 65 O (by kernel_rfl) (dM 0 (l' := [_, _, _, _, _, _, _, _, _, _, _, _, _, _, _, _, _]) (us := [_, _, _, _, _, _, _, _, _, _, _, _, _, _, _, _, _]) LV.f5 jC O O O (bG (by first | rfl | exact Rd.one ((LV.f12).aO)) (aJ (aJ (aJ (aJ (aJ (aJ (aJ (aJ (aJ (aJ (bG (by first | rfl | exact Rd.one ((LV.f9).aO)) (aJ (bG (by first | rfl | exact Rd.one ((LV.f6).aO)) (aJ (aJ (aJ dn))))))))))))))))) O O) ?_
      rintro _ w29 Yq
      have adi := V.kp (Yq.f17.f17.f17.f17.f17.f17.f17.f17.f17.f17.f17.f17.f17.f17.f17.f17.f17)
      refine gU adi (by kernel_rfl) ?_
      refine lJ ?_
      refine dG (_, _, _, _, _, _) sG lH (by (try dsimp only); exact Yq.f14.f17.f17.f8.f17.f12.f10.f12.f11.f15.f17.f13.f14.f16.f16.f17.f17)
    ·skip
     refine nM 64 O (by kernel_rfl) (iO (l := [_, _, _, _, _, _, _, _, _, _, _, _, _, _, _, _, _]) BX kW O) (gV O) ?_
     rintro _ w30 ⟨b30, rfl, Vq⟩
     have ajw := V.kp (Vq.f11.right.f11.right.f14.f14.f14.f14.f14.f14.f14.f14.f14.f14.f14.f14.f14.f14)
     refine dK ajw (fun W hW => (Kp.h hW).right.f13.f13.f13.f13.f13.f13.f13.f13.f13.f13.f13.f13.f13) ?_
     refine ny 50 O (wM O func66 (CB Vq.f12.f11.f11.f7)) ?_
     rintro u31 w31 Uk
     have SY := V.kp (Uk.f13.right.f16.f16.f16.f16.f16.f16.f16.f16.f16.f16.f16.f16.f16.f16.f16.f16)
     refine dK SY (fun W hW => (Kp.h hW).right.f4.right.f14.f14.f14.f14.f7.f7.f14.f14.f14.f14.f11.f14.f14.f14) ?_
     refine ny 52 O (wM O func67 (yI Uk.f15.f14.f5.f5 hU)) ?_
     rintro _ w32 ⟨rfl, OO⟩
     have Py := V.kp (OO.f17.f17.f17.f17.f17.f17.f17.f17.f17.f17.f17.f17.f17.f17.f17.f17.f17)
     refine dK Py (fun W hW => (Kp.h hW).f3.right.f16.f16.f5.f16.f16.f16.f16.f16.f16.f16.f16.f16.f16.f15.f15.f16) ?_
     refine ny 62 O (wM O func68 (sZ OO.f15)) ?_
     rintro _ _ ⟨rfl, rfl⟩
     have Pz := V.kp (OO.f17.f17.f17.f17.f17.f17.f17.f17.f17.f17.f17.f17.f17.f17.f17.f17.f17)
     refine dK Pz (fun W hW => (Kp.h hW).f17.f17.f17.f17.f17.f17.f17.f17.f17.f17.f17.f17.f17.f17.f17.f17.f17) ?_
     refine dS 63 O Pz (fun _ => iJ (zl := [.slice none 0 0, .int .i64 0, .int .i64 0, .int .i64 0, .bool false, .bool false, .bool false, .int .i64 0, .int .i64 0, .int .i64 0, .int .i64 0, .slice none 0 0, .int .i64 0, .slice none 0 0, .int .i64 0, .int .i64 0, .int .i64 0]) (pl := [(0, 3), (3, 1), (4, 1), (5, 1), (6, 1), (7, 1), (8, 1), (9, 1), (10, 1), (11, 1), (12, 1), (13, 1), (14, 1), (15, 1), (16, 1)]) [_, _, _, _, _, _, _, _, _, _, _, _, _, _, _, _, _] aG kW O (fun w => by kernel_rfl) O (.agg (us := [_, _, _]) (zs := [.slice none 0 0, .int .i64 0, .int .i64 0]) O O (.on (.on (.on (.on (.on (.on (.on (.on (.one (Rd.one ((OO.f9).aO)) (.on (.one (Rd.one ((OO.f5).aO)) (.on (.on (.on .nil))))))))))))))) O) ?_
     refine dF 65 O (by kernel_rfl) (dM 0 (l' := [_, _, _, _, _, _, _, _, _, _, _, _, _, _, _, _, _]) (us := [_, _, _, _, _, _, _, _, _, _, _, _, _, _, _, _, _]) OO.f8 jC O O O (bG (by first | rfl | exact Rd.one ((OO.f12).aO)) (aJ (aJ (aJ (aJ (aJ (aJ (aJ (aJ (aJ (aJ (bG (by first | rfl | exact Rd.one ((OO.f9).aO)) (aJ (bG (by first | rfl | exact Rd.one ((OO.f5).aO)) (aJ (aJ (aJ dn))))))))))))))))) O O) ?_
     rintro _ w34 WA
     have KJ := V.kp (WA.f17.f17.f17.f17.f17.f17.f17.f17.f17.f17.f17.f17.f17.f17.f17.f17.f17)
     refine gU KJ (by kernel_rfl) ?_
     refine lJ ?_
     refine dG (_, _, _, _, _, _) sG lH (by (try dsimp only); exact WA.f14.f17.f17.f8.f17.f12.f10.f12.f11.f15.f17.f13.f14.f16.f16.f17.f17)
   ·skip
    refine nM 64 O (by kernel_rfl) (iO (l := [_, _, _, _, _, _, _, _, _, _, _, _, _, _, _, _, _]) uT kW O) (gV O) ?_
    rintro _ w35 ⟨b35, rfl, H35⟩
    have Hz := V.kp (H35.f9.right.f9.right.f12.f12.f12.f12.f12.f12.f12.f12.f12.f12.f12.f12)
    refine dK Hz (fun W hW => (Kp.h hW).right.f11.f11.f11.f11.f11.f11.f11.f11.f11.f11.f11) ?_
    refine ny 40 O (wM O func33 (F7 H35.f6.f4)) ?_
    rintro u36 w36 ⟨amr, H36⟩
    have PX := V.kp (H36.f11.right.f11.right.f14.f14.f14.f14.f14.f14.f14.f14.f14.f14.f14.f14.f14.f14)
    refine dK PX (fun W hW => (Kp.h hW).right.right.f12.f12.f12.f12.f12.f12.f8.f12.f12.f10.f12.f12) ?_
    refine ny 50 O (wM O func66 (CB H36.f12.f11.f11.f6)) ?_
    rintro u37 w37 H37
    have adj := V.kp (H37.f13.right.f16.f16.f16.f16.f16.f16.f16.f16.f16.f16.f16.f16.f16.f16.f16.f16)
    refine dK adj (fun W hW => (Kp.h hW).right.f4.right.f14.f14.f14.f14.f7.f7.f14.f14.f14.f14.f14.f12.f14.f14) ?_
    refine ny 52 O (wM O func67 (yI H37.f15.f14.f5.f5 hU)) ?_
    rintro _ w38 ⟨rfl, WB⟩
    have ajx := V.kp (WB.f17.f17.f17.f17.f17.f17.f17.f17.f17.f17.f17.f17.f17.f17.f17.f17.f17)
    refine dK ajx (fun W hW => (Kp.h hW).f3.right.f16.f16.f5.f16.f16.f16.f16.f16.f16.f16.f16.f16.f16.f15.f15.f16) ?_
    refine ny 62 O (wM O func68 (sZ WB.f15)) ?_
    rintro _ _ ⟨rfl, rfl⟩
    have Nj := V.kp (WB.f17.f17.f17.f17.f17.f17.f17.f17.f17.f17.f17.f17.f17.f17.f17.f17.f17)
    refine dK Nj (fun W hW => (Kp.h hW).f17.f17.f17.f17.f17.f17.f17.f17.f17.f17.f17.f17.f17.f17.f17.f17.f17) ?_
    refine dS 63 O Nj (fun _ => iJ (zl := [.slice none 0 0, .int .i64 0, .int .i64 0, .int .i64 0, .bool false, .bool false, .bool false, .int .i64 0, .int .i64 0, .int .i64 0, .int .i64 0, .slice none 0 0, .int .i64 0, .slice none 0 0, .int .i64 0, .int .i64 0, .int .i64 0]) (pl := [(0, 3), (3, 1), (4, 1), (5, 1), (6, 1), (7, 1), (8, 1), (9, 1), (10, 1), (11, 1), (12, 1), (13, 1), (14, 1), (15, 1), (16, 1)]) [_, _, _, _, _, _, _, _, _, _, _, _, _, _, _, _, _] aG kW O (fun w => by kernel_rfl) O (.agg (us := [_, _, _]) (zs := [.slice none 0 0, .int .i64 0, .int .i64 0]) O O (.on (.on (.on (.on (.on (.on (.on (.on (.one (Rd.one ((WB.f8).aO)) (.on (.one (Rd.one ((WB.f5).aO)) (.on (.on (.on .nil))))))))))))))) O) ?_
    refine dF 65 O (by kernel_rfl) (dM 0 (l' := [_, _, _, _, _, _, _, _, _, _, _, _, _, _, _, _, _]) (us := [_, _, _, _, _, _, _, _, _, _, _, _, _, _, _, _, _]) WB.f11 jC O O O (bG (by first | rfl | exact Rd.one ((WB.f12).aO)) (aJ (aJ (aJ (aJ (aJ (aJ (aJ (aJ (aJ (aJ (bG (by first | rfl | exact Rd.one ((WB.f8).aO)) (aJ (bG (by first | rfl | exact Rd.one ((WB.f5).aO)) (aJ (aJ (aJ dn))))))))))))))))) O O) ?_
    rintro _ w40 H40
    have aaq := V.kp (H40.f17.f17.f17.f17.f17.f17.f17.f17.f17.f17.f17.f17.f17.f17.f17.f17.f17)
    refine gU aaq (by kernel_rfl) ?_
    refine lJ ?_
    refine dG (_, _, _, _, _, _) sG lH (by (try dsimp only); exact H40.f14.f17.f17.f8.f17.f12.f10.f12.f11.f15.f17.f13.f14.f16.f16.f17.f17)
  ·skip
   refine nM 64 O (by kernel_rfl) (iO (l := [_, _, _, _, _, _, _, _, _, _, _, _, _, _, _, _, _]) adh kW O) (gV O) ?_
   rintro _ w41 ⟨b41, rfl, H41⟩
   have S9 := V.kp (H41.f8.right.f8.right.f11.f11.f11.f11.f11.f11.f11.f11.f11.f11.f11)
   refine dK S9 (fun W hW => (Kp.h hW).right.f10.f10.f10.f10.f10.f10.f10.f10.f10.f10) ?_
   refine ny 1 O (wM O func28 (Nl H41.f4.f4)) ?_
   rintro _ w42 ⟨u42, rfl, H42⟩
   have KL := V.kp (H42.f9.right.f9.right.f12.f12.f12.f12.f12.f12.f12.f12.f12.f12.f12.f12)
   refine dK KL (fun W hW => (Kp.h hW).right.f11.f11.f11.f11.f11.f11.f11.f9.f9.f11.f11) ?_
   refine ny 40 O (wM O func33 (F7 H42.f6.f3)) ?_
   rintro u43 w43 ⟨ams, H43⟩
   have Tc := V.kp (H43.f11.right.f11.right.f14.f14.f14.f14.f14.f14.f14.f14.f14.f14.f14.f14.f14.f14)
   refine dK Tc (fun W hW => (Kp.h hW).right.right.f12.f12.f12.f12.f12.f12.f8.f12.f12.f12.f11.f12) ?_
   refine ny 50 O (wM O func66 (CB H43.f12.f11.f11.f6)) ?_
   rintro u44 w44 H44
   have aar := V.kp (H44.f13.right.f16.f16.f16.f16.f16.f16.f16.f16.f16.f16.f16.f16.f16.f16.f16.f16)
   refine dK aar (fun W hW => (Kp.h hW).right.f4.right.f14.f14.f14.f14.f7.f7.f14.f14.f14.f14.f14.f12.f14.f14) ?_
   refine ny 52 O (wM O func67 (yI H44.f15.f14.f5.f5 hU)) ?_
   rintro _ w45 ⟨rfl, UN⟩
   have adk := V.kp (UN.f17.f17.f17.f17.f17.f17.f17.f17.f17.f17.f17.f17.f17.f17.f17.f17.f17)
   refine dK adk (fun W hW => (Kp.h hW).f3.right.f16.f16.f5.f16.f16.f16.f16.f16.f16.f16.f16.f16.f16.f15.f15.f16) ?_
   refine ny 62 O (wM O func68 (sZ UN.f15)) ?_
   rintro _ _ ⟨rfl, rfl⟩
   have agO := V.kp (UN.f17.f17.f17.f17.f17.f17.f17.f17.f17.f17.f17.f17.f17.f17.f17.f17.f17)
   refine dK agO (fun W hW => (Kp.h hW).f17.f17.f17.f17.f17.f17.f17.f17.f17.f17.f17.f17.f17.f17.f17.f17.f17) ?_
   refine dS 63 O agO (fun _ => iJ (zl := [.slice none 0 0, .int .i64 0, .int .i64 0, .int .i64 0, .bool false, .bool false, .bool false, .int .i64 0, .int .i64 0, .int .i64 0, .int .i64 0, .slice none 0 0, .int .i64 0, .slice none 0 0, .int .i64 0, .int .i64 0, .int .i64 0]) (pl := [(0, 3), (3, 1), (4, 1), (5, 1), (6, 1), (7, 1), (8, 1), (9, 1), (10, 1), (11, 1), (12, 1), (13, 1), (14, 1), (15, 1), (16, 1)]) [_, _, _, _, _, _, _, _, _, _, _, _, _, _, _, _, _] aG kW O (fun w => by kernel_rfl) O (.agg (us := [_, _, _]) (zs := [.slice none 0 0, .int .i64 0, .int .i64 0]) O O (.on (.on (.on (.on (.on (.on (.on (.on (.one (Rd.one ((UN.f8).aO)) (.on (.one (Rd.one ((UN.f5).aO)) (.on (.on (.on .nil))))))))))))))) O) ?_
   refine dF 65 O (by kernel_rfl) (dM 0 (l' := [_, _, _, _, _, _, _, _, _, _, _, _, _, _, _, _, _]) (us := [_, _, _, _, _, _, _, _, _, _, _, _, _, _, _, _, _]) UN.f13 jC O O O (bG (by first | rfl | exact Rd.one ((UN.f11).aO)) (aJ (aJ (aJ (aJ (aJ (aJ (aJ (aJ (aJ (aJ (bG (by first | rfl | exact Rd.one ((UN.f8).aO)) (aJ (bG (by first | rfl | exact Rd.one ((UN.f5).aO)) (aJ (aJ (aJ dn))))))))))))))))) O O) ?_
   rintro _ w47 H47
   have aas := V.kp (H47.f17.f17.f17.f17.f17.f17.f17.f17.f17.f17.f17.f17.f17.f17.f17.f17.f17)
   refine gU aas (by kernel_rfl) ?_
   refine lJ ?_
   refine dG (_, _, _, _, _, _) sG lH (by (try dsimp only); exact H47.f14.f17.f17.f8.f17.f12.f10.f12.f11.f15.f17.f13.f14.f16.f16.f17.f17)
end
end Go.Proofs.YtpdeedplgmbopaaGreatDoor
end
section
namespace Go.Proofs.YtpdeedplgmbopaaGreatDoor

def W9 (x : Int) : Nat := if x < 128 then 1 else if 194 ≤ x ∧ x ≤ 223 then 2 else if 224 ≤ x ∧ x ≤ 239 then 3 else if 240 ≤ x ∧ x ≤ 244 then 4 else 0
def ahW (x : Int) : Int := if x = 224 then 160 else if x = 240 then 144 else 128
def adl (x : Int) : Int := if x = 237 then 159 else if x = 244 then 143 else 191
def ahX (b : List Int) (j : Nat) : Bool := j == 0 || (decide (128 ≤ b.getD j 0 ∧ b.getD j 0 ≤ 191) && (j != 1 || decide (ahW (b.getD 0 0) ≤ b.getD 1 0 ∧ b.getD 1 0 ≤ adl (b.getD 0 0))))
def agP (b : List Int) : Nat → Bool
  | 0 => true
  | k + 1 => agP b k && ahX b k
def Np (b : List Int) : Nat × Nat := if b = [] then (0, 0) else if W9 (b.getD 0 0) = 0 then (0, 0) else if agP b (min (W9 (b.getD 0 0)) b.length) then (min (W9 (b.getD 0 0)) b.length, W9 (b.getD 0 0)) else (0, W9 (b.getD 0 0))
def ali (b : List Int) (n : Nat) : Int :=
  if n = 1 then b.getD 0 0 else if n = 2 then b.getD 0 0 % 32 * 64 + b.getD 1 0 % 64 else if n = 3 then b.getD 0 0 % 16 * 4096 + b.getD 1 0 % 64 * 64 + b.getD 2 0 % 64
  else b.getD 0 0 % 8 * 262144 + b.getD 1 0 % 64 * 4096 + b.getD 2 0 % 64 * 64 + b.getD 3 0 % 64
def ahY (b : List Int) : Bool := decide ((Np b).1 = (Np b).2 ∧ 0 < (Np b).2)
def adn (b : List Int) : Int × Nat := if ahY b then (ali b (Np b).2, (Np b).2) else (65533, 1)
def ajy (b : List Int) : Bool := decide (0 < (Np b).1 ∧ (Np b).1 < (Np b).2)
def ado : Nat → List Int → List Int
  | 0, _ => []
  | f + 1, b => if b = [] then [] else (adn b).1 :: ado f (b.drop (adn b).2)
def adp (b : List Int) : List Int := ado b.length b
def ahZ : Nat → List Int → List Int × List Int
  | 0, b => ([], b)
  | f + 1, b => if b = [] ∨ ajy b = true then ([], b) else ((adn b).1 :: (ahZ f (b.drop (adn b).2)).1, (ahZ f (b.drop (adn b).2)).2)
def Ig (b : List Int) : List Int × List Int := ahZ b.length b
def ah0 (l : List Int) : List Int := l.flatMap Lib.encodeRuneZ
def amt (b : List Int) : Prop := ∀ x ∈ b, 0 ≤ x ∧ x < 256
end Go.Proofs.YtpdeedplgmbopaaGreatDoor
end
section
namespace Go.Proofs.YtpdeedplgmbopaaGreatDoor
open Go.RowKit
section
variable {P : Program} {L : List (Nat × Value)} {w : World} {ty t t' : TypeId} {x y : Operand} {k k2 : IntKind} {m n : Int}
theorem afK (o : BinOp) {r : Value} (ho : o = .shl ∨ o = .shr) (hx : ev L x = some (.int k m)) (hy : ev L y = some (.int k2 n)) (h : (Op.shift o k m k2 n).run P w = .ok r w) : Val P L (.binOp o t x y t') ty w r w := fun ρ hρ _ _ _ _ => by
  simp only [execOp, hρ _ _ hx, hρ _ _ hy]
  have h1 : (eqGuard o t x y (.int k m) (.int k2 n)).run P w = .ok () w := by rcases ho with rfl | rfl <;> rfl
  have h2 : (binOp o t (.int k m) (.int k2 n)).run P w = .ok r w := by
    rcases ho with rfl | rfl <;> simpa [binOp] using h
  simp [h1, h2]
theorem ah1 (i : Nat) (hx : ev L x = some (.int k m)) (hy : ev L y = some (.int k2 (i : Int))) (hi : i ≤ k.bits) : Val P L (.binOp .shr t x y t') ty w (.int k (m / 2 ^ i)) w :=
  afK .shr (.inr rfl) hx hy (by unfold Op.shift; rw [if_neg (by omega), show min (i : Int).toNat k.bits = i from by omega]; show _ = _; rw [← Int.fdiv_eq_ediv_of_nonneg _ (by exact Int.le_of_lt (Int.pow_pos (by decide)))]; rfl)
theorem ajz (i : Nat) (c : Int) (hc : (2 : Int) ^ i = c) (hi : i ≤ k.bits) (hx : ev L x = some (.int k m)) (hy : ev L y = some (.int k2 (i : Int))) : Val P L (.binOp .shr t x y t') ty w (.int k (m / c)) w := by
  have := ah1 (P := P) (w := w) (ty := ty) (t := t) (t' := t') i hx hy hi
  rwa [hc] at this
theorem aat (o : BinOp) (hx : ev L x = some (.int k m)) (hy : ev L y = some (.int k n)) (ho : o = .and ∨ o = .or ∨ o = .xor ∨ o = .andNot) : Val P L (.binOp o t x y t') ty w (.int k (bits o k m n)) w :=
  ahr o hx hy ho (by rcases ho with rfl | rfl | rfl | rfl <;> rfl)
theorem Ej {n : Int} (h : -2147483648 ≤ n ∧ n < 2147483648) : IntKind.i32.wrap n = n := by rw [IntKind.wrap_i32]; omega
theorem IY {n : Int} (h : -9223372036854775808 ≤ n ∧ n < 9223372036854775808) : IntKind.i64.wrap n = n := by rw [IntKind.wrap_i64]; omega
theorem Tv {src dst : TypeId} (hx : ev L x = some (.int k m)) (hs : (P.underlying src).isSome = true) (hd : P.underlying dst = some (.int .u8)) : Val P L (.convert src dst x) ty w (.int .u8 (m % 256)) w := fun ρ hρ _ _ _ _ => by
  obtain ⟨ds, hs'⟩ := Option.isSome_iff_exists.1 hs
  simp only [execOp, hρ _ _ hx]
  simp [convert, run_underlying hs', run_underlying hd, Conv.intToInt, IntKind.wrap_u8]
theorem gB.atC (j : Nat) {b o n c : Nat} {l : List Int} (h : gB w k (.slice (some ⟨b, o, none⟩) n c) l) (hj : j < l.length) : w.cell? ⟨b, o + j * 1, none⟩ = some (.int k (l.getD j 0)) := by
  have := h.lN (i := j) hj
  rwa [Int.toNat_natCast] at this
end
def firstM (x : Nat) : Int := ((Go.Pinned.utf8FirstZ.getD x 0 : Nat) : Int)
def ajA : List (Int × Int) := [(128, 191), (160, 191), (128, 159), (144, 191), (128, 143)]
structure alR (w : World) : Prop where
  first : ∀ x : Nat, x < 256 → w.cell? ⟨0, x, none⟩ = some (.int .u8 (firstM x))
  acc : ∀ i : Nat, i < 5 → w.cell? ⟨1, i * 2, none⟩ = some (.int .u8 (ajA.getD i (0, 0)).1) ∧ w.cell? ⟨1, i * 2 + 1, none⟩ = some (.int .u8 (ajA.getD i (0, 0)).2)
section
variable {b : List Int}
theorem ok1 (h1 : ahW (b.getD 0 0) ≤ b.getD 1 0) (h2 : b.getD 1 0 ≤ adl (b.getD 0 0)) : ahX b 1 = true := by
  have : 128 ≤ b.getD 1 0 ∧ b.getD 1 0 ≤ 191 := by
    unfold ahW at h1; unfold adl at h2
    constructor
    · split at h1 <;> (try split at h1) <;> omega
    · split at h2 <;> (try split at h2) <;> omega
  unfold ahX
  simp only [Bool.or_eq_true, Bool.and_eq_true, decide_eq_true_eq]
  exact .inr ⟨this, .inr ⟨h1, h2⟩⟩
end
section
variable {w0 w : World} {F : HP} {v : Value} {b : List Int}
end
def ends (T : List (Int × Int)) : List Int := T.flatMap fun x => [x.1, x.2]
section
variable {w0 w : World} {F : HP} {r : Int}
abbrev alj : List (Int × Int) := [(48, 57), (65, 90), (97, 122)]
abbrev amu : List (Int × Int) := [(215, 215), (247, 247), (8192, 8303), (12288, 12351), (65280, 65295), (65533, 65533)]
end
section
variable {w0 w : World} {F : HP} {v : Value} {b l : List Int} {r x y : Int}
end
section
variable {w0 w : World} {F : HP} {v : Value} {b l : List Int} {r x y : Int}
end
section
variable {w0 w : World} {F : HP} {v : Value} {b l : List Int} {r x y : Int}
end
def xR (l : List Int) : Prop := ∀ x ∈ l, -2147483648 ≤ x ∧ x < 2147483648
section
variable {w0 w : World} {F : HP} {v : Value} {b l : List Int} {r x y : Int}
end
def ajB (l : List Int) : ByteArray := l.foldl (fun s n => s.push (UInt8.ofNat n.toNat)) .empty
def adq (s : ByteArray) : List Int := s.data.toList.map fun b => (b.toNat : Int)
section
variable {P : Program} {L : List (Nat × Value)} {w0 w : World} {F : HP} {ty : TypeId} {x : Operand}
end
def ah2 (hl : List wY) (tx : Int → Option ByteArray) (place : Int) (L : List Int) : ByteArray := if adp (adq (lS hl tx place)) = L then lS hl tx place else ajB (ah0 L)
section
variable {w0 w : World} {F : HP} {e pb pw pt ph : Nat} {L : List Int} {pnt mk place base most : Int} {tx : Int → Option ByteArray} {hl : List wY}
end
namespace bQ
variable (s : bQ)
def agQ : ByteArray := ah2 s.hl s.c.tx s.c.place s.c.L
def Y3 (k : Int) : List Int := adp (adq (if k = s.c.place then s.agQ else s.stands k))
def ajC (k : Int) : Int := if s.inn then (if k < 0 ∨ s.hl.length < k then 6 else if 1024 < (s.Y3 k).length then 6 else 0) else 1
def ajD (k : Int) : bQ :=
  if s.ajC k = 0 then
    let t := s.eX false
    { t with whole := false, c := { t.c with tx := zD t.c.tx t.c.place (some t.agQ), place := k, L := s.Y3 k, pt := (s.Y3 k).length, mark := -1, run := false } }
  else s
end bQ
section
variable {w0 w : World} {F : HP} {e : Nat} {s : bQ} {k : Int}
end
def bQ.alS (s : bQ) (p : Jt) : bQ := if p.kd = 13 then s.ajD p.a else s.edit p
section
variable {w0 w : World} {F : HP} {e : Nat} {s : bQ} {v : Value} {p : Jt}
end
structure Out (s : bQ) (L : List Int) (pt : Int) (G : List (List jL)) (run : Bool) : Prop where
  inn : s.inn = false
  L : s.c.L = L
  pt : s.c.pt = pt
  G : s.c.un s.c.place = G
  run : s.c.run = run
  over : s.c.over = false
structure Inn (s : bQ) (L : List Int) (pt : Int) (G : List (List jL)) (run : Bool) : Prop where
  inn : s.inn = true
  L : s.c.L = L
  pt : s.c.pt = pt
  G : s.c.un s.c.place = G
  run : s.c.run = run
  over : s.c.over = false
  put : s.put = []
  cls : s.cls = 0
  whole : s.whole = true
section
variable {s : bQ} {L : List Int} {pt : Int} {G : List (List jL)} {run : Bool} {r : Int}
theorem Out.begin (h : Out s L pt G run) : Inn s.cZ L pt G run ∧ s.FW = 0 := by
  unfold bQ.cZ bQ.FW
  rw [if_neg (by rw [h.inn]; decide), if_neg (by rw [h.inn]; decide)]
  exact ⟨⟨rfl, h.L, h.pt, h.G, h.run, h.over, rfl, rfl, rfl⟩, rfl⟩
def Xa (G : List (List jL)) (run : Bool) (x : jL) : List (List jL) := if run then (match G.getLast? with | some g => G.dropLast ++ [g ++ [x]] | none => [[x]]) else G ++ [[x]]
theorem Inn.agR (h : Inn s L pt G run) (h1 : 0 ≤ pt ∧ pt ≤ L.length) (h2 : L.length < 1024) (h3 : iK G [] < 16384) :
    s.Z9 [r] = 0 ∧ s.Gs [r] = { (s.pR (L.take pt.toNat ++ [r] ++ L.drop pt.toNat) (pt + 1) (yc L s.c.mark pt pt [r])) with put := [(pt, [], [r])], cls := 3 } := by
  have hto : s.LY [r] = pt := by unfold bQ.LY; rw [h.over]; exact h.pt
  have hE : nP L pt pt [r] = 0 := by unfold nP; rw [if_neg (by omega), if_neg (by simp; omega)]
  have hE' : s.rD s.c.pt (s.LY [r]) [r] = 0 := by unfold bQ.rD; rw [if_pos h.inn, hto, h.pt, h.L]; exact hE
  have hP : wH L pt pt pt [r] = pt + 1 := by unfold wH iP; rw [if_pos hE, if_neg (by omega), if_pos (by omega)]; rfl
  have hD : qB L pt pt [r] = [] := by unfold qB; rw [if_pos hE]; simp
  have hI : qC L pt pt [r] = [r] := by unfold qC; rw [if_pos hE]
  have hA : xK L pt pt [r] = pt := by unfold xK; rw [if_pos hE]
  have hL : nY L pt pt [r] = L.take pt.toNat ++ [r] ++ L.drop pt.toNat := by unfold nY; rw [if_pos hE]
  have hS : s.nR s.c.pt (s.LY [r]) [r] = { (s.pR (L.take pt.toNat ++ [r] ++ L.drop pt.toNat) (pt + 1) (yc L s.c.mark pt pt [r])) with put := [(pt, [], [r])] } := by
    unfold bQ.nR
    rw [if_pos h.inn, hto, h.pt, h.L, hP, hD, hI, hA, hL]
    unfold bQ.vJ
    rw [if_neg (by simp), if_neg (by
      show ¬ 16384 ≤ iK (s.c.un s.c.place) s.put
      rw [h.G, h.put]; omega)]
    show _ = _
    unfold bQ.pR
    simp only [h.put, List.nil_append]
  refine ⟨hE', ?_⟩
  unfold bQ.Gs
  rw [if_pos h.inn]
  dsimp only
  rw [if_pos ⟨hE', h.cls⟩, hS]
theorem Ih (u : bQ) (h : u.inn = true) : (u.lQ 0).c.L = u.c.L := by by_cases ha : u.argues = true <;> by_cases hp : u.put = [] <;> by_cases hc : u.cls = 2 <;> simp [bQ.lQ, bQ.mD, bQ.kR, bQ.eX, bQ.wI, bQ.lV, bQ.jr, bQ.here, jo, ha, hp, hc, h]
theorem KT (u : bQ) (h : u.inn = true) : (u.lQ 0).c.pt = u.c.pt := by by_cases ha : u.argues = true <;> by_cases hp : u.put = [] <;> by_cases hc : u.cls = 2 <;> simp [bQ.lQ, bQ.mD, bQ.kR, bQ.eX, bQ.wI, bQ.lV, bQ.jr, bQ.here, jo, ha, hp, hc, h]
theorem abw (u : bQ) (h : u.inn = true) : (u.lQ 0).c.mark = u.c.mark := by by_cases ha : u.argues = true <;> by_cases hp : u.put = [] <;> by_cases hc : u.cls = 2 <;> simp [bQ.lQ, bQ.mD, bQ.kR, bQ.eX, bQ.wI, bQ.lV, bQ.jr, bQ.here, jo, ha, hp, hc, h]
theorem ah3 (u : bQ) (h : u.inn = true) : (u.lQ 0).c.E = u.c.E := by by_cases ha : u.argues = true <;> by_cases hp : u.put = [] <;> by_cases hc : u.cls = 2 <;> simp [bQ.lQ, bQ.mD, bQ.kR, bQ.eX, bQ.wI, bQ.lV, bQ.jr, bQ.here, jo, ha, hp, hc, h]
theorem afL (u : bQ) (h : u.inn = true) : (u.lQ 0).c.at_ = u.c.at_ := by by_cases ha : u.argues = true <;> by_cases hp : u.put = [] <;> by_cases hc : u.cls = 2 <;> simp [bQ.lQ, bQ.mD, bQ.kR, bQ.eX, bQ.wI, bQ.lV, bQ.jr, bQ.here, jo, ha, hp, hc, h]
theorem Tz (u : bQ) (h : u.inn = true) : (u.lQ 0).c.over = u.c.over := by by_cases ha : u.argues = true <;> by_cases hp : u.put = [] <;> by_cases hc : u.cls = 2 <;> simp [bQ.lQ, bQ.mD, bQ.kR, bQ.eX, bQ.wI, bQ.lV, bQ.jr, bQ.here, jo, ha, hp, hc, h]
theorem Fg (u : bQ) (h : u.inn = true) : (u.lQ 0).inn = false := by by_cases ha : u.argues = true <;> by_cases hp : u.put = [] <;> by_cases hc : u.cls = 2 <;> simp [bQ.lQ, bQ.mD, bQ.kR, bQ.eX, bQ.wI, bQ.lV, bQ.jr, bQ.here, jo, ha, hp, hc, h]
theorem abx (u : bQ) (h : u.inn = true) : (u.lQ 0).c.last = u.cls := by by_cases ha : u.argues = true <;> by_cases hp : u.put = [] <;> by_cases hc : u.cls = 2 <;> simp [bQ.lQ, bQ.mD, bQ.kR, bQ.eX, bQ.wI, bQ.lV, bQ.jr, bQ.here, jo, ha, hp, hc, h]
theorem Xb (u : bQ) (h : u.inn = true) : (u.lQ 0).c.run = (u.typed && (!u.put.isEmpty || u.c.run)) := by by_cases ha : u.argues = true <;> by_cases hp : u.put = [] <;> by_cases hc : u.cls = 2 <;> simp [bQ.lQ, bQ.mD, bQ.kR, bQ.eX, bQ.wI, bQ.lV, bQ.jr, bQ.here, jo, ha, hp, hc, h]
theorem Og (u : bQ) (h : u.inn = true) : (u.lQ 0).c.un (u.lQ 0).c.place = u.jr (u.typed && u.c.run) := by by_cases ha : u.argues = true <;> by_cases hp : u.put = [] <;> by_cases hc : u.cls = 2 <;> simp [bQ.lQ, bQ.mD, bQ.kR, bQ.eX, bQ.wI, bQ.lV, bQ.jr, bQ.here, jo, ha, hp, hc, h]
theorem Inn.typed (h : Inn s L pt G run) (h1 : 0 ≤ pt ∧ pt ≤ L.length) (h2 : L.length < 1024) (h3 : iK G [] < 16384) :
    Out ((s.Gs [r]).lQ 0) (L.take pt.toNat ++ [r] ++ L.drop pt.toNat) (pt + 1) (Xa G run (pt, [], [r])) true ∧ (s.Gs [r]).BD 0 = 0 := by
  obtain ⟨_, e⟩ := h.agR (r := r) h1 h2 h3
  have hu : (s.Gs [r]).inn = true := by rw [e]; exact h.inn
  have hT : (s.Gs [r]).typed = true := by rw [e]; show (((3 : Int) == 3) && s.whole) = true; rw [h.whole]; rfl
  have hp : (s.Gs [r]).put = [(pt, [], [r])] := by rw [e]
  have hr : (s.Gs [r]).c.run = run := by rw [e]; exact h.run
  have hh : (s.Gs [r]).here = G := by rw [e]; exact h.G
  refine ⟨⟨Fg _ hu, (Ih _ hu).trans (by rw [e]; rfl), (KT _ hu).trans (by rw [e]; rfl), ?_, ?_, (Tz _ hu).trans (by rw [e]; exact h.over)⟩, by unfold bQ.BD; rw [if_pos hu]⟩
  · rw [Og _ hu, hT, hr, Bool.true_and]
    unfold bQ.jr Xa
    rw [if_neg (by rw [hp]; simp), hp, hh] <;> rfl
  · rw [Xb _ hu, hT, hp]; rfl
def TA (s : bQ) (r : Int) : bQ := (s.cZ.Gs [r]).lQ (s.cZ.Z9 [r])
theorem Out.TA (h : Out s L pt G run) (h1 : 0 ≤ pt ∧ pt ≤ L.length) (h2 : L.length < 1024) (h3 : iK G [] < 16384) :
    Out (TA s r) (L.take pt.toNat ++ [r] ++ L.drop pt.toNat) (pt + 1) (Xa G run (pt, [], [r])) true := by
  unfold Go.Proofs.YtpdeedplgmbopaaGreatDoor.TA
  rw [(h.begin.1.agR (r := r) h1 h2 h3).1]
  exact (h.begin.1.typed h1 h2 h3).1
theorem TB (hi : s.inn = true) (hL : s.c.L = L) (hpt : s.c.pt = pt) (hG : s.here = G) (ho : s.c.over = false) (hp : s.put = []) (hc : s.cls = 0) : Out (s.lQ 0) L pt G false := by
  have hT : s.typed = false := by unfold bQ.typed; rw [hc]; rfl
  refine ⟨Fg _ hi, (Ih _ hi).trans hL, (KT _ hi).trans hpt, ?_, ?_, (Tz _ hi).trans ho⟩
  · rw [Og _ hi]; unfold bQ.jr; rw [if_pos hp]; exact hG
  · rw [Xb _ hi, hT]; rfl
theorem Inn.end_ (h : Inn s L pt G run) : Out (s.lQ 0) L pt G false := TB h.inn h.L h.pt h.G h.over h.put h.cls
theorem Out.move (h : Out s L pt G run) (x : Int) (hx : 0 ≤ x ∧ x ≤ L.length) : Out ((s.cZ.wK x).lQ 0) L x G false := by
  have hb := h.begin.1
  refine Inn.end_ (s := s.cZ.wK x) (run := run) ?_
  unfold bQ.wK
  rw [if_pos hb.inn]
  refine ⟨hb.inn, hb.L, ?_, hb.G, hb.run, hb.over, hb.put, hb.cls, hb.whole⟩
  show mvP s.cZ.c.L.length s.cZ.c.pt x = x
  unfold mvP
  rw [if_pos (by rw [hb.L]; omega)]
end
end Go.Proofs.YtpdeedplgmbopaaGreatDoor
end
