import Derived.Test.YtddekefihgejoaaGreatDoorZ2
import Derived.Test.YtddekefihgejoaaGreatDoorZ14
import Derived.Test.YtddekefihgejoaaGreatDoorZ11
import Derived.Test.YtddekefihgejoaaGreatDoorZ4
set_option linter.unusedSimpArgs false
set_option linter.unusedVariables false
/- Texts of mine, joined, their names in short: EdS3 EdSt EdNone RefTab. -/
section
namespace Go.Proofs.YtddekefihgejoaaGreatDoor
open Go.RowKit
open _root_.Go.Proofs.Tryz
def Ec (s : bG) (u ks sv : Value) : List Value := [u, .int .i64 s.c.pt, .int .i64 s.c.mark, .int .i64 s.c.mode, .bool s.c.over, .bool s.given, .bool s.minus, .int .i64 s.arg, .int .i64 s.QF, .int .i64 s.ZC, .int .i64 s.ZE, ks, .int .i64 s.c.place, sv, .int .i64 s.QE, .int .i64 s.c.res, .int .i64 s.rY]
section
variable {w0 w : World} {F : HP} {e p ph pw pt pr pm pb : Nat} {s : bG} {k x place : Int} {hl : List kZ} {base most cls : Int} {tx : Int → Option ByteArray} {v pv : Value} {U : Int → List (List fB)} {L : List Int} {V4 mk : Int}
theorem Ba {x1 x2 x3 x4 x5 x6 x7 x8 x9 x10 x12 zn x14 x15 x16 x17 x18 x19 x20 x21 yE x23 x24 x25 yF x27 x28 x29 x30 x31 x32 AU : Value} (H : aB w0 w (bY e (.cells (.pointer (some ⟨pb, 0, none⟩) :: x1 :: x2 :: x3 :: x4 :: x5 :: x6 :: x7 :: x8 :: x9 :: x10 :: .pointer (some ⟨ph, 0, none⟩) :: x12 :: zn :: x14 :: x15 :: x16 :: x17 :: x18 :: x19 :: x20 :: x21 :: yE :: x23 :: x24 :: x25 :: yF :: x27 :: x28 :: x29 :: x30 :: x31 :: x32 :: AU :: []).toArray 69 (0, 0)) • dI pb L V4 mk • F)) : fE prog 32 #[.pointer (some ⟨e, 0, none⟩)] w fun v' w' =>
  ∃ u, v' = .agg (lU u V4 mk) ∧ aB w0 w' (gZ 21 .i32 u L • bY e (.cells (.pointer (some ⟨pb, 0, none⟩) :: x1 :: x2 :: x3 :: x4 :: x5 :: x6 :: x7 :: x8 :: x9 :: x10 :: .pointer (some ⟨ph, 0, none⟩) :: x12 :: zn :: x14 :: x15 :: x16 :: x17 :: x18 :: x19 :: x20 :: x21 :: yE :: x23 :: x24 :: x25 :: yF :: x27 :: x28 :: x29 :: x30 :: x31 :: x32 :: AU :: []).toArray 69 (0, 0)) • dI pb L V4 mk • F) := by
 refine gy func32 ntmps32 ?_
 dsimp only [aY, Nat.reduceAdd]
 refine ay (ah (gq (bU (l := [_, _, _]) H zeroValue41 rfl) ?_))
 rintro _ w1 ⟨b1, rfl, H1⟩
 refine aA (aj (ay (ay (ah (aN rfl (dw rfl func54 (wJ H1.f2) ?_))))))
 rintro _ _ ⟨rfl, rfl⟩
 refine aA (aj (pJ (aT (aj (ay (ah (aN rfl (bP rfl (bg 0 underlying69 rfl sizeOf64 rfl (bg 0 underlying64 rfl sizeOf59 rfl (dO underlying59 rfl (H1.f2).get.2 rfl (dw rfl func74 (yQ H1.f3) ?_))))))))))))
 rintro _ w3 ⟨u3, rfl, H3⟩
 refine aG (bn 0 (l' := [_, _, _]) (us := [_, _, _]) H3.f3 sizeOf41 rfl rfl rfl (aC (by first | rfl | exact Rd.one ((H3).aO)) (aC (by first | rfl | assumption) (aC (by first | rfl | assumption) aZ))) rfl rfl) ?_
 rintro _ w4 H4
 refine aA (aj (aJ ?_))
 refine jM (.inl rfl) (CX results32 rfl underlying41 rfl (by rw [show (prog.info? 41).map (·.size) = some 3 from by kernel_rfl]; rfl) (H4).get.2) ?_
 exact ⟨_, rfl, H4.right.f2.f3.f3⟩
theorem qE {x0 x1 x3 x4 x5 x6 x7 x8 x9 x10 x12 zn x14 x15 x16 x17 x18 x19 x20 x21 yE x23 x24 x25 yF x27 x28 x29 x30 x31 x32 AU : Value} (H : aB w0 w (bY e (.cells (x0 :: x1 :: .pointer (some ⟨pw, 0, none⟩) :: x3 :: x4 :: x5 :: x6 :: x7 :: x8 :: x9 :: x10 :: .pointer (some ⟨ph, 0, none⟩) :: x12 :: zn :: x14 :: x15 :: x16 :: x17 :: x18 :: x19 :: x20 :: x21 :: yE :: x23 :: x24 :: x25 :: yF :: x27 :: x28 :: x29 :: x30 :: x31 :: x32 :: AU :: []).toArray 69 (0, 0)) • bY pw (.cells #[.int .i64 place, .map (some pt)] 125 (0, 0)) • dQ kW pt (kX tx) • dh ph hl base most • F)) :
    fE prog 56 #[.pointer (some ⟨e, 0, none⟩)] w fun v' w' => aB w0 w' (Row 106 2 v' (kU hl tx place).length ((kU hl tx place).flatMap Fv) •
      bY e (.cells (x0 :: x1 :: .pointer (some ⟨pw, 0, none⟩) :: x3 :: x4 :: x5 :: x6 :: x7 :: x8 :: x9 :: x10 :: .pointer (some ⟨ph, 0, none⟩) :: x12 :: zn :: x14 :: x15 :: x16 :: x17 :: x18 :: x19 :: x20 :: x21 :: yE :: x23 :: x24 :: x25 :: yF :: x27 :: x28 :: x29 :: x30 :: x31 :: x32 :: AU :: []).toArray 69 (0, 0)) • bY pw (.cells #[.int .i64 place, .map (some pt)] 125 (0, 0)) • dQ kW pt (kX tx) • dh ph hl base most • F) := by
  have hb : hl.length ≤ 4096 := by obtain ⟨v, h, _⟩ := H.r4.hist; exact h.1
  refine gy func56 ntmps56 ?_
  dsimp only [aY, Nat.reduceAdd]
  refine ay (ah (aV rfl (aA (aj (ay (ah (aV rfl (aA (aj (ay (ah (aN rfl (bP rfl (bg 11 underlying69 rfl sizeOf65 rfl (dO underlying65 rfl (H).get.2 rfl (dw rfl func84 (jq H.f4) ?_))))))))))))))))
  rintro _ w1 ⟨rfl, H1⟩
  refine aV rfl (aA (aj (ay (ay (ah (aN rfl (aN rfl (aA (aj (bf ?_))))))))))
  refine fH [(0, _), (4, _), (11, _)] (fun (⟨i, u⟩ : Nat × Value) => [(3, u), (12, .int .i64 (i : Int))]) (fun (⟨i, u⟩ : Nat × Value) W => i ≤ hl.length ∧ aB w0 W (Row 106 2 u (jB hl tx place i).length ((jB hl tx place i).flatMap Fv) • bY e (.cells (x0 :: x1 :: .pointer (some ⟨pw, 0, none⟩) :: x3 :: x4 :: x5 :: x6 :: x7 :: x8 :: x9 :: x10 :: .pointer (some ⟨ph, 0, none⟩) :: x12 :: zn :: x14 :: x15 :: x16 :: x17 :: x18 :: x19 :: x20 :: x21 :: yE :: x23 :: x24 :: x25 :: yF :: x27 :: x28 :: x29 :: x30 :: x31 :: x32 :: AU :: []).toArray 69 (0, 0)) • bY pw (.cells #[.int .i64 place, .map (some pt)] 125 (0, 0)) • dQ kW pt (kX tx) • dh ph hl base most • F)) (fun (⟨i, u⟩ : Nat × Value) => hl.length - i) ((0, .slice none 0 0)) (Sub.cons rfl (Sub.cons rfl (Sub.cons rfl (Sub.nil _)))) (Sub.cons rfl (Sub.cons rfl (Sub.nil _))) ⟨by omega, H1.f4.f4.f4.ig none⟩ ?_
  rintro ⟨i, u⟩ w2 ⟨hi, HL⟩
  dsimp only [List.cons_append, List.nil_append]
  refine ay (ah (aU (eu rfl rfl) (aA (aj (ay (aP rfl (fun h1 => ?_) (fun h1 => ?_)))))))
  · (try simp only [aI] at h1)
    refine aT (aj (ay (bf (ay (ah (aN rfl (aV rfl (aA (aj (ay ?_))))))))))
    have hLen := lY hl tx place i
    refine ah (aN rfl (aN rfl (bP rfl (bg 0 underlying69 rfl sizeOf64 rfl (bg 2 underlying64 rfl sizeOf61 rfl (dO underlying61 rfl (HL.f2).get.2 rfl (bP rfl (bg 0 underlying125 rfl sizeOf3 rfl (dO underlying3 rfl (HL.f3).get.2 rfl (aU (dZ rfl rfl) (jy rfl (fun h2 => ?_) (fun h2 => ?_))))))))))))
    · (try simp only [aI] at h2)
      have hpl := h2
      refine bC (aN rfl (bC (aN rfl (bC (dw rfl func86 (lH HL.f5.f5.f5.f5) ?_)))))
      rintro _ w3 ⟨rfl, H3⟩
      refine bC (aN rfl (bC (aN rfl (bC (dw rfl func116 (zq H3.f4.f2) ?_)))))
      rintro _ w4 ⟨rfl, H4⟩
      refine bC (aU (NH rfl rfl) (jw rfl rfl (aA (aj (aP rfl (fun h3 => ?_) (fun h3 => ?_))))))
      · (try simp only [aI] at h3)
        have hsv := Ju (hl := hl) (tx := tx) (place := place) (i := i) (by unfold oO; rw [decide_eq_true hpl]; simpa using h3)
        refine ah (aN rfl (aN rfl (aN rfl (aN rfl (dw rfl func86 (lH H4.f2.f4.f4.f4) ?_)))))
        rintro _ w5 ⟨rfl, H5⟩
        refine aU (cO (zl := [.int .i64 0, .string .empty]) (pl := [(0, 1), (1, 1)]) [_, _] underlying106 zeroValue106 rfl (fun w => by kernel_rfl) rfl (.one (by first | rfl | assumption) (.one (by first | rfl | assumption) .nil)) rfl) ?_
        refine gq (lV H5 underlying42 sizeOf106 zeroValue106 rfl rfl rfl (by decide) (by decide)) ?_
        rintro l6 w6 H6
        refine gq (fF H6.f6 underlying42 (show (prog.info? 106).map (fun i => (i.zero, i.size, i.bytes)) = some (some (.agg #[.int .i64 0, .string .empty]), 2, 24) by kernel_rfl) rfl rfl rfl ((H6).aO) (aC (by first | rfl | assumption) (aC (by first | rfl | assumption) aZ)) (by omega) (by omega)) ?_
        rintro l7 w7 H7
        have Y7 := H7.f2.right
        refine aV rfl (aA (aH (aj (ah (aU (dS rfl rfl (by omega)) (aN rfl (aA ?_)))))))
        have hLen := lY hl tx place i
        refine dA ((i + 1, l7)) ?_ ?_ ?_ ?_
        · exact (Sub.cons rfl (Sub.cons rfl (Sub.nil _)))
        · exact (Sub.cons rfl (Sub.cons rfl (Sub.cons rfl (Sub.nil _))))
        · (try dsimp only)
          first | done | exact ⟨by omega, by first | (rw [hsv, List.length_append, List.flatMap_append]; exact Y7.f5.f5.f5.f5.f5) | (rw [hsv]; exact Y7.f5.f5.f5.f5.f5)⟩
        · (try dsimp only); omega
      · (try simp only [aI] at h3)
        have hsv := Ea (hl := hl) (tx := tx) (place := place) (i := i) (by unfold oO; rw [decide_eq_true hpl]; simpa using h3)
        refine aT (aH (aj (ah (aU (dS rfl rfl (by omega)) (aN rfl (aA ?_))))))
        have hLen := lY hl tx place i
        refine dA ((i + 1, u)) ?_ ?_ ?_ ?_
        · exact (Sub.cons rfl (Sub.cons rfl (Sub.nil _)))
        · exact (Sub.cons rfl (Sub.cons rfl (Sub.cons rfl (Sub.nil _))))
        · (try dsimp only)
          first | done | exact ⟨by omega, by first | (rw [hsv, List.length_append, List.flatMap_append]; exact H4.f2.f4.f4.f4.f5) | (rw [hsv]; exact H4.f2.f4.f4.f4.f5)⟩
        · (try dsimp only); omega
    · (try simp only [aI] at h2)
      have hsv := Ea (hl := hl) (tx := tx) (place := place) (i := i) (by unfold oO; rw [decide_eq_false (by simpa using h2)]; rfl)
      refine bF (bF (bF (bF (bF (bF (bF (iU rfl rfl (aA (aj (pJ (aT (aH (aj (ah (aU (dS rfl rfl (by omega)) (aN rfl (aA ?_)))))))))))))))))
      have hLen := lY hl tx place i
      refine dA ((i + 1, u)) ?_ ?_ ?_ ?_
      · exact (Sub.cons rfl (Sub.cons rfl (Sub.nil _)))
      · exact (Sub.cons rfl (Sub.cons rfl (Sub.cons rfl (Sub.nil _))))
      · (try dsimp only)
        first | done | exact ⟨by omega, by first | (rw [hsv, List.length_append, List.flatMap_append]; exact HL.f5.f5.f5.f5.f5) | (rw [hsv]; exact HL.f5.f5.f5.f5.f5)⟩
      · (try dsimp only); omega
  · (try simp only [aI] at h1)
    refine dL (aW ?_)
    obtain rfl : i = hl.length := by omega
    refine aW (bD (aj (ay (ay ?_))))
    have hLen := lY hl tx place hl.length
    refine ah (aN rfl (bP rfl (bg 0 underlying69 rfl sizeOf64 rfl (bg 2 underlying64 rfl sizeOf61 rfl (dO underlying61 rfl (HL.f2).get.2 rfl (bP rfl (bg 0 underlying125 rfl sizeOf3 rfl (dO underlying3 rfl (HL.f3).get.2 rfl (aN rfl (aU (dZ rfl rfl) (aA (aj (aP rfl (fun h4 => ?_) (fun h4 => ?_))))))))))))))
    · (try simp only [aI] at h4)
      have hsv : kU hl tx place = jB hl tx place hl.length ++ [((hl.length : Int), eY hl tx hl.length)] := by unfold kU; rw [if_pos h4]
      refine ah (aN rfl (aN rfl (aN rfl (aN rfl (dw rfl func86 (lH HL.f5.f5.f5.f5) ?_)))))
      rintro _ w9 ⟨rfl, H9⟩
      refine aU (cO (zl := [.int .i64 0, .string .empty]) (pl := [(0, 1), (1, 1)]) [_, _] underlying106 zeroValue106 rfl (fun w => by kernel_rfl) rfl (.one (by first | rfl | assumption) (.one (by first | rfl | assumption) .nil)) rfl) ?_
      refine gq (lV H9 underlying42 sizeOf106 zeroValue106 rfl rfl rfl (by decide) (by decide)) ?_
      rintro l10 w10 qH
      refine gq (fF qH.f6 underlying42 (show (prog.info? 106).map (fun i => (i.zero, i.size, i.bytes)) = some (some (.agg #[.int .i64 0, .string .empty]), 2, 24) by kernel_rfl) rfl rfl rfl ((qH).aO) (aC (by first | rfl | assumption) (aC (by first | rfl | assumption) aZ)) (by omega) (by omega)) ?_
      rintro XI Hr uQ
      have EF := uQ.f2.right
      refine aV rfl (aA (aj (ay (ah (aN rfl (aV rfl (aA (aj (aJ (aQ (.inl rfl) results56 rfl ?_))))))))))
      first
        | (rw [hsv, List.length_append, List.flatMap_append]; exact EF.f5.f5.f5.f5.f5)
        | (rw [hsv]; exact EF.f5.f5.f5.f5.f5)
    · (try simp only [aI] at h4)
      have hsv : kU hl tx place = jB hl tx place hl.length := by unfold kU; rw [if_neg (by simpa using h4), List.append_nil]
      refine aT (aj (ay (ah (aN rfl (aV rfl (aA (aj (aJ (aQ (.inl rfl) results56 rfl ?_)))))))))
      first
        | (rw [hsv, List.length_append, List.flatMap_append]; exact HL.f5.f5.f5.f5.f5)
        | (rw [hsv]; exact HL.f5.f5.f5.f5.f5)
theorem OE {u0 u1 u2 u3 u4 u5 u6 u7 u8 u9 ua : Value} (hin : s.inn = true) (H : aB w0 w (rF s.inn s.was [u0, u1, u2, u3, u4, u5, u6, u7, u8, u9, ua] • F)) : u6 = .int .i64 s.was.last ∧ u7 = .int .i64 s.was.fr ∧ u8 = .int .i64 s.was.to := by
  rw [hin] at H
  obtain ⟨qb, qr, qw, qt, qm, hu, -⟩ := H.was
  simp only [Jg, List.cons.injEq, and_true] at hu
  exact ⟨hu.2.2.2.2.2.2.1, hu.2.2.2.2.2.2.2.1, hu.2.2.2.2.2.2.2.2.1⟩
set_option maxHeartbeats 1000000 in
theorem vM (H : aB w0 w (dK e s • F)) : fE prog 16 #[.pointer (some ⟨e, 0, none⟩)] w fun v w' => ∃ u ks us sv, v = .agg (Ec s u ks sv).toArray ∧
  aB w0 w' (gZ 21 .i32 u s.c.L • Row 23 1 ks s.c.E.length us • BL 21 .i32 us (sG s.c.E s.c.at_) • Row 106 2 sv s.saved.length (s.saved.flatMap Fv) • dK e s • F) := by
 refine gy func16 ntmps16 ?_
 dsimp only [aY, Nat.reduceAdd]
 obtain ⟨qj, ql, qo, qp, qx, qy, qA, qB, nY, mD, mF, mG, mJ, mM, mO, mP, mQ, mV, mW, mX, dF, bK, gV, dY⟩ := (H).DR
 have hU : (s.c.un s.c.place).length ≤ 16384 := by
  obtain ⟨D, P, hD1, hD2, HU⟩ := (dY.f6).QJ
  by_cases hm : s.c.place ∈ D
  ·have HF := HU.swap
   rw [lX hm] at HF
   obtain ⟨_, _, _, _, k1, _⟩ := HF.flat.pU
   have := k1.len; simpa using this
  ·rw [hD2 _ hm]; decide
 refine ay (ah (gq (bU (l := [_, _, _, _, _, _, _, _, _, _, _, _, _, _, _, _, _]) dY zeroValue44 rfl) ?_))
 rintro _ w2 ⟨b2, rfl, H2⟩
 refine aA (aj (ay (ay (ah (aN rfl (dw rfl func54 (wJ H2.f2) ?_))))))
 rintro _ _ ⟨rfl, rfl⟩
 refine aA (aj (pJ (aT (aj ?_))))
 refine rO [(0, _)] (fun (⟨r, q, u, ks, sv, us⟩ : Nat × Nat × Value × Value × Value × List Value) => [(2, .pointer (some ⟨r, 0, none⟩)), (3, .pointer (some ⟨q, 0, none⟩))]) (fun (⟨r, q, u, ks, sv, us⟩ : Nat × Nat × Value × Value × Value × List Value) W => aB w0 W (bY q (.cells (u :: .int .i64 s.c.pt :: .int .i64 s.c.mark :: .int .i64 s.c.mode :: .bool s.c.over :: .bool s.given :: .bool s.minus :: .int .i64 s.arg :: .int .i64 s.c.last :: .int .i64 s.c.fr :: .int .i64 s.c.to :: ks :: .int .i64 s.c.place :: sv :: .int .i64 s.QE :: .int .i64 s.c.res :: .int .i64 s.rY :: []).toArray 44 (0, 0)) • gZ 21 .i32 u s.c.L • Row 23 1 ks s.c.E.length us • BL 21 .i32 us (sG s.c.E s.c.at_) • Row 106 2 sv s.saved.length (s.saved.flatMap Fv) • bY e (.cells (.pointer (some ⟨qj, 0, none⟩) :: .pointer (some ⟨ql, 0, none⟩) :: .pointer (some ⟨qo, 0, none⟩) :: .map (some qx) :: .int .i64 s.c.mode :: .bool s.c.over :: .int .i64 s.c.last :: .int .i64 s.c.fr :: .int .i64 s.c.to :: .int .i64 s.c.res :: .bool s.c.run :: .pointer (some ⟨qy, 0, none⟩) :: .pointer (some ⟨qA, 0, none⟩) :: .bool s.given :: .bool s.minus :: .int .i64 s.arg :: .bool s.inn :: mD :: mF :: mG :: mJ :: mM :: mO :: mP :: mQ :: mV :: mW :: mX :: .int .i64 s.cls :: .bool s.killed :: .bool s.lQ :: .bool s.argues :: .bool s.whole :: qB :: []).toArray 69 (0, 0)) • dI qj s.c.L s.c.pt s.c.mark • dU ql s.c.E s.c.at_ • bY qo (.cells #[.int .i64 s.c.place, .map (some qp)] 125 (0, 0)) • dQ kW qp (kX s.c.tx) • pF qx s.c.un • dh qy s.hl s.base s.most • bY qA (.cells #[.int .i64 s.rY] 144 (0, 0)) • Row 202 3 qB s.put.length (nY.flatMap dn.enc) • jh nY • rF s.inn s.was [mD, mF, mG, mJ, mM, mO, mP, mQ, mV, mW, mX] • bY r (.cells (.slice none 0 0 :: .int .i64 0 :: .int .i64 0 :: .int .i64 0 :: .bool false :: .bool false :: .bool false :: .int .i64 0 :: .int .i64 0 :: .int .i64 0 :: .int .i64 0 :: .slice none 0 0 :: .int .i64 0 :: .slice none 0 0 :: .int .i64 0 :: .int .i64 0 :: .int .i64 0 :: []).toArray 44 (0, 0)) • F)) (Sub.cons rfl (Sub.nil _)) ?_ ?_
 ·rintro ⟨r, q, u, ks, sv, us⟩ w4 HJ
  dsimp only [List.cons_append, List.nil_append]
  refine ay (ay (ah (aN rfl (bP rfl (bg 16 underlying69 rfl sizeOf4 rfl (dO underlying4 rfl (HJ.f6).get.2 rfl (aA (aj (aP rfl (fun h1 => ?_) (fun h1 => ?_))))))))))
  ·(try simp only [aI] at h1)
   have hin := h1
   obtain ⟨rfl, rfl, rfl⟩ := OE hin HJ.f16
   have Ru := HJ.drew
   have jg := aB.kp (Ru.right.f16.f16.f16.f16.f16.f16.f16.f16.f16.f16.f16.f16.f16.f16.f16.f16)
   refine vV [4, 9, 14] jg rfl (gQ 0 rfl jg rfl (iQ 1 rfl jg rfl (dR 2 rfl jg 17 underlying69 rfl sizeOf64 rfl (dR 3 rfl jg 6 underlying64 rfl sizeOf3 rfl (gY 4 rfl jg (fun W hW => iH underlying3 rfl ((Kp.h hW).f5).get.2 rfl) (gQ 5 rfl jg rfl (iQ 6 rfl jg rfl (dR 7 rfl jg 17 underlying69 rfl sizeOf64 rfl (dR 8 rfl jg 7 underlying64 rfl sizeOf3 rfl (gY 9 rfl jg (fun W hW => iH underlying3 rfl ((Kp.h hW).f5).get.2 rfl) (gQ 10 rfl jg rfl (iQ 11 rfl jg rfl (dR 12 rfl jg 17 underlying69 rfl sizeOf64 rfl (dR 13 rfl jg 8 underlying64 rfl sizeOf3 rfl (gY 14 rfl jg (fun W hW => iH underlying3 rfl ((Kp.h hW).f5).get.2 rfl) (dR 15 rfl jg 8 underlying44 rfl sizeOf3 rfl ?_))))))))))))))))
   refine dJ 16 rfl (by kernel_rfl) (aS 8 (l' := [_, _, _, _, _, _, _, _, _, _, _, _, _, _, _, _, _]) Ru sizeOf3 rfl rfl (by first | rfl | assumption) rfl rfl) ?_
   rintro _ w5 H5
   have uq := aB.kp (H5.right.f16.f16.f16.f16.f16.f16.f16.f16.f16.f16.f16.f16.f16.f16.f16.f16)
   refine bT uq (fun W hW => (Kp.h hW).f16.f16.f16.f16.f16.f16.f16.f16.f16.f16.f16.f16.f16.f16.f16.f16) ?_
   refine dR 17 rfl uq 9 underlying44 rfl sizeOf3 rfl ?_
   refine dJ 18 rfl (by kernel_rfl) (aS 9 (l' := [_, _, _, _, _, _, _, _, _, _, _, _, _, _, _, _, _]) H5 sizeOf3 rfl rfl (by first | rfl | assumption) rfl rfl) ?_
   rintro _ w6 H6
   have BJ := aB.kp (H6.f17.f17.f17.f17.f17.f17.f17.f17.f17.f17.f17.f17.f17.f17.f17.f17.f17)
   refine bT BJ (fun W hW => (Kp.h hW).right.f16.f16.f16.f16.f16.f16.f16.f16.f16.f16.f16.f16.f16.f16.f16.f16) ?_
   refine dR 19 rfl BJ 10 underlying44 rfl sizeOf3 rfl ?_
   refine dJ 20 rfl (by kernel_rfl) (aS 10 (l' := [_, _, _, _, _, _, _, _, _, _, _, _, _, _, _, _, _]) H6 sizeOf3 rfl rfl (by first | rfl | assumption) rfl rfl) ?_
   rintro _ w7 H7
   have xq := aB.kp (H7.f17.f17.f17.f17.f17.f17.f17.f17.f17.f17.f17.f17.f17.f17.f17.f17.f17)
   refine dN xq (by kernel_rfl) ?_
   refine nT (aj (ay (ah (aU (bQ underlying44 rfl sizeOf44 rfl rfl (H7).get.2) (aG (bn 0 (l' := [_, _, _, _, _, _, _, _, _, _, _, _, _, _, _, _, _]) (us := [_, _, _, _, _, _, _, _, _, _, _, _, _, _, _, _, _]) H7.f17 sizeOf44 rfl rfl rfl (aC (by first | rfl | exact Rd.one ((H7.f2).aO)) (aC (by first | rfl | assumption) (aC (by first | rfl | assumption) (aC (by first | rfl | assumption) (aC (by first | rfl | assumption) (aC (by first | rfl | assumption) (aC (by first | rfl | assumption) (aC (by first | rfl | assumption) (aC (by first | rfl | assumption) (aC (by first | rfl | assumption) (aC (by first | rfl | assumption) (aC (by first | rfl | exact Rd.one ((H7.f3).aO)) (aC (by first | rfl | assumption) (aC (by first | rfl | exact Rd.one ((H7.f5).aO)) (aC (by first | rfl | assumption) (aC (by first | rfl | assumption) (aC (by first | rfl | assumption) aZ))))))))))))))))) rfl rfl) ?_)))))
   rintro _ w8 H8
   refine aA (aj (aJ ?_))
   refine jM (.inl rfl) (CX results16 rfl underlying44 rfl (by rw [show (prog.info? 44).map (·.size) = some 17 from by kernel_rfl]; rfl) (H8).get.2) ?_
   have Qw := H8.f17.f17.f17.f17.f17.f17.f17.f17.f17.f17.f17
   have Qx := aB.dW (s := s) dF bK Qw
   refine ⟨u, ks, us, sv, ?_, Qx.f2.right.f2.right.f5.f5.f5.f5⟩
   unfold Ec bG.QF bG.ZC bG.ZE
   rw [hin]
   rfl
  ·(try simp only [aI] at h1)
   have hin := h1
   refine aT (aj (ay (ah (aU (bQ underlying44 rfl sizeOf44 rfl rfl (HJ).get.2) (aG (bn 0 (l' := [_, _, _, _, _, _, _, _, _, _, _, _, _, _, _, _, _]) (us := [_, _, _, _, _, _, _, _, _, _, _, _, _, _, _, _, _]) HJ.f17 sizeOf44 rfl rfl rfl (aC (by first | rfl | exact Rd.one ((HJ.f2).aO)) (aC (by first | rfl | assumption) (aC (by first | rfl | assumption) (aC (by first | rfl | assumption) (aC (by first | rfl | assumption) (aC (by first | rfl | assumption) (aC (by first | rfl | assumption) (aC (by first | rfl | assumption) (aC (by first | rfl | assumption) (aC (by first | rfl | assumption) (aC (by first | rfl | assumption) (aC (by first | rfl | exact Rd.one ((HJ.f3).aO)) (aC (by first | rfl | assumption) (aC (by first | rfl | exact Rd.one ((HJ.f5).aO)) (aC (by first | rfl | assumption) (aC (by first | rfl | assumption) (aC (by first | rfl | assumption) aZ))))))))))))))))) rfl rfl) ?_)))))
   rintro _ w12 uf
   refine aA (aj (aJ ?_))
   refine jM (.inl rfl) (CX results16 rfl underlying44 rfl (by rw [show (prog.info? 44).map (·.size) = some 17 from by kernel_rfl]; rfl) (uf).get.2) ?_
   have QS := uf.f17.f17.f17.f17.f17.f17.f17.f17.f17.f17.f17
   have QT := aB.dW (s := s) dF bK QS
   refine ⟨u, ks, us, sv, ?_, QT.f2.right.f2.right.f5.f5.f5.f5⟩
   unfold Ec bG.QF bG.ZC bG.ZE
   rw [hin]
   rfl
 ·skip
  have Rw := H2.drew
  have bV := aB.kp (Rw.f7.right.f7.right.f10.f10.f10.f10.f10.f10.f10.f10.f10.f10)
  refine vV [6, 11, 15, 19, 23, 28, 33, 38, 45, 48, 57, 61] bV rfl (gQ 0 rfl bV rfl (gQ 2 rfl bV rfl (iQ 3 rfl bV rfl (dR 4 rfl bV 0 underlying69 rfl sizeOf64 rfl (dR 5 rfl bV 4 underlying64 rfl sizeOf3 rfl (gY 6 rfl bV (fun W hW => iH underlying3 rfl ((Kp.h hW).f2).get.2 rfl) (gQ 7 rfl bV rfl (iQ 8 rfl bV rfl (dR 9 rfl bV 0 underlying69 rfl sizeOf64 rfl (dR 10 rfl bV 5 underlying64 rfl sizeOf4 rfl (gY 11 rfl bV (fun W hW => iH underlying4 rfl ((Kp.h hW).f2).get.2 rfl) (gQ 12 rfl bV rfl (iQ 13 rfl bV rfl (dR 14 rfl bV 13 underlying69 rfl sizeOf4 rfl (gY 15 rfl bV (fun W hW => iH underlying4 rfl ((Kp.h hW).f2).get.2 rfl) (gQ 16 rfl bV rfl (iQ 17 rfl bV rfl (dR 18 rfl bV 14 underlying69 rfl sizeOf4 rfl (gY 19 rfl bV (fun W hW => iH underlying4 rfl ((Kp.h hW).f2).get.2 rfl) (gQ 20 rfl bV rfl (iQ 21 rfl bV rfl (dR 22 rfl bV 15 underlying69 rfl sizeOf3 rfl (gY 23 rfl bV (fun W hW => iH underlying3 rfl ((Kp.h hW).f2).get.2 rfl) (gQ 24 rfl bV rfl (iQ 25 rfl bV rfl (dR 26 rfl bV 0 underlying69 rfl sizeOf64 rfl (dR 27 rfl bV 6 underlying64 rfl sizeOf3 rfl (gY 28 rfl bV (fun W hW => iH underlying3 rfl ((Kp.h hW).f2).get.2 rfl) (gQ 29 rfl bV rfl (iQ 30 rfl bV rfl (dR 31 rfl bV 0 underlying69 rfl sizeOf64 rfl (dR 32 rfl bV 7 underlying64 rfl sizeOf3 rfl (gY 33 rfl bV (fun W hW => iH underlying3 rfl ((Kp.h hW).f2).get.2 rfl) (gQ 34 rfl bV rfl (iQ 35 rfl bV rfl (dR 36 rfl bV 0 underlying69 rfl sizeOf64 rfl (dR 37 rfl bV 8 underlying64 rfl sizeOf3 rfl (gY 38 rfl bV (fun W hW => iH underlying3 rfl ((Kp.h hW).f2).get.2 rfl) (gQ 39 rfl bV rfl ?_)))))))))))))))))))))))))))))))))))))))
  refine gQ 41 rfl bV rfl (iQ 42 rfl bV rfl (dR 43 rfl bV 0 underlying69 rfl sizeOf64 rfl (dR 44 rfl bV 2 underlying64 rfl sizeOf61 rfl (gY 45 rfl bV (fun W hW => iH underlying61 rfl ((Kp.h hW).f2).get.2 rfl) (iQ 46 rfl bV rfl (dR 47 rfl bV 0 underlying125 rfl sizeOf3 rfl (gY 48 rfl bV (fun W hW => iH underlying3 rfl ((Kp.h hW).f5).get.2 rfl) (gQ 49 rfl bV rfl (gQ 51 rfl bV rfl (gQ 53 rfl bV rfl (iQ 54 rfl bV rfl (dR 55 rfl bV 0 underlying69 rfl sizeOf64 rfl (dR 56 rfl bV 9 underlying64 rfl sizeOf3 rfl (gY 57 rfl bV (fun W hW => iH underlying3 rfl ((Kp.h hW).f2).get.2 rfl) (gQ 58 rfl bV rfl (iQ 59 rfl bV rfl (dR 60 rfl bV 12 underlying69 rfl sizeOf66 rfl (gY 61 rfl bV (fun W hW => iH underlying66 rfl ((Kp.h hW).f2).get.2 rfl) ?_))))))))))))))))))
  refine sO (i := 1) (j := 64) (by kernel_rfl) ?_ ?_
  ·skip
   refine gU 1 rfl (by kernel_rfl) (qL (qO rfl func32 rfl rfl) (Ba Rw.f3.f3)) (lT rfl) ?_
   rintro _ w16 ⟨u16, rfl, qY⟩
   have y8 := aB.kp (qY.f8.right.f8.right.f11.f11.f11.f11.f11.f11.f11.f11.f11.f11.f11)
   refine bT y8 (fun W hW => (Kp.h hW).right.f10.f10.f10.f10.f10.f10.f10.f9.f9.f10) ?_
   refine sO (i := 40) (j := 64) (by kernel_rfl) ?_ ?_
   ·skip
    refine gU 40 rfl (by kernel_rfl) (qL (qO rfl func55 rfl rfl) (vK qY.f5.f3)) (lT rfl) ?_
    rintro u17 Tz ⟨aci, yC⟩
    have xE := aB.kp (yC.f10.right.f10.right.f13.f13.f13.f13.f13.f13.f13.f13.f13.f13.f13.f13.f13)
    refine bT xE (fun W hW => (Kp.h hW).right.right.f11.f11.f11.f11.f11.f11.f8.f11.f11.f10.f11) ?_
    refine sO (i := 50) (j := 64) (by kernel_rfl) ?_ ?_
    ·skip
     refine gU 50 rfl (by kernel_rfl) (qL (qO rfl func56 rfl rfl) (qE yC.f11.f10.f10.f6)) (lT rfl) ?_
     rintro u18 Sv zB
     have yZ := aB.kp (zB.f12.right.f15.f15.f15.f15.f15.f15.f15.f15.f15.f15.f15.f15.f15.f15.f15)
     refine bT yZ (fun W hW => (Kp.h hW).right.f4.right.f13.f13.f13.f13.f7.f7.f13.f13.f13.f13.f11.f13.f13) ?_
     refine sO (i := 52) (j := 64) (by kernel_rfl) ?_ ?_
     ·skip
      refine gU 52 rfl (by kernel_rfl) (qL (qO rfl func57 rfl rfl) (lI zB.f14.f13.f5.f5 hU)) (lT rfl) ?_
      rintro _ PZ ⟨rfl, uY⟩
      have Jd := aB.kp (uY.f16.f16.f16.f16.f16.f16.f16.f16.f16.f16.f16.f16.f16.f16.f16.f16)
      refine bT Jd (fun W hW => (Kp.h hW).f3.right.f15.f15.f5.f15.f15.f15.f15.f15.f15.f15.f15.f15.f14.f14.f15) ?_
      refine sO (i := 62) (j := 64) (by kernel_rfl) ?_ ?_
      ·skip
       refine gU 62 rfl (by kernel_rfl) (qL (qO rfl func58 rfl rfl) (jZ uY.f14)) (lT rfl) ?_
       rintro _ _ ⟨rfl, rfl⟩
       have zh := aB.kp (uY.f16.f16.f16.f16.f16.f16.f16.f16.f16.f16.f16.f16.f16.f16.f16.f16)
       refine bT zh (fun W hW => (Kp.h hW).f16.f16.f16.f16.f16.f16.f16.f16.f16.f16.f16.f16.f16.f16.f16.f16) ?_
       refine iJ 63 rfl zh (fun _ => cO (zl := [.slice none 0 0, .int .i64 0, .int .i64 0, .int .i64 0, .bool false, .bool false, .bool false, .int .i64 0, .int .i64 0, .int .i64 0, .int .i64 0, .slice none 0 0, .int .i64 0, .slice none 0 0, .int .i64 0, .int .i64 0, .int .i64 0]) (pl := [(0, 3), (3, 1), (4, 1), (5, 1), (6, 1), (7, 1), (8, 1), (9, 1), (10, 1), (11, 1), (12, 1), (13, 1), (14, 1), (15, 1), (16, 1)]) [_, _, _, _, _, _, _, _, _, _, _, _, _, _, _, _, _] underlying44 zeroValue44 rfl (fun w => by kernel_rfl) rfl (.agg (us := [_, _, _]) (zs := [.slice none 0 0, .int .i64 0, .int .i64 0]) rfl rfl (.one (by first | rfl | assumption) (.one (by first | rfl | assumption) (.one (by first | rfl | assumption) (.one (by first | rfl | assumption) (.one (by first | rfl | assumption) (.one (by first | rfl | assumption) (.one (by first | rfl | assumption) (.one (by first | rfl | assumption) (.one (Rd.one ((uY.f8).aO)) (.one (by first | rfl | assumption) (.one (Rd.one ((uY.f5).aO)) (.one (by first | rfl | assumption) (.one (by first | rfl | assumption) (.one (by first | rfl | assumption) .nil))))))))))))))) rfl) ?_
       refine jk 64 rfl (bU (l := [_, _, _, _, _, _, _, _, _, _, _, _, _, _, _, _, _]) uY zeroValue44 rfl) ?_
       rintro _ TA ⟨b21, rfl, oV⟩
       have Yp := aB.kp (oV.f17.f17.f17.f17.f17.f17.f17.f17.f17.f17.f17.f17.f17.f17.f17.f17.f17)
       refine bT Yp (fun W hW => (Kp.h hW).right.f16.f16.f16.f16.f16.f16.f16.f16.f16.f16.f16.f16.f16.f16.f16.f16) ?_
       refine dJ 65 rfl (by kernel_rfl) (bn 0 (l' := [_, _, _, _, _, _, _, _, _, _, _, _, _, _, _, _, _]) (us := [_, _, _, _, _, _, _, _, _, _, _, _, _, _, _, _, _]) oV sizeOf44 rfl rfl rfl (aC (by first | rfl | exact Rd.one ((oV.f12).aO)) (aC (by first | rfl | assumption) (aC (by first | rfl | assumption) (aC (by first | rfl | assumption) (aC (by first | rfl | assumption) (aC (by first | rfl | assumption) (aC (by first | rfl | assumption) (aC (by first | rfl | assumption) (aC (by first | rfl | assumption) (aC (by first | rfl | assumption) (aC (by first | rfl | assumption) (aC (by first | rfl | exact Rd.one ((oV.f9).aO)) (aC (by first | rfl | assumption) (aC (by first | rfl | exact Rd.one ((oV.f6).aO)) (aC (by first | rfl | assumption) (aC (by first | rfl | assumption) (aC (by first | rfl | assumption) aZ))))))))))))))))) rfl rfl) ?_
       rintro _ Xf JX
       have zi := aB.kp (JX.f17.f17.f17.f17.f17.f17.f17.f17.f17.f17.f17.f17.f17.f17.f17.f17.f17)
       refine dN zi (by kernel_rfl) ?_
       refine nT ?_
       refine bZ (_, _, _, _, _, _) (Sub.cons rfl (Sub.cons rfl (Sub.nil _))) (Sub.cons rfl (Sub.nil _)) (by (try dsimp only); exact JX.f14.f17.f17.f8.f17.f12.f10.f12.f11.f15.f17.f13.f14.f16.f16.f17.f17)
      ·skip
       refine gU 64 rfl (by kernel_rfl) (bU (l := [_, _, _, _, _, _, _, _, _, _, _, _, _, _, _, _, _]) uY zeroValue44 rfl) (lT rfl) ?_
       rintro _ O7 ⟨b23, rfl, rV⟩
       have AP := aB.kp (rV.f17.f17.f17.f17.f17.f17.f17.f17.f17.f17.f17.f17.f17.f17.f17.f17.f17)
       refine bT AP (fun W hW => (Kp.h hW).right.f16.f16.f16.f16.f16.f16.f16.f16.f16.f16.f16.f16.f16.f16.f16.f16) ?_
       refine jk 62 rfl (rP rfl func58 (jZ rV.f15)) ?_
       rintro _ _ ⟨rfl, rfl⟩
       have DW := aB.kp (rV.f17.f17.f17.f17.f17.f17.f17.f17.f17.f17.f17.f17.f17.f17.f17.f17.f17)
       refine bT DW (fun W hW => (Kp.h hW).f17.f17.f17.f17.f17.f17.f17.f17.f17.f17.f17.f17.f17.f17.f17.f17.f17) ?_
       refine iJ 63 rfl DW (fun _ => cO (zl := [.slice none 0 0, .int .i64 0, .int .i64 0, .int .i64 0, .bool false, .bool false, .bool false, .int .i64 0, .int .i64 0, .int .i64 0, .int .i64 0, .slice none 0 0, .int .i64 0, .slice none 0 0, .int .i64 0, .int .i64 0, .int .i64 0]) (pl := [(0, 3), (3, 1), (4, 1), (5, 1), (6, 1), (7, 1), (8, 1), (9, 1), (10, 1), (11, 1), (12, 1), (13, 1), (14, 1), (15, 1), (16, 1)]) [_, _, _, _, _, _, _, _, _, _, _, _, _, _, _, _, _] underlying44 zeroValue44 rfl (fun w => by kernel_rfl) rfl (.agg (us := [_, _, _]) (zs := [.slice none 0 0, .int .i64 0, .int .i64 0]) rfl rfl (.one (by first | rfl | assumption) (.one (by first | rfl | assumption) (.one (by first | rfl | assumption) (.one (by first | rfl | assumption) (.one (by first | rfl | assumption) (.one (by first | rfl | assumption) (.one (by first | rfl | assumption) (.one (by first | rfl | assumption) (.one (Rd.one ((rV.f9).aO)) (.one (by first | rfl | assumption) (.one (Rd.one ((rV.f6).aO)) (.one (by first | rfl | assumption) (.one (by first | rfl | assumption) (.one (by first | rfl | assumption) .nil))))))))))))))) rfl) ?_
       refine dJ 65 rfl (by kernel_rfl) (bn 0 (l' := [_, _, _, _, _, _, _, _, _, _, _, _, _, _, _, _, _]) (us := [_, _, _, _, _, _, _, _, _, _, _, _, _, _, _, _, _]) rV sizeOf44 rfl rfl rfl (aC (by first | rfl | exact Rd.one ((rV.f12).aO)) (aC (by first | rfl | assumption) (aC (by first | rfl | assumption) (aC (by first | rfl | assumption) (aC (by first | rfl | assumption) (aC (by first | rfl | assumption) (aC (by first | rfl | assumption) (aC (by first | rfl | assumption) (aC (by first | rfl | assumption) (aC (by first | rfl | assumption) (aC (by first | rfl | assumption) (aC (by first | rfl | exact Rd.one ((rV.f9).aO)) (aC (by first | rfl | assumption) (aC (by first | rfl | exact Rd.one ((rV.f6).aO)) (aC (by first | rfl | assumption) (aC (by first | rfl | assumption) (aC (by first | rfl | assumption) aZ))))))))))))))))) rfl rfl) ?_
       rintro _ Xg IC
       have QV := aB.kp (IC.f17.f17.f17.f17.f17.f17.f17.f17.f17.f17.f17.f17.f17.f17.f17.f17.f17)
       refine dN QV (by kernel_rfl) ?_
       refine nT ?_
       refine bZ (_, _, _, _, _, _) (Sub.cons rfl (Sub.cons rfl (Sub.nil _))) (Sub.cons rfl (Sub.nil _)) (by (try dsimp only); exact IC.f14.f17.f17.f8.f17.f12.f10.f12.f11.f15.f17.f13.f14.f16.f16.f17.f17)
     ·skip
      refine gU 64 rfl (by kernel_rfl) (bU (l := [_, _, _, _, _, _, _, _, _, _, _, _, _, _, _, _, _]) zB zeroValue44 rfl) (lT rfl) ?_
      rintro _ YO ⟨b26, rfl, Me⟩
      have Yq := aB.kp (Me.f13.right.f16.f16.f16.f16.f16.f16.f16.f16.f16.f16.f16.f16.f16.f16.f16.f16)
      refine bT Yq (fun W hW => (Kp.h hW).right.f15.f15.f15.f15.f15.f15.f15.f15.f15.f15.f15.f15.f15.f15.f15) ?_
      refine jk 52 rfl (rP rfl func57 (lI Me.f15.f14.f6.f6 hU)) ?_
      rintro _ YP ⟨rfl, Ht⟩
      have Yr := aB.kp (Ht.f17.f17.f17.f17.f17.f17.f17.f17.f17.f17.f17.f17.f17.f17.f17.f17.f17)
      refine bT Yr (fun W hW => (Kp.h hW).f3.right.f16.f16.f5.f16.f16.f16.f16.f16.f16.f16.f16.f16.f14.f14.f16.f16) ?_
      refine jk 62 rfl (rP rfl func58 (jZ Ht.f15)) ?_
      rintro _ _ ⟨rfl, rfl⟩
      have U4 := aB.kp (Ht.f17.f17.f17.f17.f17.f17.f17.f17.f17.f17.f17.f17.f17.f17.f17.f17.f17)
      refine bT U4 (fun W hW => (Kp.h hW).f17.f17.f17.f17.f17.f17.f17.f17.f17.f17.f17.f17.f17.f17.f17.f17.f17) ?_
      refine iJ 63 rfl U4 (fun _ => cO (zl := [.slice none 0 0, .int .i64 0, .int .i64 0, .int .i64 0, .bool false, .bool false, .bool false, .int .i64 0, .int .i64 0, .int .i64 0, .int .i64 0, .slice none 0 0, .int .i64 0, .slice none 0 0, .int .i64 0, .int .i64 0, .int .i64 0]) (pl := [(0, 3), (3, 1), (4, 1), (5, 1), (6, 1), (7, 1), (8, 1), (9, 1), (10, 1), (11, 1), (12, 1), (13, 1), (14, 1), (15, 1), (16, 1)]) [_, _, _, _, _, _, _, _, _, _, _, _, _, _, _, _, _] underlying44 zeroValue44 rfl (fun w => by kernel_rfl) rfl (.agg (us := [_, _, _]) (zs := [.slice none 0 0, .int .i64 0, .int .i64 0]) rfl rfl (.one (by first | rfl | assumption) (.one (by first | rfl | assumption) (.one (by first | rfl | assumption) (.one (by first | rfl | assumption) (.one (by first | rfl | assumption) (.one (by first | rfl | assumption) (.one (by first | rfl | assumption) (.one (by first | rfl | assumption) (.one (Rd.one ((Ht.f9).aO)) (.one (by first | rfl | assumption) (.one (Rd.one ((Ht.f6).aO)) (.one (by first | rfl | assumption) (.one (by first | rfl | assumption) (.one (by first | rfl | assumption) .nil))))))))))))))) rfl) ?_
      refine dJ 65 rfl (by kernel_rfl) (bn 0 (l' := [_, _, _, _, _, _, _, _, _, _, _, _, _, _, _, _, _]) (us := [_, _, _, _, _, _, _, _, _, _, _, _, _, _, _, _, _]) Ht.f5 sizeOf44 rfl rfl rfl (aC (by first | rfl | exact Rd.one ((Ht.f12).aO)) (aC (by first | rfl | assumption) (aC (by first | rfl | assumption) (aC (by first | rfl | assumption) (aC (by first | rfl | assumption) (aC (by first | rfl | assumption) (aC (by first | rfl | assumption) (aC (by first | rfl | assumption) (aC (by first | rfl | assumption) (aC (by first | rfl | assumption) (aC (by first | rfl | assumption) (aC (by first | rfl | exact Rd.one ((Ht.f9).aO)) (aC (by first | rfl | assumption) (aC (by first | rfl | exact Rd.one ((Ht.f6).aO)) (aC (by first | rfl | assumption) (aC (by first | rfl | assumption) (aC (by first | rfl | assumption) aZ))))))))))))))))) rfl rfl) ?_
      rintro _ Zj N7
      have Yt := aB.kp (N7.f17.f17.f17.f17.f17.f17.f17.f17.f17.f17.f17.f17.f17.f17.f17.f17.f17)
      refine dN Yt (by kernel_rfl) ?_
      refine nT ?_
      refine bZ (_, _, _, _, _, _) (Sub.cons rfl (Sub.cons rfl (Sub.nil _))) (Sub.cons rfl (Sub.nil _)) (by (try dsimp only); exact N7.f14.f17.f17.f8.f17.f12.f10.f12.f11.f15.f17.f13.f14.f16.f16.f17.f17)
    ·skip
     refine gU 64 rfl (by kernel_rfl) (bU (l := [_, _, _, _, _, _, _, _, _, _, _, _, _, _, _, _, _]) yC zeroValue44 rfl) (lT rfl) ?_
     rintro _ YR ⟨b30, rfl, JY⟩
     have Yu := aB.kp (JY.f11.right.f11.right.f14.f14.f14.f14.f14.f14.f14.f14.f14.f14.f14.f14.f14.f14)
     refine bT Yu (fun W hW => (Kp.h hW).right.f13.f13.f13.f13.f13.f13.f13.f13.f13.f13.f13.f13.f13) ?_
     refine jk 50 rfl (rP rfl func56 (qE JY.f12.f11.f11.f7)) ?_
     rintro u31 Wq JZ
     have QW := aB.kp (JZ.f13.right.f16.f16.f16.f16.f16.f16.f16.f16.f16.f16.f16.f16.f16.f16.f16.f16)
     refine bT QW (fun W hW => (Kp.h hW).right.f4.right.f14.f14.f14.f14.f7.f7.f14.f14.f14.f14.f11.f14.f14.f14) ?_
     refine jk 52 rfl (rP rfl func57 (lI JZ.f15.f14.f5.f5 hU)) ?_
     rintro _ w32 ⟨rfl, Et⟩
     have MS := aB.kp (Et.f17.f17.f17.f17.f17.f17.f17.f17.f17.f17.f17.f17.f17.f17.f17.f17.f17)
     refine bT MS (fun W hW => (Kp.h hW).f3.right.f16.f16.f5.f16.f16.f16.f16.f16.f16.f16.f16.f16.f16.f15.f15.f16) ?_
     refine jk 62 rfl (rP rfl func58 (jZ Et.f15)) ?_
     rintro _ _ ⟨rfl, rfl⟩
     have MV := aB.kp (Et.f17.f17.f17.f17.f17.f17.f17.f17.f17.f17.f17.f17.f17.f17.f17.f17.f17)
     refine bT MV (fun W hW => (Kp.h hW).f17.f17.f17.f17.f17.f17.f17.f17.f17.f17.f17.f17.f17.f17.f17.f17.f17) ?_
     refine iJ 63 rfl MV (fun _ => cO (zl := [.slice none 0 0, .int .i64 0, .int .i64 0, .int .i64 0, .bool false, .bool false, .bool false, .int .i64 0, .int .i64 0, .int .i64 0, .int .i64 0, .slice none 0 0, .int .i64 0, .slice none 0 0, .int .i64 0, .int .i64 0, .int .i64 0]) (pl := [(0, 3), (3, 1), (4, 1), (5, 1), (6, 1), (7, 1), (8, 1), (9, 1), (10, 1), (11, 1), (12, 1), (13, 1), (14, 1), (15, 1), (16, 1)]) [_, _, _, _, _, _, _, _, _, _, _, _, _, _, _, _, _] underlying44 zeroValue44 rfl (fun w => by kernel_rfl) rfl (.agg (us := [_, _, _]) (zs := [.slice none 0 0, .int .i64 0, .int .i64 0]) rfl rfl (.one (by first | rfl | assumption) (.one (by first | rfl | assumption) (.one (by first | rfl | assumption) (.one (by first | rfl | assumption) (.one (by first | rfl | assumption) (.one (by first | rfl | assumption) (.one (by first | rfl | assumption) (.one (by first | rfl | assumption) (.one (Rd.one ((Et.f9).aO)) (.one (by first | rfl | assumption) (.one (Rd.one ((Et.f5).aO)) (.one (by first | rfl | assumption) (.one (by first | rfl | assumption) (.one (by first | rfl | assumption) .nil))))))))))))))) rfl) ?_
     refine dJ 65 rfl (by kernel_rfl) (bn 0 (l' := [_, _, _, _, _, _, _, _, _, _, _, _, _, _, _, _, _]) (us := [_, _, _, _, _, _, _, _, _, _, _, _, _, _, _, _, _]) Et.f8 sizeOf44 rfl rfl rfl (aC (by first | rfl | exact Rd.one ((Et.f12).aO)) (aC (by first | rfl | assumption) (aC (by first | rfl | assumption) (aC (by first | rfl | assumption) (aC (by first | rfl | assumption) (aC (by first | rfl | assumption) (aC (by first | rfl | assumption) (aC (by first | rfl | assumption) (aC (by first | rfl | assumption) (aC (by first | rfl | assumption) (aC (by first | rfl | assumption) (aC (by first | rfl | exact Rd.one ((Et.f9).aO)) (aC (by first | rfl | assumption) (aC (by first | rfl | exact Rd.one ((Et.f5).aO)) (aC (by first | rfl | assumption) (aC (by first | rfl | assumption) (aC (by first | rfl | assumption) aZ))))))))))))))))) rfl rfl) ?_
     rintro _ YX MW
     have AV := aB.kp (MW.f17.f17.f17.f17.f17.f17.f17.f17.f17.f17.f17.f17.f17.f17.f17.f17.f17)
     refine dN AV (by kernel_rfl) ?_
     refine nT ?_
     refine bZ (_, _, _, _, _, _) (Sub.cons rfl (Sub.cons rfl (Sub.nil _))) (Sub.cons rfl (Sub.nil _)) (by (try dsimp only); exact MW.f14.f17.f17.f8.f17.f12.f10.f12.f11.f15.f17.f13.f14.f16.f16.f17.f17)
   ·skip
    refine gU 64 rfl (by kernel_rfl) (bU (l := [_, _, _, _, _, _, _, _, _, _, _, _, _, _, _, _, _]) qY zeroValue44 rfl) (lT rfl) ?_
    rintro _ Z8 ⟨b35, rfl, TT⟩
    have QX := aB.kp (TT.f9.right.f9.right.f12.f12.f12.f12.f12.f12.f12.f12.f12.f12.f12.f12)
    refine bT QX (fun W hW => (Kp.h hW).right.f11.f11.f11.f11.f11.f11.f11.f11.f11.f11.f11) ?_
    refine jk 40 rfl (rP rfl func55 (vK TT.f6.f4)) ?_
    rintro u36 w36 ⟨acj, Wy⟩
    have Nk := aB.kp (Wy.f11.right.f11.right.f14.f14.f14.f14.f14.f14.f14.f14.f14.f14.f14.f14.f14.f14)
    refine bT Nk (fun W hW => (Kp.h hW).right.right.f12.f12.f12.f12.f12.f12.f8.f12.f12.f10.f12.f12) ?_
    refine jk 50 rfl (rP rfl func56 (qE Wy.f12.f11.f11.f6)) ?_
    rintro u37 w37 UU
    have Rx := aB.kp (UU.f13.right.f16.f16.f16.f16.f16.f16.f16.f16.f16.f16.f16.f16.f16.f16.f16.f16)
    refine bT Rx (fun W hW => (Kp.h hW).right.f4.right.f14.f14.f14.f14.f7.f7.f14.f14.f14.f14.f14.f12.f14.f14) ?_
    refine jk 52 rfl (rP rfl func57 (lI UU.f15.f14.f5.f5 hU)) ?_
    rintro _ YZ ⟨rfl, KU⟩
    have Yv := aB.kp (KU.f17.f17.f17.f17.f17.f17.f17.f17.f17.f17.f17.f17.f17.f17.f17.f17.f17)
    refine bT Yv (fun W hW => (Kp.h hW).f3.right.f16.f16.f5.f16.f16.f16.f16.f16.f16.f16.f16.f16.f16.f15.f15.f16) ?_
    refine jk 62 rfl (rP rfl func58 (jZ KU.f15)) ?_
    rintro _ _ ⟨rfl, rfl⟩
    have Jp := aB.kp (KU.f17.f17.f17.f17.f17.f17.f17.f17.f17.f17.f17.f17.f17.f17.f17.f17.f17)
    refine bT Jp (fun W hW => (Kp.h hW).f17.f17.f17.f17.f17.f17.f17.f17.f17.f17.f17.f17.f17.f17.f17.f17.f17) ?_
    refine iJ 63 rfl Jp (fun _ => cO (zl := [.slice none 0 0, .int .i64 0, .int .i64 0, .int .i64 0, .bool false, .bool false, .bool false, .int .i64 0, .int .i64 0, .int .i64 0, .int .i64 0, .slice none 0 0, .int .i64 0, .slice none 0 0, .int .i64 0, .int .i64 0, .int .i64 0]) (pl := [(0, 3), (3, 1), (4, 1), (5, 1), (6, 1), (7, 1), (8, 1), (9, 1), (10, 1), (11, 1), (12, 1), (13, 1), (14, 1), (15, 1), (16, 1)]) [_, _, _, _, _, _, _, _, _, _, _, _, _, _, _, _, _] underlying44 zeroValue44 rfl (fun w => by kernel_rfl) rfl (.agg (us := [_, _, _]) (zs := [.slice none 0 0, .int .i64 0, .int .i64 0]) rfl rfl (.one (by first | rfl | assumption) (.one (by first | rfl | assumption) (.one (by first | rfl | assumption) (.one (by first | rfl | assumption) (.one (by first | rfl | assumption) (.one (by first | rfl | assumption) (.one (by first | rfl | assumption) (.one (by first | rfl | assumption) (.one (Rd.one ((KU.f8).aO)) (.one (by first | rfl | assumption) (.one (Rd.one ((KU.f5).aO)) (.one (by first | rfl | assumption) (.one (by first | rfl | assumption) (.one (by first | rfl | assumption) .nil))))))))))))))) rfl) ?_
    refine dJ 65 rfl (by kernel_rfl) (bn 0 (l' := [_, _, _, _, _, _, _, _, _, _, _, _, _, _, _, _, _]) (us := [_, _, _, _, _, _, _, _, _, _, _, _, _, _, _, _, _]) KU.f11 sizeOf44 rfl rfl rfl (aC (by first | rfl | exact Rd.one ((KU.f12).aO)) (aC (by first | rfl | assumption) (aC (by first | rfl | assumption) (aC (by first | rfl | assumption) (aC (by first | rfl | assumption) (aC (by first | rfl | assumption) (aC (by first | rfl | assumption) (aC (by first | rfl | assumption) (aC (by first | rfl | assumption) (aC (by first | rfl | assumption) (aC (by first | rfl | assumption) (aC (by first | rfl | exact Rd.one ((KU.f8).aO)) (aC (by first | rfl | assumption) (aC (by first | rfl | exact Rd.one ((KU.f5).aO)) (aC (by first | rfl | assumption) (aC (by first | rfl | assumption) (aC (by first | rfl | assumption) aZ))))))))))))))))) rfl rfl) ?_
    rintro _ w40 Yn
    have Yw := aB.kp (Yn.f17.f17.f17.f17.f17.f17.f17.f17.f17.f17.f17.f17.f17.f17.f17.f17.f17)
    refine dN Yw (by kernel_rfl) ?_
    refine nT ?_
    refine bZ (_, _, _, _, _, _) (Sub.cons rfl (Sub.cons rfl (Sub.nil _))) (Sub.cons rfl (Sub.nil _)) (by (try dsimp only); exact Yn.f14.f17.f17.f8.f17.f12.f10.f12.f11.f15.f17.f13.f14.f16.f16.f17.f17)
  ·skip
   refine gU 64 rfl (by kernel_rfl) (bU (l := [_, _, _, _, _, _, _, _, _, _, _, _, _, _, _, _, _]) Rw zeroValue44 rfl) (lT rfl) ?_
   rintro _ w41 ⟨b41, rfl, TU⟩
   have QY := aB.kp (TU.f8.right.f8.right.f11.f11.f11.f11.f11.f11.f11.f11.f11.f11.f11)
   refine bT QY (fun W hW => (Kp.h hW).right.f10.f10.f10.f10.f10.f10.f10.f10.f10.f10) ?_
   refine jk 1 rfl (rP rfl func32 (Ba TU.f4.f4)) ?_
   rintro _ w42 ⟨u42, rfl, SC⟩
   have Fh := aB.kp (SC.f9.right.f9.right.f12.f12.f12.f12.f12.f12.f12.f12.f12.f12.f12.f12)
   refine bT Fh (fun W hW => (Kp.h hW).right.f11.f11.f11.f11.f11.f11.f11.f9.f9.f11.f11) ?_
   refine jk 40 rfl (rP rfl func55 (vK SC.f6.f3)) ?_
   rintro u43 Y0 ⟨ack, SE⟩
   have QZ := aB.kp (SE.f11.right.f11.right.f14.f14.f14.f14.f14.f14.f14.f14.f14.f14.f14.f14.f14.f14)
   refine bT QZ (fun W hW => (Kp.h hW).right.right.f12.f12.f12.f12.f12.f12.f8.f12.f12.f12.f11.f12) ?_
   refine jk 50 rfl (rP rfl func56 (qE SE.f12.f11.f11.f6)) ?_
   rintro u44 w44 UW
   have Yx := aB.kp (UW.f13.right.f16.f16.f16.f16.f16.f16.f16.f16.f16.f16.f16.f16.f16.f16.f16.f16)
   refine bT Yx (fun W hW => (Kp.h hW).right.f4.right.f14.f14.f14.f14.f7.f7.f14.f14.f14.f14.f14.f12.f14.f14) ?_
   refine jk 52 rfl (rP rfl func57 (lI UW.f15.f14.f5.f5 hU)) ?_
   rintro _ Y1 ⟨rfl, J3⟩
   have Yy := aB.kp (J3.f17.f17.f17.f17.f17.f17.f17.f17.f17.f17.f17.f17.f17.f17.f17.f17.f17)
   refine bT Yy (fun W hW => (Kp.h hW).f3.right.f16.f16.f5.f16.f16.f16.f16.f16.f16.f16.f16.f16.f16.f15.f15.f16) ?_
   refine jk 62 rfl (rP rfl func58 (jZ J3.f15)) ?_
   rintro _ _ ⟨rfl, rfl⟩
   have U5 := aB.kp (J3.f17.f17.f17.f17.f17.f17.f17.f17.f17.f17.f17.f17.f17.f17.f17.f17.f17)
   refine bT U5 (fun W hW => (Kp.h hW).f17.f17.f17.f17.f17.f17.f17.f17.f17.f17.f17.f17.f17.f17.f17.f17.f17) ?_
   refine iJ 63 rfl U5 (fun _ => cO (zl := [.slice none 0 0, .int .i64 0, .int .i64 0, .int .i64 0, .bool false, .bool false, .bool false, .int .i64 0, .int .i64 0, .int .i64 0, .int .i64 0, .slice none 0 0, .int .i64 0, .slice none 0 0, .int .i64 0, .int .i64 0, .int .i64 0]) (pl := [(0, 3), (3, 1), (4, 1), (5, 1), (6, 1), (7, 1), (8, 1), (9, 1), (10, 1), (11, 1), (12, 1), (13, 1), (14, 1), (15, 1), (16, 1)]) [_, _, _, _, _, _, _, _, _, _, _, _, _, _, _, _, _] underlying44 zeroValue44 rfl (fun w => by kernel_rfl) rfl (.agg (us := [_, _, _]) (zs := [.slice none 0 0, .int .i64 0, .int .i64 0]) rfl rfl (.one (by first | rfl | assumption) (.one (by first | rfl | assumption) (.one (by first | rfl | assumption) (.one (by first | rfl | assumption) (.one (by first | rfl | assumption) (.one (by first | rfl | assumption) (.one (by first | rfl | assumption) (.one (by first | rfl | assumption) (.one (Rd.one ((J3.f8).aO)) (.one (by first | rfl | assumption) (.one (Rd.one ((J3.f5).aO)) (.one (by first | rfl | assumption) (.one (by first | rfl | assumption) (.one (by first | rfl | assumption) .nil))))))))))))))) rfl) ?_
   refine dJ 65 rfl (by kernel_rfl) (bn 0 (l' := [_, _, _, _, _, _, _, _, _, _, _, _, _, _, _, _, _]) (us := [_, _, _, _, _, _, _, _, _, _, _, _, _, _, _, _, _]) J3.f13 sizeOf44 rfl rfl rfl (aC (by first | rfl | exact Rd.one ((J3.f11).aO)) (aC (by first | rfl | assumption) (aC (by first | rfl | assumption) (aC (by first | rfl | assumption) (aC (by first | rfl | assumption) (aC (by first | rfl | assumption) (aC (by first | rfl | assumption) (aC (by first | rfl | assumption) (aC (by first | rfl | assumption) (aC (by first | rfl | assumption) (aC (by first | rfl | assumption) (aC (by first | rfl | exact Rd.one ((J3.f8).aO)) (aC (by first | rfl | assumption) (aC (by first | rfl | exact Rd.one ((J3.f5).aO)) (aC (by first | rfl | assumption) (aC (by first | rfl | assumption) (aC (by first | rfl | assumption) aZ))))))))))))))))) rfl rfl) ?_
   rintro _ w47 V3
   have Yz := aB.kp (V3.f17.f17.f17.f17.f17.f17.f17.f17.f17.f17.f17.f17.f17.f17.f17.f17.f17)
   refine dN Yz (by kernel_rfl) ?_
   refine nT ?_
   refine bZ (_, _, _, _, _, _) (Sub.cons rfl (Sub.cons rfl (Sub.nil _))) (Sub.cons rfl (Sub.nil _)) (by (try dsimp only); exact V3.f14.f17.f17.f8.f17.f12.f10.f12.f11.f15.f17.f13.f14.f16.f16.f17.f17)
end
end Go.Proofs.YtddekefihgejoaaGreatDoor
end
section
namespace Go.Proofs.YtddekefihgejoaaGreatDoor
open Go.RowKit
open _root_.Go.Proofs.Tryz
def bG.pG (s : bG) (l : List Int) : Int := if s.inn then 1 else if 1024 < l.length then 3 else 0
def bG.GK (s : bG) (hl : List kZ) (base most : Int) (l : List Int) : bG := if s.pG l = 0 then s.start hl base most l else s
theorem Ry {s : bG} (h : jV s) (hi : s.inn = false) (hl : List kZ) (base most : Int) (l : List Int) : jV (s.start hl base most l) := by
  obtain ⟨h1, h2, h3, h4, h5, h6⟩ := h
  refine ⟨Jk _ _ _ _ _, fun h => absurd (show s.inn = true from h) (by rw [hi]; decide), ⟨by show (-1 : Int) ≤ -1; decide, by show (-1 : Int) ≤ 1000000; decide⟩, h4, ?_, by simp [bG.start, lF.fresh]⟩
  show eH [] s.put ≤ 16384
  unfold eH at *; simp at *; omega
section
variable {w0 w : World} {F : HP} {e p h pr : Nat} {s : bG} {hl : List kZ} {base most m : Int} {v : Value} {l : List Int}
theorem GL (H : aB w0 w (dK e s • dh h hl base most • F)) (hr : iT w0 F .i32 v l) : fE prog 35 #[.pointer (some ⟨e, 0, none⟩), .pointer (some ⟨h, 0, none⟩), v] w fun v' w' =>
  v' = .int .i64 (s.pG l) ∧ aB w0 w' (dK e (s.GK hl base most l) • dh h hl base most • F) := by
 unfold bG.GK
 refine gy func35 ntmps35 ?_
 dsimp only [aY, Nat.reduceAdd]
 refine ay (ah (aV rfl (aA (aj (ay (bf (ay (ah (aN rfl (dw rfl func54 (o7 H) ?_))))))))))
 rintro _ _ ⟨rfl, rfl⟩
 refine aN rfl (bC (aN rfl (bC (dw rfl func77 (nO H.f2) ?_))))
 rintro _ w2 ⟨q2, rfl, H2⟩
 refine bC (aU (eF underlying65 rfl rfl) (iU rfl rfl (aV rfl (aA (aj (aP rfl (fun h => by exfalso; (try simp only [aI] at h); simp at h) (fun h1 => ?_)))))))
 (try simp only [aI] at h1)
 refine ay ?_
 have WJ := H2.right
 obtain ⟨qj, ql, qo, qp, qx, qy, qA, qB, nY, mD, mF, mG, mJ, mM, mO, mP, mQ, mV, mW, mX, dF, bK, gV, dY⟩ := (WJ.f2).DR
 refine ah (aN rfl (bP rfl (bg 16 underlying69 rfl sizeOf4 rfl (dO underlying4 rfl (dY).get.2 rfl (aV rfl (aA (aj (aP rfl (fun h2 => ?_) (fun h2 => ?_)))))))))
 ·(try simp only [aI] at h2)
  have hin := h2
  have hE : s.pG l = 1 := by unfold bG.pG; rw [if_pos hin]
  refine ay (ah (aV rfl (aA (aj (aJ (aX (aK (aQ (.inl rfl) results35 rfl ?_))))))))
  have VB := dY.f11.f11.f11.f11.f11.f11.f11.f11.f11.f11.f11
  have VD := aB.dW (s := s) dF bK VB
  exact ⟨by rw [hE], by rw [if_neg (by rw [hE]; decide)]; exact VD.f2.f2⟩
 ·(try simp only [aI] at h2)
  have hin : s.inn = false := by simpa using h2
  refine ay (ah (aN rfl (aU (gG (hr _ (dY.right.right.right.right.right.right.right.right.right.right.right.right)) underlying23 rfl) (aU (fZ rfl rfl) (aV rfl (aA (aj (aP rfl (fun h3 => ?_) (fun h3 => ?_)))))))))
  ·(try simp only [aI] at h3)
   have hbig := h3
   have hE : s.pG l = 3 := by unfold bG.pG; rw [if_neg (by simp [hin]), if_pos (by omega)]
   refine ay (ah (aV rfl (aA (aj (aJ (aX (aK (aQ (.inl rfl) results35 rfl ?_))))))))
   have Ho9 := dY.f11.f11.f11.f11.f11.f11.f11.f11.f11.f11.f11
   have aaK := aB.dW (s := s) dF bK Ho9
   exact ⟨by rw [hE], by rw [if_neg (by rw [hE]; decide)]; exact aaK.f2.f2⟩
  ·(try simp only [aI] at h3)
   have hE : s.pG l = 0 := by unfold bG.pG; rw [if_neg (by simp [hin]), if_neg (by have h9 := h3; omega)]
   have hsh : l.length ≤ 1024 := by have h9 := h3; omega
   refine aT (aH (aj (ay (ah (aN rfl (aN rfl (aN rfl (dw rfl func79 (xM (E := s.c.E) (a := s.c.at_) dY.f2.right.f3.right.f3.right.f3.right.f3.right.f6.f6.f6.f6.f6.f7.f7 (fun W HW => hr W HW.right.right.right.right.right) hsh) ?_))))))))
   rintro _ Hr ⟨qb, qw, qt, qm, qh, uQ⟩
   refine aA (aj (ay (ah (aV rfl (aA (aj (aJ (aQ (.inl rfl) results35 rfl ?_))))))))
   exact ⟨by rw [hE], by rw [if_pos hE]; exact aB.dW (s := s.start hl base most l) (Ry dF hin _ _ _ _) bK uQ.f7.f12.f12.f12.f12.f11.f11.f11.f11.f12.f12.f12⟩
end
end Go.Proofs.YtddekefihgejoaaGreatDoor
end
section
namespace Go.Proofs.YtddekefihgejoaaGreatDoor
open Go.RowKit
open _root_.Go.Proofs.Tryz
def wY (w0 : World) (F : HP) (bv : Value) : Prop := ∀ (G : HP) (W : World), aB w0 W (G • F) → fE prog 54 #[bv] W fun v w' => v = .bool true ∧ W = w'
theorem Jv {w : World} : fE prog 54 #[.pointer none] w fun v w' => v = .bool true ∧ w = w' := by
 refine gy func54 ntmps54 ?_
 dsimp only [aY, Nat.reduceAdd]
 refine ay (ah (aV rfl (aA (aj (ay (ah (aN rfl (aU (eF underlying30 rfl rfl) (jy rfl (fun h1 => ?_) (fun h => by exfalso; (try simp only [aI] at h); simp at h))))))))))
 (try simp only [aI] at h1)
 refine bF (bF (bF (bF (bF (jw rfl rfl (aV rfl (aA (aj (aJ (aQ (.inl rfl) results54 rfl ?_))))))))))
 exact ⟨rfl, rfl⟩
section
variable {w0 w : World} {F G : HP} {bv v : Value} {x y : Int} {b : Bool}
theorem Ld {b : Nat} {cs : Array Value} (H : aB w0 w (bY b (.cells cs 69 (0, 0)) • F)) (h : cs[11]? = some (.pointer none)) : fE prog 54 #[.pointer (some ⟨b, 0, none⟩)] w fun v w' => v = .bool true ∧ w = w' := by
 refine gy func54 ntmps54 ?_
 dsimp only [aY, Nat.reduceAdd]
 refine ay (ah (aV rfl (aA (aj (ay (ah (aN rfl (aU (eF underlying30 rfl rfl) (jy rfl (fun h1 => ?_) (fun h1 => ?_))))))))))
 ·(try simp only [aI] at h1)
  try (exfalso; first | contradiction | omega)
  all_goals
   refine bF (bF (bF (bF (bF (jw rfl rfl (aV rfl (aA (aj (aJ (aQ (.inl rfl) results54 rfl ?_))))))))))
   exact ⟨rfl, rfl⟩
 ·(try simp only [aI] at h1)
  try (exfalso; first | contradiction | omega)
  all_goals
   refine bC (aN rfl (bC (bP rfl (bC (bg 11 underlying69 rfl sizeOf65 rfl (bC (dO underlying65 rfl H.get.2 h (bC (aU (eF underlying65 rfl rfl) (iU rfl rfl (aV rfl (aA (aj (aJ (aQ (.inl rfl) results54 rfl ?_)))))))))))))))
   exact ⟨rfl, rfl⟩
theorem EH (H : aB w0 w (G • F)) (hu : wY w0 F bv) : fE prog 49 #[bv] w fun v' w' => v' = .pointer none ∧ w = w' := by
 refine gy func49 ntmps49 ?_
 dsimp only [aY, Nat.reduceAdd]
 refine ay (ah (aV rfl (aA (aj (ay (ay (ah (aN rfl (dw rfl func54 (hu _ _ H) ?_)))))))))
 rintro _ _ ⟨rfl, rfl⟩
 refine aA (aj (xg (ay (ah (aV rfl (aA (aj (aJ (aK (aQ (.inl rfl) results49 rfl ?_))))))))))
 exact ⟨rfl, rfl⟩
end
end Go.Proofs.YtddekefihgejoaaGreatDoor
end
section
namespace Go.Proofs.YtddekefihgejoaaGreatDoor
open Go.RowKit
def ends (T : List (Int × Int)) : List Int := T.flatMap fun x => [x.1, x.2]
section
variable {w0 w : World} {F : HP} {r : Int}
abbrev aaL : List (Int × Int) := [(48, 57), (65, 90), (97, 122)]
abbrev acm : List (Int × Int) := [(215, 215), (247, 247), (8192, 8303), (12288, 12351), (65280, 65295), (65533, 65533)]
end
end Go.Proofs.YtddekefihgejoaaGreatDoor
end
