import Derived.Test.YtddekefihgejoaaGreatDoorZ2
import Derived.Test.YtddekefihgejoaaGreatDoorZ14
import Derived.Test.YtddekefihgejoaaGreatDoorZ4
set_option linter.unusedSimpArgs false
set_option linter.unusedVariables false
/- Texts of mine, joined, their names in short: EdS3 RefTab. -/
section
namespace Go.Proofs.YtddekefihgejoaaGreatDoor
open Go.RowKit
open _root_.Go.Proofs.Tryz
def Et (s : bH) (u ks sv : Value) : List Value := [u, .int .i64 s.c.pt, .int .i64 s.c.mark, .int .i64 s.c.mode, .bool s.c.over, .bool s.given, .bool s.minus, .int .i64 s.arg, .int .i64 s.QF, .int .i64 s.ZG, .int .i64 s.ZH, ks, .int .i64 s.c.place, sv, .int .i64 s.QE, .int .i64 s.c.res, .int .i64 s.sH]
section
variable {w0 w : World} {F : HP} {e p ph pw pt pr pm pb : Nat} {s : bH} {k x place : Int} {hl : List lC} {base most cls : Int} {tx : Int → Option ByteArray} {v pv : Value} {U : Int → List (List fJ)} {L : List Int} {V5 mk : Int}
theorem BA {x1 x2 x3 x4 x5 x6 x7 x8 x9 x10 x12 zF x14 x15 x16 x17 x18 x19 x20 x21 yK x23 x24 x25 yL x27 x28 x29 x30 x31 x32 Bl : Value} (H : aB w0 w (dh e (.cells (.pointer (some ⟨pb, 0, none⟩) :: x1 :: x2 :: x3 :: x4 :: x5 :: x6 :: x7 :: x8 :: x9 :: x10 :: .pointer (some ⟨ph, 0, none⟩) :: x12 :: zF :: x14 :: x15 :: x16 :: x17 :: x18 :: x19 :: x20 :: x21 :: yK :: x23 :: x24 :: x25 :: yL :: x27 :: x28 :: x29 :: x30 :: x31 :: x32 :: Bl :: []).toArray 69 (0, 0)) • dM pb L V5 mk • F)) : gG prog 32 #[.pointer (some ⟨e, 0, none⟩)] w fun v' w' =>
  ∃ u, v' = .agg (oG u V5 mk) ∧ aB w0 w' (iD 21 .i32 u L • dh e (.cells (.pointer (some ⟨pb, 0, none⟩) :: x1 :: x2 :: x3 :: x4 :: x5 :: x6 :: x7 :: x8 :: x9 :: x10 :: .pointer (some ⟨ph, 0, none⟩) :: x12 :: zF :: x14 :: x15 :: x16 :: x17 :: x18 :: x19 :: x20 :: x21 :: yK :: x23 :: x24 :: x25 :: yL :: x27 :: x28 :: x29 :: x30 :: x31 :: x32 :: Bl :: []).toArray 69 (0, 0)) • dM pb L V5 mk • F) := by
 refine iF func32 ntmps32 ?_
 dsimp only [bg, Nat.reduceAdd]
 refine ay (ah (iw (cZ (l := [_, _, _]) H zeroValue41 rfl) ?_))
 rintro _ w1 ⟨b1, rfl, H1⟩
 refine aA (aj (ay (ay (ah (aI rfl (dH rfl func54 (wP H1.f2) ?_))))))
 rintro _ _ ⟨rfl, rfl⟩
 refine aA (aj (nY (aO (aj (ay (ah (aI rfl (bQ rfl (bC 0 underlying69 rfl sizeOf64 rfl (bC 0 underlying64 rfl sizeOf59 rfl (eu underlying59 rfl (H1.f2).get.2 rfl (dH rfl func74 (y7 H1.f3) ?_))))))))))))
 rintro _ w3 ⟨u3, rfl, H3⟩
 refine aJ (bG 0 (l' := [_, _, _]) (us := [_, _, _]) H3.f3 sizeOf41 rfl rfl rfl (aC (by first | rfl | exact Rd.one ((H3).aT)) (aC (by first | rfl | assumption) (aC (by first | rfl | assumption) bn))) rfl rfl) ?_
 rintro _ w4 H4
 refine aA (aj (aK ?_))
 refine kM (.inl rfl) (Gl results32 rfl underlying41 rfl (by rw [show (prog.info? 41).map (·.size) = some 3 from by kernel_rfl]; rfl) (H4).get.2) ?_
 exact ⟨_, rfl, H4.right.f2.f3.f3⟩
theorem qJ {x0 x1 x3 x4 x5 x6 x7 x8 x9 x10 x12 zF x14 x15 x16 x17 x18 x19 x20 x21 yK x23 x24 x25 yL x27 x28 x29 x30 x31 x32 Bl : Value} (H : aB w0 w (dh e (.cells (x0 :: x1 :: .pointer (some ⟨pw, 0, none⟩) :: x3 :: x4 :: x5 :: x6 :: x7 :: x8 :: x9 :: x10 :: .pointer (some ⟨ph, 0, none⟩) :: x12 :: zF :: x14 :: x15 :: x16 :: x17 :: x18 :: x19 :: x20 :: x21 :: yK :: x23 :: x24 :: x25 :: yL :: x27 :: x28 :: x29 :: x30 :: x31 :: x32 :: Bl :: []).toArray 69 (0, 0)) • dh pw (.cells #[.int .i64 place, .map (some pt)] 125 (0, 0)) • dU lg pt (lq tx) • dn ph hl base most • F)) :
    gG prog 56 #[.pointer (some ⟨e, 0, none⟩)] w fun v' w' => aB w0 w' (Row 106 2 v' (kY hl tx place).length ((kY hl tx place).flatMap FT) •
      dh e (.cells (x0 :: x1 :: .pointer (some ⟨pw, 0, none⟩) :: x3 :: x4 :: x5 :: x6 :: x7 :: x8 :: x9 :: x10 :: .pointer (some ⟨ph, 0, none⟩) :: x12 :: zF :: x14 :: x15 :: x16 :: x17 :: x18 :: x19 :: x20 :: x21 :: yK :: x23 :: x24 :: x25 :: yL :: x27 :: x28 :: x29 :: x30 :: x31 :: x32 :: Bl :: []).toArray 69 (0, 0)) • dh pw (.cells #[.int .i64 place, .map (some pt)] 125 (0, 0)) • dU lg pt (lq tx) • dn ph hl base most • F) := by
  have hb : hl.length ≤ 4096 := by obtain ⟨v, h, _⟩ := H.r4.hist; exact h.1
  refine iF func56 ntmps56 ?_
  dsimp only [bg, Nat.reduceAdd]
  refine ay (ah (aW rfl (aA (aj (ay (ah (aW rfl (aA (aj (ay (ah (aI rfl (bQ rfl (bC 11 underlying69 rfl sizeOf65 rfl (eu underlying65 rfl (H).get.2 rfl (dH rfl func84 (jC H.f4) ?_))))))))))))))))
  rintro _ w1 ⟨rfl, H1⟩
  refine aW rfl (aA (aj (ay (ay (ah (aI rfl (aI rfl (aA (aj (bf ?_))))))))))
  refine eP [(0, _), (4, _), (11, _)] (fun (⟨i, u⟩ : Nat × Value) => [(3, u), (12, .int .i64 (i : Int))]) (fun (⟨i, u⟩ : Nat × Value) W => i ≤ hl.length ∧ aB w0 W (Row 106 2 u (jG hl tx place i).length ((jG hl tx place i).flatMap FT) • dh e (.cells (x0 :: x1 :: .pointer (some ⟨pw, 0, none⟩) :: x3 :: x4 :: x5 :: x6 :: x7 :: x8 :: x9 :: x10 :: .pointer (some ⟨ph, 0, none⟩) :: x12 :: zF :: x14 :: x15 :: x16 :: x17 :: x18 :: x19 :: x20 :: x21 :: yK :: x23 :: x24 :: x25 :: yL :: x27 :: x28 :: x29 :: x30 :: x31 :: x32 :: Bl :: []).toArray 69 (0, 0)) • dh pw (.cells #[.int .i64 place, .map (some pt)] 125 (0, 0)) • dU lg pt (lq tx) • dn ph hl base most • F)) (fun (⟨i, u⟩ : Nat × Value) => hl.length - i) ((0, .slice none 0 0)) (Sub.cons rfl (Sub.cons rfl (Sub.cons rfl (Sub.nil _)))) (Sub.cons rfl (Sub.cons rfl (Sub.nil _))) ⟨by omega, H1.f4.f4.f4.iE none⟩ ?_
  rintro ⟨i, u⟩ w2 ⟨hi, HL⟩
  dsimp only [List.cons_append, List.nil_append]
  refine ay (ah (aU (dB rfl rfl) (aA (aj (ay (aP rfl (fun h1 => ?_) (fun h1 => ?_)))))))
  · (try simp only [aG] at h1)
    refine aO (aj (ay (bf (ay (ah (aI rfl (aW rfl (aA (aj (ay ?_))))))))))
    have hLen := mF hl tx place i
    refine ah (aI rfl (aI rfl (bQ rfl (bC 0 underlying69 rfl sizeOf64 rfl (bC 2 underlying64 rfl sizeOf61 rfl (eu underlying61 rfl (HL.f2).get.2 rfl (bQ rfl (bC 0 underlying125 rfl sizeOf3 rfl (eu underlying3 rfl (HL.f3).get.2 rfl (aU (gy rfl rfl) (iM rfl (fun h2 => ?_) (fun h2 => ?_))))))))))))
    · (try simp only [aG] at h2)
      have hpl := h2
      refine aY (aI rfl (aY (aI rfl (aY (dH rfl func86 (lN HL.f5.f5.f5.f5) ?_)))))
      rintro _ w3 ⟨rfl, H3⟩
      refine aY (aI rfl (aY (aI rfl (aY (dH rfl func116 (zH H3.f4.f2) ?_)))))
      rintro _ w4 ⟨rfl, H4⟩
      refine aY (aU (NQ rfl rfl) (fK rfl rfl (aA (aj (aP rfl (fun h3 => ?_) (fun h3 => ?_))))))
      · (try simp only [aG] at h3)
        have hsv := JI (hl := hl) (tx := tx) (place := place) (i := i) (by unfold oW; rw [decide_eq_true hpl]; simpa using h3)
        refine ah (aI rfl (aI rfl (aI rfl (aI rfl (dH rfl func86 (lN H4.f2.f4.f4.f4) ?_)))))
        rintro _ w5 ⟨rfl, H5⟩
        refine aU (dF (zl := [.int .i64 0, .string .empty]) (pl := [(0, 1), (1, 1)]) [_, _] underlying106 zeroValue106 rfl (fun w => by kernel_rfl) rfl (.one (by first | rfl | assumption) (.one (by first | rfl | assumption) .nil)) rfl) ?_
        refine iw (lZ H5 underlying42 sizeOf106 zeroValue106 rfl rfl rfl (by decide) (by decide)) ?_
        rintro l6 w6 H6
        refine iw (fP H6.f6 underlying42 (show (prog.info? 106).map (fun i => (i.zero, i.size, i.bytes)) = some (some (.agg #[.int .i64 0, .string .empty]), 2, 24) by kernel_rfl) rfl rfl rfl ((H6).aT) (aC (by first | rfl | assumption) (aC (by first | rfl | assumption) bn)) (by omega) (by omega)) ?_
        rintro l7 w7 H7
        have Za := H7.f2.right
        refine aW rfl (aA (aH (aj (ah (aU (dG rfl rfl (by omega)) (aI rfl (aA ?_)))))))
        have hLen := mF hl tx place i
        refine cO ((i + 1, l7)) ?_ ?_ ?_ ?_
        · exact (Sub.cons rfl (Sub.cons rfl (Sub.nil _)))
        · exact (Sub.cons rfl (Sub.cons rfl (Sub.cons rfl (Sub.nil _))))
        · (try dsimp only)
          first | done | exact ⟨by omega, by first | (rw [hsv, List.length_append, List.flatMap_append]; exact Za.f5.f5.f5.f5.f5) | (rw [hsv]; exact Za.f5.f5.f5.f5.f5)⟩
        · (try dsimp only); omega
      · (try simp only [aG] at h3)
        have hsv := Ep (hl := hl) (tx := tx) (place := place) (i := i) (by unfold oW; rw [decide_eq_true hpl]; simpa using h3)
        refine aO (aH (aj (ah (aU (dG rfl rfl (by omega)) (aI rfl (aA ?_))))))
        have hLen := mF hl tx place i
        refine cO ((i + 1, u)) ?_ ?_ ?_ ?_
        · exact (Sub.cons rfl (Sub.cons rfl (Sub.nil _)))
        · exact (Sub.cons rfl (Sub.cons rfl (Sub.cons rfl (Sub.nil _))))
        · (try dsimp only)
          first | done | exact ⟨by omega, by first | (rw [hsv, List.length_append, List.flatMap_append]; exact H4.f2.f4.f4.f4.f5) | (rw [hsv]; exact H4.f2.f4.f4.f4.f5)⟩
        · (try dsimp only); omega
    · (try simp only [aG] at h2)
      have hsv := Ep (hl := hl) (tx := tx) (place := place) (i := i) (by unfold oW; rw [decide_eq_false (by simpa using h2)]; rfl)
      refine aZ (aZ (aZ (aZ (aZ (aZ (aZ (fC rfl rfl (aA (aj (nY (aO (aH (aj (ah (aU (dG rfl rfl (by omega)) (aI rfl (aA ?_)))))))))))))))))
      have hLen := mF hl tx place i
      refine cO ((i + 1, u)) ?_ ?_ ?_ ?_
      · exact (Sub.cons rfl (Sub.cons rfl (Sub.nil _)))
      · exact (Sub.cons rfl (Sub.cons rfl (Sub.cons rfl (Sub.nil _))))
      · (try dsimp only)
        first | done | exact ⟨by omega, by first | (rw [hsv, List.length_append, List.flatMap_append]; exact HL.f5.f5.f5.f5.f5) | (rw [hsv]; exact HL.f5.f5.f5.f5.f5)⟩
      · (try dsimp only); omega
  · (try simp only [aG] at h1)
    refine dK (aV ?_)
    obtain rfl : i = hl.length := by omega
    refine aV (bD (aj (ay (ay ?_))))
    have hLen := mF hl tx place hl.length
    refine ah (aI rfl (bQ rfl (bC 0 underlying69 rfl sizeOf64 rfl (bC 2 underlying64 rfl sizeOf61 rfl (eu underlying61 rfl (HL.f2).get.2 rfl (bQ rfl (bC 0 underlying125 rfl sizeOf3 rfl (eu underlying3 rfl (HL.f3).get.2 rfl (aI rfl (aU (gy rfl rfl) (aA (aj (aP rfl (fun h4 => ?_) (fun h4 => ?_))))))))))))))
    · (try simp only [aG] at h4)
      have hsv : kY hl tx place = jG hl tx place hl.length ++ [((hl.length : Int), fF hl tx hl.length)] := by unfold kY; rw [if_pos h4]
      refine ah (aI rfl (aI rfl (aI rfl (aI rfl (dH rfl func86 (lN HL.f5.f5.f5.f5) ?_)))))
      rintro _ w9 ⟨rfl, H9⟩
      refine aU (dF (zl := [.int .i64 0, .string .empty]) (pl := [(0, 1), (1, 1)]) [_, _] underlying106 zeroValue106 rfl (fun w => by kernel_rfl) rfl (.one (by first | rfl | assumption) (.one (by first | rfl | assumption) .nil)) rfl) ?_
      refine iw (lZ H9 underlying42 sizeOf106 zeroValue106 rfl rfl rfl (by decide) (by decide)) ?_
      rintro l10 w10 qL
      refine iw (fP qL.f6 underlying42 (show (prog.info? 106).map (fun i => (i.zero, i.size, i.bytes)) = some (some (.agg #[.int .i64 0, .string .empty]), 2, 24) by kernel_rfl) rfl rfl rfl ((qL).aT) (aC (by first | rfl | assumption) (aC (by first | rfl | assumption) bn)) (by omega) (by omega)) ?_
      rintro XK Gq sD
      have ER := sD.f2.right
      refine aW rfl (aA (aj (ay (ah (aI rfl (aW rfl (aA (aj (aK (aQ (.inl rfl) results56 rfl ?_))))))))))
      first
        | (rw [hsv, List.length_append, List.flatMap_append]; exact ER.f5.f5.f5.f5.f5)
        | (rw [hsv]; exact ER.f5.f5.f5.f5.f5)
    · (try simp only [aG] at h4)
      have hsv : kY hl tx place = jG hl tx place hl.length := by unfold kY; rw [if_neg (by simpa using h4), List.append_nil]
      refine aO (aj (ay (ah (aI rfl (aW rfl (aA (aj (aK (aQ (.inl rfl) results56 rfl ?_)))))))))
      first
        | (rw [hsv, List.length_append, List.flatMap_append]; exact HL.f5.f5.f5.f5.f5)
        | (rw [hsv]; exact HL.f5.f5.f5.f5.f5)
theorem OJ {u0 u1 u2 u3 u4 u5 u6 u7 u8 u9 ua : Value} (hin : s.inn = true) (H : aB w0 w (rP s.inn s.was [u0, u1, u2, u3, u4, u5, u6, u7, u8, u9, ua] • F)) : u6 = .int .i64 s.was.last ∧ u7 = .int .i64 s.was.fr ∧ u8 = .int .i64 s.was.to := by
  rw [hin] at H
  obtain ⟨qb, qr, qw, qt, qm, hu, -⟩ := H.was
  simp only [Ju, List.cons.injEq, and_true] at hu
  exact ⟨hu.2.2.2.2.2.2.1, hu.2.2.2.2.2.2.2.1, hu.2.2.2.2.2.2.2.2.1⟩
set_option maxHeartbeats 1000000 in
theorem vS (H : aB w0 w (dO e s • F)) : gG prog 16 #[.pointer (some ⟨e, 0, none⟩)] w fun v w' => ∃ u ks us sv, v = .agg (Et s u ks sv).toArray ∧
  aB w0 w' (iD 21 .i32 u s.c.L • Row 23 1 ks s.c.E.length us • Cc 21 .i32 us (sQ s.c.E s.c.at_) • Row 106 2 sv s.saved.length (s.saved.flatMap FT) • dO e s • F) := by
 refine iF func16 ntmps16 ?_
 dsimp only [bg, Nat.reduceAdd]
 obtain ⟨qy, qA, qB, qC, qE, qF, qG, qH, oq, mM, mO, mP, mQ, mV, mW, mX, mY, mZ, ng, ni, dI, bM, ig, eH⟩ := (H).D9
 have hU : (s.c.un s.c.place).length ≤ 16384 := by
  obtain ⟨D, P, hD1, hD2, HU⟩ := (eH.f6).QJ
  by_cases hm : s.c.place ∈ D
  ·have HF := HU.swap
   rw [mD hm] at HF
   obtain ⟨_, _, _, _, k1, _⟩ := HF.flat.qj
   have := k1.len; simpa using this
  ·rw [hD2 _ hm]; decide
 refine ay (ah (iw (cZ (l := [_, _, _, _, _, _, _, _, _, _, _, _, _, _, _, _, _]) eH zeroValue44 rfl) ?_))
 rintro _ w2 ⟨b2, rfl, H2⟩
 refine aA (aj (ay (ay (ah (aI rfl (dH rfl func54 (wP H2.f2) ?_))))))
 rintro _ _ ⟨rfl, rfl⟩
 refine aA (aj (nY (aO (aj ?_))))
 refine lT [(0, _)] (fun (⟨r, q, u, ks, sv, us⟩ : Nat × Nat × Value × Value × Value × List Value) => [(2, .pointer (some ⟨r, 0, none⟩)), (3, .pointer (some ⟨q, 0, none⟩))]) (fun (⟨r, q, u, ks, sv, us⟩ : Nat × Nat × Value × Value × Value × List Value) W => aB w0 W (dh q (.cells (u :: .int .i64 s.c.pt :: .int .i64 s.c.mark :: .int .i64 s.c.mode :: .bool s.c.over :: .bool s.given :: .bool s.minus :: .int .i64 s.arg :: .int .i64 s.c.last :: .int .i64 s.c.fr :: .int .i64 s.c.to :: ks :: .int .i64 s.c.place :: sv :: .int .i64 s.QE :: .int .i64 s.c.res :: .int .i64 s.sH :: []).toArray 44 (0, 0)) • iD 21 .i32 u s.c.L • Row 23 1 ks s.c.E.length us • Cc 21 .i32 us (sQ s.c.E s.c.at_) • Row 106 2 sv s.saved.length (s.saved.flatMap FT) • dh e (.cells (.pointer (some ⟨qy, 0, none⟩) :: .pointer (some ⟨qA, 0, none⟩) :: .pointer (some ⟨qB, 0, none⟩) :: .map (some qE) :: .int .i64 s.c.mode :: .bool s.c.over :: .int .i64 s.c.last :: .int .i64 s.c.fr :: .int .i64 s.c.to :: .int .i64 s.c.res :: .bool s.c.run :: .pointer (some ⟨qF, 0, none⟩) :: .pointer (some ⟨qG, 0, none⟩) :: .bool s.given :: .bool s.minus :: .int .i64 s.arg :: .bool s.inn :: mM :: mO :: mP :: mQ :: mV :: mW :: mX :: mY :: mZ :: ng :: ni :: .int .i64 s.cls :: .bool s.killed :: .bool s.lW :: .bool s.argues :: .bool s.whole :: qH :: []).toArray 69 (0, 0)) • dM qy s.c.L s.c.pt s.c.mark • dW qA s.c.E s.c.at_ • dh qB (.cells #[.int .i64 s.c.place, .map (some qC)] 125 (0, 0)) • dU lg qC (lq s.c.tx) • pV qE s.c.un • dn qF s.hl s.base s.most • dh qG (.cells #[.int .i64 s.sH] 144 (0, 0)) • Row 202 3 qH s.put.length (oq.flatMap dw.enc) • jo oq • rP s.inn s.was [mM, mO, mP, mQ, mV, mW, mX, mY, mZ, ng, ni] • dh r (.cells (.slice none 0 0 :: .int .i64 0 :: .int .i64 0 :: .int .i64 0 :: .bool false :: .bool false :: .bool false :: .int .i64 0 :: .int .i64 0 :: .int .i64 0 :: .int .i64 0 :: .slice none 0 0 :: .int .i64 0 :: .slice none 0 0 :: .int .i64 0 :: .int .i64 0 :: .int .i64 0 :: []).toArray 44 (0, 0)) • F)) (Sub.cons rfl (Sub.nil _)) ?_ ?_
 ·rintro ⟨r, q, u, ks, sv, us⟩ w4 HJ
  dsimp only [List.cons_append, List.nil_append]
  refine ay (ay (ah (aI rfl (bQ rfl (bC 16 underlying69 rfl sizeOf4 rfl (eu underlying4 rfl (HJ.f6).get.2 rfl (aA (aj (aP rfl (fun h1 => ?_) (fun h1 => ?_))))))))))
  ·(try simp only [aG] at h1)
   have hin := h1
   obtain ⟨rfl, rfl, rfl⟩ := OJ hin HJ.f16
   have Ru := HJ.drew
   have jm := aB.kp (Ru.right.f16.f16.f16.f16.f16.f16.f16.f16.f16.f16.f16.f16.f16.f16.f16.f16)
   refine wo [4, 9, 14] jm rfl (gV 0 rfl jm rfl (iZ 1 rfl jm rfl (dV 2 rfl jm 17 underlying69 rfl sizeOf64 rfl (dV 3 rfl jm 6 underlying64 rfl sizeOf3 rfl (iy 4 rfl jm (fun W hW => iQ underlying3 rfl ((Kp.h hW).f5).get.2 rfl) (gV 5 rfl jm rfl (iZ 6 rfl jm rfl (dV 7 rfl jm 17 underlying69 rfl sizeOf64 rfl (dV 8 rfl jm 7 underlying64 rfl sizeOf3 rfl (iy 9 rfl jm (fun W hW => iQ underlying3 rfl ((Kp.h hW).f5).get.2 rfl) (gV 10 rfl jm rfl (iZ 11 rfl jm rfl (dV 12 rfl jm 17 underlying69 rfl sizeOf64 rfl (dV 13 rfl jm 8 underlying64 rfl sizeOf3 rfl (iy 14 rfl jm (fun W hW => iQ underlying3 rfl ((Kp.h hW).f5).get.2 rfl) (dV 15 rfl jm 8 underlying44 rfl sizeOf3 rfl ?_))))))))))))))))
   refine dN 16 rfl (by kernel_rfl) (aS 8 (l' := [_, _, _, _, _, _, _, _, _, _, _, _, _, _, _, _, _]) Ru sizeOf3 rfl rfl (by first | rfl | assumption) rfl rfl) ?_
   rintro _ w5 H5
   have uG := aB.kp (H5.right.f16.f16.f16.f16.f16.f16.f16.f16.f16.f16.f16.f16.f16.f16.f16.f16)
   refine bW uG (fun W hW => (Kp.h hW).f16.f16.f16.f16.f16.f16.f16.f16.f16.f16.f16.f16.f16.f16.f16.f16) ?_
   refine dV 17 rfl uG 9 underlying44 rfl sizeOf3 rfl ?_
   refine dN 18 rfl (by kernel_rfl) (aS 9 (l' := [_, _, _, _, _, _, _, _, _, _, _, _, _, _, _, _, _]) H5 sizeOf3 rfl rfl (by first | rfl | assumption) rfl rfl) ?_
   rintro _ w6 H6
   have BZ := aB.kp (H6.f17.f17.f17.f17.f17.f17.f17.f17.f17.f17.f17.f17.f17.f17.f17.f17.f17)
   refine bW BZ (fun W hW => (Kp.h hW).right.f16.f16.f16.f16.f16.f16.f16.f16.f16.f16.f16.f16.f16.f16.f16.f16) ?_
   refine dV 19 rfl BZ 10 underlying44 rfl sizeOf3 rfl ?_
   refine dN 20 rfl (by kernel_rfl) (aS 10 (l' := [_, _, _, _, _, _, _, _, _, _, _, _, _, _, _, _, _]) H6 sizeOf3 rfl rfl (by first | rfl | assumption) rfl rfl) ?_
   rintro _ w7 H7
   have xG := aB.kp (H7.f17.f17.f17.f17.f17.f17.f17.f17.f17.f17.f17.f17.f17.f17.f17.f17.f17)
   refine dR xG (by kernel_rfl) ?_
   refine nJ (aj (ay (ah (aU (bV underlying44 rfl sizeOf44 rfl rfl (H7).get.2) (aJ (bG 0 (l' := [_, _, _, _, _, _, _, _, _, _, _, _, _, _, _, _, _]) (us := [_, _, _, _, _, _, _, _, _, _, _, _, _, _, _, _, _]) H7.f17 sizeOf44 rfl rfl rfl (aC (by first | rfl | exact Rd.one ((H7.f2).aT)) (aC (by first | rfl | assumption) (aC (by first | rfl | assumption) (aC (by first | rfl | assumption) (aC (by first | rfl | assumption) (aC (by first | rfl | assumption) (aC (by first | rfl | assumption) (aC (by first | rfl | assumption) (aC (by first | rfl | assumption) (aC (by first | rfl | assumption) (aC (by first | rfl | assumption) (aC (by first | rfl | exact Rd.one ((H7.f3).aT)) (aC (by first | rfl | assumption) (aC (by first | rfl | exact Rd.one ((H7.f5).aT)) (aC (by first | rfl | assumption) (aC (by first | rfl | assumption) (aC (by first | rfl | assumption) bn))))))))))))))))) rfl rfl) ?_)))))
   rintro _ w8 H8
   refine aA (aj (aK ?_))
   refine kM (.inl rfl) (Gl results16 rfl underlying44 rfl (by rw [show (prog.info? 44).map (·.size) = some 17 from by kernel_rfl]; rfl) (H8).get.2) ?_
   have Qw := H8.f17.f17.f17.f17.f17.f17.f17.f17.f17.f17.f17
   have Qx := aB.dY (s := s) dI bM Qw
   refine ⟨u, ks, us, sv, ?_, Qx.f2.right.f2.right.f5.f5.f5.f5⟩
   unfold Et bH.QF bH.ZG bH.ZH
   rw [hin]
   rfl
  ·(try simp only [aG] at h1)
   have hin := h1
   refine aO (aj (ay (ah (aU (bV underlying44 rfl sizeOf44 rfl rfl (HJ).get.2) (aJ (bG 0 (l' := [_, _, _, _, _, _, _, _, _, _, _, _, _, _, _, _, _]) (us := [_, _, _, _, _, _, _, _, _, _, _, _, _, _, _, _, _]) HJ.f17 sizeOf44 rfl rfl rfl (aC (by first | rfl | exact Rd.one ((HJ.f2).aT)) (aC (by first | rfl | assumption) (aC (by first | rfl | assumption) (aC (by first | rfl | assumption) (aC (by first | rfl | assumption) (aC (by first | rfl | assumption) (aC (by first | rfl | assumption) (aC (by first | rfl | assumption) (aC (by first | rfl | assumption) (aC (by first | rfl | assumption) (aC (by first | rfl | assumption) (aC (by first | rfl | exact Rd.one ((HJ.f3).aT)) (aC (by first | rfl | assumption) (aC (by first | rfl | exact Rd.one ((HJ.f5).aT)) (aC (by first | rfl | assumption) (aC (by first | rfl | assumption) (aC (by first | rfl | assumption) bn))))))))))))))))) rfl rfl) ?_)))))
   rintro _ w12 vV
   refine aA (aj (aK ?_))
   refine kM (.inl rfl) (Gl results16 rfl underlying44 rfl (by rw [show (prog.info? 44).map (·.size) = some 17 from by kernel_rfl]; rfl) (vV).get.2) ?_
   have QS := vV.f17.f17.f17.f17.f17.f17.f17.f17.f17.f17.f17
   have QT := aB.dY (s := s) dI bM QS
   refine ⟨u, ks, us, sv, ?_, QT.f2.right.f2.right.f5.f5.f5.f5⟩
   unfold Et bH.QF bH.ZG bH.ZH
   rw [hin]
   rfl
 ·skip
  have Rw := H2.drew
  have bZ := aB.kp (Rw.f7.right.f7.right.f10.f10.f10.f10.f10.f10.f10.f10.f10.f10)
  refine wo [6, 11, 15, 19, 23, 28, 33, 38, 45, 48, 57, 61] bZ rfl (gV 0 rfl bZ rfl (gV 2 rfl bZ rfl (iZ 3 rfl bZ rfl (dV 4 rfl bZ 0 underlying69 rfl sizeOf64 rfl (dV 5 rfl bZ 4 underlying64 rfl sizeOf3 rfl (iy 6 rfl bZ (fun W hW => iQ underlying3 rfl ((Kp.h hW).f2).get.2 rfl) (gV 7 rfl bZ rfl (iZ 8 rfl bZ rfl (dV 9 rfl bZ 0 underlying69 rfl sizeOf64 rfl (dV 10 rfl bZ 5 underlying64 rfl sizeOf4 rfl (iy 11 rfl bZ (fun W hW => iQ underlying4 rfl ((Kp.h hW).f2).get.2 rfl) (gV 12 rfl bZ rfl (iZ 13 rfl bZ rfl (dV 14 rfl bZ 13 underlying69 rfl sizeOf4 rfl (iy 15 rfl bZ (fun W hW => iQ underlying4 rfl ((Kp.h hW).f2).get.2 rfl) (gV 16 rfl bZ rfl (iZ 17 rfl bZ rfl (dV 18 rfl bZ 14 underlying69 rfl sizeOf4 rfl (iy 19 rfl bZ (fun W hW => iQ underlying4 rfl ((Kp.h hW).f2).get.2 rfl) (gV 20 rfl bZ rfl (iZ 21 rfl bZ rfl (dV 22 rfl bZ 15 underlying69 rfl sizeOf3 rfl (iy 23 rfl bZ (fun W hW => iQ underlying3 rfl ((Kp.h hW).f2).get.2 rfl) (gV 24 rfl bZ rfl (iZ 25 rfl bZ rfl (dV 26 rfl bZ 0 underlying69 rfl sizeOf64 rfl (dV 27 rfl bZ 6 underlying64 rfl sizeOf3 rfl (iy 28 rfl bZ (fun W hW => iQ underlying3 rfl ((Kp.h hW).f2).get.2 rfl) (gV 29 rfl bZ rfl (iZ 30 rfl bZ rfl (dV 31 rfl bZ 0 underlying69 rfl sizeOf64 rfl (dV 32 rfl bZ 7 underlying64 rfl sizeOf3 rfl (iy 33 rfl bZ (fun W hW => iQ underlying3 rfl ((Kp.h hW).f2).get.2 rfl) (gV 34 rfl bZ rfl (iZ 35 rfl bZ rfl (dV 36 rfl bZ 0 underlying69 rfl sizeOf64 rfl (dV 37 rfl bZ 8 underlying64 rfl sizeOf3 rfl (iy 38 rfl bZ (fun W hW => iQ underlying3 rfl ((Kp.h hW).f2).get.2 rfl) (gV 39 rfl bZ rfl ?_)))))))))))))))))))))))))))))))))))))))
  refine gV 41 rfl bZ rfl (iZ 42 rfl bZ rfl (dV 43 rfl bZ 0 underlying69 rfl sizeOf64 rfl (dV 44 rfl bZ 2 underlying64 rfl sizeOf61 rfl (iy 45 rfl bZ (fun W hW => iQ underlying61 rfl ((Kp.h hW).f2).get.2 rfl) (iZ 46 rfl bZ rfl (dV 47 rfl bZ 0 underlying125 rfl sizeOf3 rfl (iy 48 rfl bZ (fun W hW => iQ underlying3 rfl ((Kp.h hW).f5).get.2 rfl) (gV 49 rfl bZ rfl (gV 51 rfl bZ rfl (gV 53 rfl bZ rfl (iZ 54 rfl bZ rfl (dV 55 rfl bZ 0 underlying69 rfl sizeOf64 rfl (dV 56 rfl bZ 9 underlying64 rfl sizeOf3 rfl (iy 57 rfl bZ (fun W hW => iQ underlying3 rfl ((Kp.h hW).f2).get.2 rfl) (gV 58 rfl bZ rfl (iZ 59 rfl bZ rfl (dV 60 rfl bZ 12 underlying69 rfl sizeOf66 rfl (iy 61 rfl bZ (fun W hW => iQ underlying66 rfl ((Kp.h hW).f2).get.2 rfl) ?_))))))))))))))))))
  refine sW (i := 1) (j := 64) (by kernel_rfl) ?_ ?_
  ·skip
   refine gZ 1 rfl (by kernel_rfl) (qP (qV rfl func32 rfl rfl) (BA Rw.f3.f3)) (lY rfl) ?_
   rintro _ w16 ⟨u16, rfl, rV⟩
   have zx := aB.kp (rV.f8.right.f8.right.f11.f11.f11.f11.f11.f11.f11.f11.f11.f11.f11)
   refine bW zx (fun W hW => (Kp.h hW).right.f10.f10.f10.f10.f10.f10.f10.f9.f9.f10) ?_
   refine sW (i := 40) (j := 64) (by kernel_rfl) ?_ ?_
   ·skip
    refine gZ 40 rfl (by kernel_rfl) (qP (qV rfl func55 rfl rfl) (vP rV.f5.f3)) (lY rfl) ?_
    rintro u17 UF ⟨aci, zO⟩
    have xR := aB.kp (zO.f10.right.f10.right.f13.f13.f13.f13.f13.f13.f13.f13.f13.f13.f13.f13.f13)
    refine bW xR (fun W hW => (Kp.h hW).right.right.f11.f11.f11.f11.f11.f11.f8.f11.f11.f10.f11) ?_
    refine sW (i := 50) (j := 64) (by kernel_rfl) ?_ ?_
    ·skip
     refine gZ 50 rfl (by kernel_rfl) (qP (qV rfl func56 rfl rfl) (qJ zO.f11.f10.f10.f6)) (lY rfl) ?_
     rintro u18 Tz Bd
     have zo := aB.kp (Bd.f12.right.f15.f15.f15.f15.f15.f15.f15.f15.f15.f15.f15.f15.f15.f15.f15)
     refine bW zo (fun W hW => (Kp.h hW).right.f4.right.f13.f13.f13.f13.f7.f7.f13.f13.f13.f13.f11.f13.f13) ?_
     refine sW (i := 52) (j := 64) (by kernel_rfl) ?_ ?_
     ·skip
      refine gZ 52 rfl (by kernel_rfl) (qP (qV rfl func57 rfl rfl) (lQ Bd.f14.f13.f5.f5 hU)) (lY rfl) ?_
      rintro _ Sz ⟨rfl, xk⟩
      have Jr := aB.kp (xk.f16.f16.f16.f16.f16.f16.f16.f16.f16.f16.f16.f16.f16.f16.f16.f16)
      refine bW Jr (fun W hW => (Kp.h hW).f3.right.f15.f15.f5.f15.f15.f15.f15.f15.f15.f15.f15.f15.f14.f14.f15) ?_
      refine sW (i := 62) (j := 64) (by kernel_rfl) ?_ ?_
      ·skip
       refine gZ 62 rfl (by kernel_rfl) (qP (qV rfl func58 rfl rfl) (kD xk.f14)) (lY rfl) ?_
       rintro _ _ ⟨rfl, rfl⟩
       have zB := aB.kp (xk.f16.f16.f16.f16.f16.f16.f16.f16.f16.f16.f16.f16.f16.f16.f16.f16)
       refine bW zB (fun W hW => (Kp.h hW).f16.f16.f16.f16.f16.f16.f16.f16.f16.f16.f16.f16.f16.f16.f16.f16) ?_
       refine iR 63 rfl zB (fun _ => dF (zl := [.slice none 0 0, .int .i64 0, .int .i64 0, .int .i64 0, .bool false, .bool false, .bool false, .int .i64 0, .int .i64 0, .int .i64 0, .int .i64 0, .slice none 0 0, .int .i64 0, .slice none 0 0, .int .i64 0, .int .i64 0, .int .i64 0]) (pl := [(0, 3), (3, 1), (4, 1), (5, 1), (6, 1), (7, 1), (8, 1), (9, 1), (10, 1), (11, 1), (12, 1), (13, 1), (14, 1), (15, 1), (16, 1)]) [_, _, _, _, _, _, _, _, _, _, _, _, _, _, _, _, _] underlying44 zeroValue44 rfl (fun w => by kernel_rfl) rfl (.agg (us := [_, _, _]) (zs := [.slice none 0 0, .int .i64 0, .int .i64 0]) rfl rfl (.one (by first | rfl | assumption) (.one (by first | rfl | assumption) (.one (by first | rfl | assumption) (.one (by first | rfl | assumption) (.one (by first | rfl | assumption) (.one (by first | rfl | assumption) (.one (by first | rfl | assumption) (.one (by first | rfl | assumption) (.one (Rd.one ((xk.f8).aT)) (.one (by first | rfl | assumption) (.one (Rd.one ((xk.f5).aT)) (.one (by first | rfl | assumption) (.one (by first | rfl | assumption) (.one (by first | rfl | assumption) .nil))))))))))))))) rfl) ?_
       refine jr 64 rfl (cZ (l := [_, _, _, _, _, _, _, _, _, _, _, _, _, _, _, _, _]) xk zeroValue44 rfl) ?_
       rintro _ TA ⟨b21, rfl, pF⟩
       have Yr := aB.kp (pF.f17.f17.f17.f17.f17.f17.f17.f17.f17.f17.f17.f17.f17.f17.f17.f17.f17)
       refine bW Yr (fun W hW => (Kp.h hW).right.f16.f16.f16.f16.f16.f16.f16.f16.f16.f16.f16.f16.f16.f16.f16.f16) ?_
       refine dN 65 rfl (by kernel_rfl) (bG 0 (l' := [_, _, _, _, _, _, _, _, _, _, _, _, _, _, _, _, _]) (us := [_, _, _, _, _, _, _, _, _, _, _, _, _, _, _, _, _]) pF sizeOf44 rfl rfl rfl (aC (by first | rfl | exact Rd.one ((pF.f12).aT)) (aC (by first | rfl | assumption) (aC (by first | rfl | assumption) (aC (by first | rfl | assumption) (aC (by first | rfl | assumption) (aC (by first | rfl | assumption) (aC (by first | rfl | assumption) (aC (by first | rfl | assumption) (aC (by first | rfl | assumption) (aC (by first | rfl | assumption) (aC (by first | rfl | assumption) (aC (by first | rfl | exact Rd.one ((pF.f9).aT)) (aC (by first | rfl | assumption) (aC (by first | rfl | exact Rd.one ((pF.f6).aT)) (aC (by first | rfl | assumption) (aC (by first | rfl | assumption) (aC (by first | rfl | assumption) bn))))))))))))))))) rfl rfl) ?_
       rintro _ Xh J6
       have zC := aB.kp (J6.f17.f17.f17.f17.f17.f17.f17.f17.f17.f17.f17.f17.f17.f17.f17.f17.f17)
       refine dR zC (by kernel_rfl) ?_
       refine nJ ?_
       refine bF (_, _, _, _, _, _) (Sub.cons rfl (Sub.cons rfl (Sub.nil _))) (Sub.cons rfl (Sub.nil _)) (by (try dsimp only); exact J6.f14.f17.f17.f8.f17.f12.f10.f12.f11.f15.f17.f13.f14.f16.f16.f17.f17)
      ·skip
       refine gZ 64 rfl (by kernel_rfl) (cZ (l := [_, _, _, _, _, _, _, _, _, _, _, _, _, _, _, _, _]) xk zeroValue44 rfl) (lY rfl) ?_
       rintro _ PZ ⟨b23, rfl, vY⟩
       have Bh := aB.kp (vY.f17.f17.f17.f17.f17.f17.f17.f17.f17.f17.f17.f17.f17.f17.f17.f17.f17)
       refine bW Bh (fun W hW => (Kp.h hW).right.f16.f16.f16.f16.f16.f16.f16.f16.f16.f16.f16.f16.f16.f16.f16.f16) ?_
       refine jr 62 rfl (rX rfl func58 (kD vY.f15)) ?_
       rintro _ _ ⟨rfl, rfl⟩
       have Ed := aB.kp (vY.f17.f17.f17.f17.f17.f17.f17.f17.f17.f17.f17.f17.f17.f17.f17.f17.f17)
       refine bW Ed (fun W hW => (Kp.h hW).f17.f17.f17.f17.f17.f17.f17.f17.f17.f17.f17.f17.f17.f17.f17.f17.f17) ?_
       refine iR 63 rfl Ed (fun _ => dF (zl := [.slice none 0 0, .int .i64 0, .int .i64 0, .int .i64 0, .bool false, .bool false, .bool false, .int .i64 0, .int .i64 0, .int .i64 0, .int .i64 0, .slice none 0 0, .int .i64 0, .slice none 0 0, .int .i64 0, .int .i64 0, .int .i64 0]) (pl := [(0, 3), (3, 1), (4, 1), (5, 1), (6, 1), (7, 1), (8, 1), (9, 1), (10, 1), (11, 1), (12, 1), (13, 1), (14, 1), (15, 1), (16, 1)]) [_, _, _, _, _, _, _, _, _, _, _, _, _, _, _, _, _] underlying44 zeroValue44 rfl (fun w => by kernel_rfl) rfl (.agg (us := [_, _, _]) (zs := [.slice none 0 0, .int .i64 0, .int .i64 0]) rfl rfl (.one (by first | rfl | assumption) (.one (by first | rfl | assumption) (.one (by first | rfl | assumption) (.one (by first | rfl | assumption) (.one (by first | rfl | assumption) (.one (by first | rfl | assumption) (.one (by first | rfl | assumption) (.one (by first | rfl | assumption) (.one (Rd.one ((vY.f9).aT)) (.one (by first | rfl | assumption) (.one (Rd.one ((vY.f6).aT)) (.one (by first | rfl | assumption) (.one (by first | rfl | assumption) (.one (by first | rfl | assumption) .nil))))))))))))))) rfl) ?_
       refine dN 65 rfl (by kernel_rfl) (bG 0 (l' := [_, _, _, _, _, _, _, _, _, _, _, _, _, _, _, _, _]) (us := [_, _, _, _, _, _, _, _, _, _, _, _, _, _, _, _, _]) vY sizeOf44 rfl rfl rfl (aC (by first | rfl | exact Rd.one ((vY.f12).aT)) (aC (by first | rfl | assumption) (aC (by first | rfl | assumption) (aC (by first | rfl | assumption) (aC (by first | rfl | assumption) (aC (by first | rfl | assumption) (aC (by first | rfl | assumption) (aC (by first | rfl | assumption) (aC (by first | rfl | assumption) (aC (by first | rfl | assumption) (aC (by first | rfl | assumption) (aC (by first | rfl | exact Rd.one ((vY.f9).aT)) (aC (by first | rfl | assumption) (aC (by first | rfl | exact Rd.one ((vY.f6).aT)) (aC (by first | rfl | assumption) (aC (by first | rfl | assumption) (aC (by first | rfl | assumption) bn))))))))))))))))) rfl rfl) ?_
       rintro _ Xi IZ
       have QV := aB.kp (IZ.f17.f17.f17.f17.f17.f17.f17.f17.f17.f17.f17.f17.f17.f17.f17.f17.f17)
       refine dR QV (by kernel_rfl) ?_
       refine nJ ?_
       refine bF (_, _, _, _, _, _) (Sub.cons rfl (Sub.cons rfl (Sub.nil _))) (Sub.cons rfl (Sub.nil _)) (by (try dsimp only); exact IZ.f14.f17.f17.f8.f17.f12.f10.f12.f11.f15.f17.f13.f14.f16.f16.f17.f17)
     ·skip
      refine gZ 64 rfl (by kernel_rfl) (cZ (l := [_, _, _, _, _, _, _, _, _, _, _, _, _, _, _, _, _]) Bd zeroValue44 rfl) (lY rfl) ?_
      rintro _ YQ ⟨b26, rfl, MI⟩
      have Yt := aB.kp (MI.f13.right.f16.f16.f16.f16.f16.f16.f16.f16.f16.f16.f16.f16.f16.f16.f16.f16)
      refine bW Yt (fun W hW => (Kp.h hW).right.f15.f15.f15.f15.f15.f15.f15.f15.f15.f15.f15.f15.f15.f15.f15) ?_
      refine jr 52 rfl (rX rfl func57 (lQ MI.f15.f14.f6.f6 hU)) ?_
      rintro _ YR ⟨rfl, Ih⟩
      have Yu := aB.kp (Ih.f17.f17.f17.f17.f17.f17.f17.f17.f17.f17.f17.f17.f17.f17.f17.f17.f17)
      refine bW Yu (fun W hW => (Kp.h hW).f3.right.f16.f16.f5.f16.f16.f16.f16.f16.f16.f16.f16.f16.f14.f14.f16.f16) ?_
      refine jr 62 rfl (rX rfl func58 (kD Ih.f15)) ?_
      rintro _ _ ⟨rfl, rfl⟩
      have U5 := aB.kp (Ih.f17.f17.f17.f17.f17.f17.f17.f17.f17.f17.f17.f17.f17.f17.f17.f17.f17)
      refine bW U5 (fun W hW => (Kp.h hW).f17.f17.f17.f17.f17.f17.f17.f17.f17.f17.f17.f17.f17.f17.f17.f17.f17) ?_
      refine iR 63 rfl U5 (fun _ => dF (zl := [.slice none 0 0, .int .i64 0, .int .i64 0, .int .i64 0, .bool false, .bool false, .bool false, .int .i64 0, .int .i64 0, .int .i64 0, .int .i64 0, .slice none 0 0, .int .i64 0, .slice none 0 0, .int .i64 0, .int .i64 0, .int .i64 0]) (pl := [(0, 3), (3, 1), (4, 1), (5, 1), (6, 1), (7, 1), (8, 1), (9, 1), (10, 1), (11, 1), (12, 1), (13, 1), (14, 1), (15, 1), (16, 1)]) [_, _, _, _, _, _, _, _, _, _, _, _, _, _, _, _, _] underlying44 zeroValue44 rfl (fun w => by kernel_rfl) rfl (.agg (us := [_, _, _]) (zs := [.slice none 0 0, .int .i64 0, .int .i64 0]) rfl rfl (.one (by first | rfl | assumption) (.one (by first | rfl | assumption) (.one (by first | rfl | assumption) (.one (by first | rfl | assumption) (.one (by first | rfl | assumption) (.one (by first | rfl | assumption) (.one (by first | rfl | assumption) (.one (by first | rfl | assumption) (.one (Rd.one ((Ih.f9).aT)) (.one (by first | rfl | assumption) (.one (Rd.one ((Ih.f6).aT)) (.one (by first | rfl | assumption) (.one (by first | rfl | assumption) (.one (by first | rfl | assumption) .nil))))))))))))))) rfl) ?_
      refine dN 65 rfl (by kernel_rfl) (bG 0 (l' := [_, _, _, _, _, _, _, _, _, _, _, _, _, _, _, _, _]) (us := [_, _, _, _, _, _, _, _, _, _, _, _, _, _, _, _, _]) Ih.f5 sizeOf44 rfl rfl rfl (aC (by first | rfl | exact Rd.one ((Ih.f12).aT)) (aC (by first | rfl | assumption) (aC (by first | rfl | assumption) (aC (by first | rfl | assumption) (aC (by first | rfl | assumption) (aC (by first | rfl | assumption) (aC (by first | rfl | assumption) (aC (by first | rfl | assumption) (aC (by first | rfl | assumption) (aC (by first | rfl | assumption) (aC (by first | rfl | assumption) (aC (by first | rfl | exact Rd.one ((Ih.f9).aT)) (aC (by first | rfl | assumption) (aC (by first | rfl | exact Rd.one ((Ih.f6).aT)) (aC (by first | rfl | assumption) (aC (by first | rfl | assumption) (aC (by first | rfl | assumption) bn))))))))))))))))) rfl rfl) ?_
      rintro _ Zm Ob
      have Yv := aB.kp (Ob.f17.f17.f17.f17.f17.f17.f17.f17.f17.f17.f17.f17.f17.f17.f17.f17.f17)
      refine dR Yv (by kernel_rfl) ?_
      refine nJ ?_
      refine bF (_, _, _, _, _, _) (Sub.cons rfl (Sub.cons rfl (Sub.nil _))) (Sub.cons rfl (Sub.nil _)) (by (try dsimp only); exact Ob.f14.f17.f17.f8.f17.f12.f10.f12.f11.f15.f17.f13.f14.f16.f16.f17.f17)
    ·skip
     refine gZ 64 rfl (by kernel_rfl) (cZ (l := [_, _, _, _, _, _, _, _, _, _, _, _, _, _, _, _, _]) zO zeroValue44 rfl) (lY rfl) ?_
     rintro _ YT ⟨b30, rfl, J7⟩
     have Yw := aB.kp (J7.f11.right.f11.right.f14.f14.f14.f14.f14.f14.f14.f14.f14.f14.f14.f14.f14.f14)
     refine bW Yw (fun W hW => (Kp.h hW).right.f13.f13.f13.f13.f13.f13.f13.f13.f13.f13.f13.f13.f13) ?_
     refine jr 50 rfl (rX rfl func56 (qJ J7.f12.f11.f11.f7)) ?_
     rintro u31 Wv J8
     have QW := aB.kp (J8.f13.right.f16.f16.f16.f16.f16.f16.f16.f16.f16.f16.f16.f16.f16.f16.f16.f16)
     refine bW QW (fun W hW => (Kp.h hW).right.f4.right.f14.f14.f14.f14.f7.f7.f14.f14.f14.f14.f11.f14.f14.f14) ?_
     refine jr 52 rfl (rX rfl func57 (lQ J8.f15.f14.f5.f5 hU)) ?_
     rintro _ w32 ⟨rfl, EI⟩
     have Nb := aB.kp (EI.f17.f17.f17.f17.f17.f17.f17.f17.f17.f17.f17.f17.f17.f17.f17.f17.f17)
     refine bW Nb (fun W hW => (Kp.h hW).f3.right.f16.f16.f5.f16.f16.f16.f16.f16.f16.f16.f16.f16.f16.f15.f15.f16) ?_
     refine jr 62 rfl (rX rfl func58 (kD EI.f15)) ?_
     rintro _ _ ⟨rfl, rfl⟩
     have Nc := aB.kp (EI.f17.f17.f17.f17.f17.f17.f17.f17.f17.f17.f17.f17.f17.f17.f17.f17.f17)
     refine bW Nc (fun W hW => (Kp.h hW).f17.f17.f17.f17.f17.f17.f17.f17.f17.f17.f17.f17.f17.f17.f17.f17.f17) ?_
     refine iR 63 rfl Nc (fun _ => dF (zl := [.slice none 0 0, .int .i64 0, .int .i64 0, .int .i64 0, .bool false, .bool false, .bool false, .int .i64 0, .int .i64 0, .int .i64 0, .int .i64 0, .slice none 0 0, .int .i64 0, .slice none 0 0, .int .i64 0, .int .i64 0, .int .i64 0]) (pl := [(0, 3), (3, 1), (4, 1), (5, 1), (6, 1), (7, 1), (8, 1), (9, 1), (10, 1), (11, 1), (12, 1), (13, 1), (14, 1), (15, 1), (16, 1)]) [_, _, _, _, _, _, _, _, _, _, _, _, _, _, _, _, _] underlying44 zeroValue44 rfl (fun w => by kernel_rfl) rfl (.agg (us := [_, _, _]) (zs := [.slice none 0 0, .int .i64 0, .int .i64 0]) rfl rfl (.one (by first | rfl | assumption) (.one (by first | rfl | assumption) (.one (by first | rfl | assumption) (.one (by first | rfl | assumption) (.one (by first | rfl | assumption) (.one (by first | rfl | assumption) (.one (by first | rfl | assumption) (.one (by first | rfl | assumption) (.one (Rd.one ((EI.f9).aT)) (.one (by first | rfl | assumption) (.one (Rd.one ((EI.f5).aT)) (.one (by first | rfl | assumption) (.one (by first | rfl | assumption) (.one (by first | rfl | assumption) .nil))))))))))))))) rfl) ?_
     refine dN 65 rfl (by kernel_rfl) (bG 0 (l' := [_, _, _, _, _, _, _, _, _, _, _, _, _, _, _, _, _]) (us := [_, _, _, _, _, _, _, _, _, _, _, _, _, _, _, _, _]) EI.f8 sizeOf44 rfl rfl rfl (aC (by first | rfl | exact Rd.one ((EI.f12).aT)) (aC (by first | rfl | assumption) (aC (by first | rfl | assumption) (aC (by first | rfl | assumption) (aC (by first | rfl | assumption) (aC (by first | rfl | assumption) (aC (by first | rfl | assumption) (aC (by first | rfl | assumption) (aC (by first | rfl | assumption) (aC (by first | rfl | assumption) (aC (by first | rfl | assumption) (aC (by first | rfl | exact Rd.one ((EI.f9).aT)) (aC (by first | rfl | assumption) (aC (by first | rfl | exact Rd.one ((EI.f5).aT)) (aC (by first | rfl | assumption) (aC (by first | rfl | assumption) (aC (by first | rfl | assumption) bn))))))))))))))))) rfl rfl) ?_
     rintro _ Y0 Nh
     have Bo := aB.kp (Nh.f17.f17.f17.f17.f17.f17.f17.f17.f17.f17.f17.f17.f17.f17.f17.f17.f17)
     refine dR Bo (by kernel_rfl) ?_
     refine nJ ?_
     refine bF (_, _, _, _, _, _) (Sub.cons rfl (Sub.cons rfl (Sub.nil _))) (Sub.cons rfl (Sub.nil _)) (by (try dsimp only); exact Nh.f14.f17.f17.f8.f17.f12.f10.f12.f11.f15.f17.f13.f14.f16.f16.f17.f17)
   ·skip
    refine gZ 64 rfl (by kernel_rfl) (cZ (l := [_, _, _, _, _, _, _, _, _, _, _, _, _, _, _, _, _]) rV zeroValue44 rfl) (lY rfl) ?_
    rintro _ w35 ⟨b35, rfl, TT⟩
    have QX := aB.kp (TT.f9.right.f9.right.f12.f12.f12.f12.f12.f12.f12.f12.f12.f12.f12.f12)
    refine bW QX (fun W hW => (Kp.h hW).right.f11.f11.f11.f11.f11.f11.f11.f11.f11.f11.f11) ?_
    refine jr 40 rfl (rX rfl func55 (vP TT.f6.f4)) ?_
    rintro u36 w36 ⟨acj, WE⟩
    have Nu := aB.kp (WE.f11.right.f11.right.f14.f14.f14.f14.f14.f14.f14.f14.f14.f14.f14.f14.f14.f14)
    refine bW Nu (fun W hW => (Kp.h hW).right.right.f12.f12.f12.f12.f12.f12.f8.f12.f12.f10.f12.f12) ?_
    refine jr 50 rfl (rX rfl func56 (qJ WE.f12.f11.f11.f6)) ?_
    rintro u37 w37 UW
    have Rx := aB.kp (UW.f13.right.f16.f16.f16.f16.f16.f16.f16.f16.f16.f16.f16.f16.f16.f16.f16.f16)
    refine bW Rx (fun W hW => (Kp.h hW).right.f4.right.f14.f14.f14.f14.f7.f7.f14.f14.f14.f14.f14.f12.f14.f14) ?_
    refine jr 52 rfl (rX rfl func57 (lQ UW.f15.f14.f5.f5 hU)) ?_
    rintro _ Y1 ⟨rfl, Lm⟩
    have Yx := aB.kp (Lm.f17.f17.f17.f17.f17.f17.f17.f17.f17.f17.f17.f17.f17.f17.f17.f17.f17)
    refine bW Yx (fun W hW => (Kp.h hW).f3.right.f16.f16.f5.f16.f16.f16.f16.f16.f16.f16.f16.f16.f16.f15.f15.f16) ?_
    refine jr 62 rfl (rX rfl func58 (kD Lm.f15)) ?_
    rintro _ _ ⟨rfl, rfl⟩
    have JD := aB.kp (Lm.f17.f17.f17.f17.f17.f17.f17.f17.f17.f17.f17.f17.f17.f17.f17.f17.f17)
    refine bW JD (fun W hW => (Kp.h hW).f17.f17.f17.f17.f17.f17.f17.f17.f17.f17.f17.f17.f17.f17.f17.f17.f17) ?_
    refine iR 63 rfl JD (fun _ => dF (zl := [.slice none 0 0, .int .i64 0, .int .i64 0, .int .i64 0, .bool false, .bool false, .bool false, .int .i64 0, .int .i64 0, .int .i64 0, .int .i64 0, .slice none 0 0, .int .i64 0, .slice none 0 0, .int .i64 0, .int .i64 0, .int .i64 0]) (pl := [(0, 3), (3, 1), (4, 1), (5, 1), (6, 1), (7, 1), (8, 1), (9, 1), (10, 1), (11, 1), (12, 1), (13, 1), (14, 1), (15, 1), (16, 1)]) [_, _, _, _, _, _, _, _, _, _, _, _, _, _, _, _, _] underlying44 zeroValue44 rfl (fun w => by kernel_rfl) rfl (.agg (us := [_, _, _]) (zs := [.slice none 0 0, .int .i64 0, .int .i64 0]) rfl rfl (.one (by first | rfl | assumption) (.one (by first | rfl | assumption) (.one (by first | rfl | assumption) (.one (by first | rfl | assumption) (.one (by first | rfl | assumption) (.one (by first | rfl | assumption) (.one (by first | rfl | assumption) (.one (by first | rfl | assumption) (.one (Rd.one ((Lm.f8).aT)) (.one (by first | rfl | assumption) (.one (Rd.one ((Lm.f5).aT)) (.one (by first | rfl | assumption) (.one (by first | rfl | assumption) (.one (by first | rfl | assumption) .nil))))))))))))))) rfl) ?_
    refine dN 65 rfl (by kernel_rfl) (bG 0 (l' := [_, _, _, _, _, _, _, _, _, _, _, _, _, _, _, _, _]) (us := [_, _, _, _, _, _, _, _, _, _, _, _, _, _, _, _, _]) Lm.f11 sizeOf44 rfl rfl rfl (aC (by first | rfl | exact Rd.one ((Lm.f12).aT)) (aC (by first | rfl | assumption) (aC (by first | rfl | assumption) (aC (by first | rfl | assumption) (aC (by first | rfl | assumption) (aC (by first | rfl | assumption) (aC (by first | rfl | assumption) (aC (by first | rfl | assumption) (aC (by first | rfl | assumption) (aC (by first | rfl | assumption) (aC (by first | rfl | assumption) (aC (by first | rfl | exact Rd.one ((Lm.f8).aT)) (aC (by first | rfl | assumption) (aC (by first | rfl | exact Rd.one ((Lm.f5).aT)) (aC (by first | rfl | assumption) (aC (by first | rfl | assumption) (aC (by first | rfl | assumption) bn))))))))))))))))) rfl rfl) ?_
    rintro _ w40 Yp
    have Yy := aB.kp (Yp.f17.f17.f17.f17.f17.f17.f17.f17.f17.f17.f17.f17.f17.f17.f17.f17.f17)
    refine dR Yy (by kernel_rfl) ?_
    refine nJ ?_
    refine bF (_, _, _, _, _, _) (Sub.cons rfl (Sub.cons rfl (Sub.nil _))) (Sub.cons rfl (Sub.nil _)) (by (try dsimp only); exact Yp.f14.f17.f17.f8.f17.f12.f10.f12.f11.f15.f17.f13.f14.f16.f16.f17.f17)
  ·skip
   refine gZ 64 rfl (by kernel_rfl) (cZ (l := [_, _, _, _, _, _, _, _, _, _, _, _, _, _, _, _, _]) Rw zeroValue44 rfl) (lY rfl) ?_
   rintro _ w41 ⟨b41, rfl, TU⟩
   have QY := aB.kp (TU.f8.right.f8.right.f11.f11.f11.f11.f11.f11.f11.f11.f11.f11.f11)
   refine bW QY (fun W hW => (Kp.h hW).right.f10.f10.f10.f10.f10.f10.f10.f10.f10.f10) ?_
   refine jr 1 rfl (rX rfl func32 (BA TU.f4.f4)) ?_
   rintro _ w42 ⟨u42, rfl, SE⟩
   have FM := aB.kp (SE.f9.right.f9.right.f12.f12.f12.f12.f12.f12.f12.f12.f12.f12.f12.f12)
   refine bW FM (fun W hW => (Kp.h hW).right.f11.f11.f11.f11.f11.f11.f11.f9.f9.f11.f11) ?_
   refine jr 40 rfl (rX rfl func55 (vP SE.f6.f3)) ?_
   rintro u43 Y2 ⟨ack, SG⟩
   have QZ := aB.kp (SG.f11.right.f11.right.f14.f14.f14.f14.f14.f14.f14.f14.f14.f14.f14.f14.f14.f14)
   refine bW QZ (fun W hW => (Kp.h hW).right.right.f12.f12.f12.f12.f12.f12.f8.f12.f12.f12.f11.f12) ?_
   refine jr 50 rfl (rX rfl func56 (qJ SG.f12.f11.f11.f6)) ?_
   rintro u44 w44 UY
   have Yz := aB.kp (UY.f13.right.f16.f16.f16.f16.f16.f16.f16.f16.f16.f16.f16.f16.f16.f16.f16.f16)
   refine bW Yz (fun W hW => (Kp.h hW).right.f4.right.f14.f14.f14.f14.f7.f7.f14.f14.f14.f14.f14.f12.f14.f14) ?_
   refine jr 52 rfl (rX rfl func57 (lQ UY.f15.f14.f5.f5 hU)) ?_
   rintro _ Y3 ⟨rfl, J9⟩
   have YA := aB.kp (J9.f17.f17.f17.f17.f17.f17.f17.f17.f17.f17.f17.f17.f17.f17.f17.f17.f17)
   refine bW YA (fun W hW => (Kp.h hW).f3.right.f16.f16.f5.f16.f16.f16.f16.f16.f16.f16.f16.f16.f16.f15.f15.f16) ?_
   refine jr 62 rfl (rX rfl func58 (kD J9.f15)) ?_
   rintro _ _ ⟨rfl, rfl⟩
   have U6 := aB.kp (J9.f17.f17.f17.f17.f17.f17.f17.f17.f17.f17.f17.f17.f17.f17.f17.f17.f17)
   refine bW U6 (fun W hW => (Kp.h hW).f17.f17.f17.f17.f17.f17.f17.f17.f17.f17.f17.f17.f17.f17.f17.f17.f17) ?_
   refine iR 63 rfl U6 (fun _ => dF (zl := [.slice none 0 0, .int .i64 0, .int .i64 0, .int .i64 0, .bool false, .bool false, .bool false, .int .i64 0, .int .i64 0, .int .i64 0, .int .i64 0, .slice none 0 0, .int .i64 0, .slice none 0 0, .int .i64 0, .int .i64 0, .int .i64 0]) (pl := [(0, 3), (3, 1), (4, 1), (5, 1), (6, 1), (7, 1), (8, 1), (9, 1), (10, 1), (11, 1), (12, 1), (13, 1), (14, 1), (15, 1), (16, 1)]) [_, _, _, _, _, _, _, _, _, _, _, _, _, _, _, _, _] underlying44 zeroValue44 rfl (fun w => by kernel_rfl) rfl (.agg (us := [_, _, _]) (zs := [.slice none 0 0, .int .i64 0, .int .i64 0]) rfl rfl (.one (by first | rfl | assumption) (.one (by first | rfl | assumption) (.one (by first | rfl | assumption) (.one (by first | rfl | assumption) (.one (by first | rfl | assumption) (.one (by first | rfl | assumption) (.one (by first | rfl | assumption) (.one (by first | rfl | assumption) (.one (Rd.one ((J9.f8).aT)) (.one (by first | rfl | assumption) (.one (Rd.one ((J9.f5).aT)) (.one (by first | rfl | assumption) (.one (by first | rfl | assumption) (.one (by first | rfl | assumption) .nil))))))))))))))) rfl) ?_
   refine dN 65 rfl (by kernel_rfl) (bG 0 (l' := [_, _, _, _, _, _, _, _, _, _, _, _, _, _, _, _, _]) (us := [_, _, _, _, _, _, _, _, _, _, _, _, _, _, _, _, _]) J9.f13 sizeOf44 rfl rfl rfl (aC (by first | rfl | exact Rd.one ((J9.f11).aT)) (aC (by first | rfl | assumption) (aC (by first | rfl | assumption) (aC (by first | rfl | assumption) (aC (by first | rfl | assumption) (aC (by first | rfl | assumption) (aC (by first | rfl | assumption) (aC (by first | rfl | assumption) (aC (by first | rfl | assumption) (aC (by first | rfl | assumption) (aC (by first | rfl | assumption) (aC (by first | rfl | exact Rd.one ((J9.f8).aT)) (aC (by first | rfl | assumption) (aC (by first | rfl | exact Rd.one ((J9.f5).aT)) (aC (by first | rfl | assumption) (aC (by first | rfl | assumption) (aC (by first | rfl | assumption) bn))))))))))))))))) rfl rfl) ?_
   rintro _ w47 V4
   have YB := aB.kp (V4.f17.f17.f17.f17.f17.f17.f17.f17.f17.f17.f17.f17.f17.f17.f17.f17.f17)
   refine dR YB (by kernel_rfl) ?_
   refine nJ ?_
   refine bF (_, _, _, _, _, _) (Sub.cons rfl (Sub.cons rfl (Sub.nil _))) (Sub.cons rfl (Sub.nil _)) (by (try dsimp only); exact V4.f14.f17.f17.f8.f17.f12.f10.f12.f11.f15.f17.f13.f14.f16.f16.f17.f17)
end
end Go.Proofs.YtddekefihgejoaaGreatDoor
end
section
namespace Go.Proofs.YtddekefihgejoaaGreatDoor
open Go.RowKit
def ends (T : List (Int × Int)) : List Int := T.flatMap fun x => [x.1, x.2]
section
variable {w0 w : World} {F : HP} {r : Int}
abbrev aaM : List (Int × Int) := [(48, 57), (65, 90), (97, 122)]
abbrev acm : List (Int × Int) := [(215, 215), (247, 247), (8192, 8303), (12288, 12351), (65280, 65295), (65533, 65533)]
end
end Go.Proofs.YtddekefihgejoaaGreatDoor
end
