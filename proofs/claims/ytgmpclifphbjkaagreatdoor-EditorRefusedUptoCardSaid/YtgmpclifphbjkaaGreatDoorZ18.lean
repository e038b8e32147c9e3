import Derived.Test.YtgmpclifphbjkaaGreatDoorZ2
import Derived.Test.YtgmpclifphbjkaaGreatDoorZ17
import Derived.Test.YtgmpclifphbjkaaGreatDoorZ4
set_option linter.unusedSimpArgs false
set_option linter.unusedVariables false
/- Texts of mine, joined, their names in short: EdS3 RefTab. -/
section
namespace Go.Proofs.YtgmpclifphbjkaaGreatDoor
open Go.RowKit
open _root_.Go.Proofs.Tryz
def Jq (s : aY) (u ks sv : Value) : List Value := [u, .int .i64 s.c.pt, .int .i64 s.c.mark, .int .i64 s.c.mode, .bool s.c.over, .bool s.given, .bool s.minus, .int .i64 s.arg, .int .i64 s.CW, .int .i64 s.Zl, .int .i64 s.Zm, ks, .int .i64 s.c.place, sv, .int .i64 s.uT, .int .i64 s.c.res, .int .i64 s.iO]
section
variable {w0 w : World} {F : HP} {e p ph pw pt pr pm pb : Nat} {s : aY} {k x place : Int} {hl : List mM} {base most cls : Int} {tx : Int → Option ByteArray} {v pv : Value} {U : Int → List (List eH)} {L : List Int} {X3 mk : Int}
theorem Di {x1 x2 x3 x4 x5 x6 x7 x8 x9 x10 x12 zX x14 x15 x16 x17 x18 x19 x20 x21 zy x23 x24 x25 zA x27 x28 x29 x30 x31 x32 BH : Value} (H : aB w0 w (dA e (.cells (.pointer (some ⟨pb, 0, none⟩) :: x1 :: x2 :: x3 :: x4 :: x5 :: x6 :: x7 :: x8 :: x9 :: x10 :: .pointer (some ⟨ph, 0, none⟩) :: x12 :: zX :: x14 :: x15 :: x16 :: x17 :: x18 :: x19 :: x20 :: x21 :: zy :: x23 :: x24 :: x25 :: zA :: x27 :: x28 :: x29 :: x30 :: x31 :: x32 :: BH :: []).toArray 66 (0, 0)) • dJ pb L X3 mk • F)) : fQ prog 18 #[.pointer (some ⟨e, 0, none⟩)] w fun v' w' =>
  ∃ u, v' = .agg (lS u X3 mk) ∧ aB w0 w' (iG 21 .i32 u L • dA e (.cells (.pointer (some ⟨pb, 0, none⟩) :: x1 :: x2 :: x3 :: x4 :: x5 :: x6 :: x7 :: x8 :: x9 :: x10 :: .pointer (some ⟨ph, 0, none⟩) :: x12 :: zX :: x14 :: x15 :: x16 :: x17 :: x18 :: x19 :: x20 :: x21 :: zy :: x23 :: x24 :: x25 :: zA :: x27 :: x28 :: x29 :: x30 :: x31 :: x32 :: BH :: []).toArray 66 (0, 0)) • dJ pb L X3 mk • F) := by
 refine gX func18 ntmps18 ?_
 dsimp only [bg, Nat.reduceAdd]
 refine ay (ah (iy (dI (l := [_, _, _]) H zeroValue42 rfl) ?_))
 rintro _ w1 ⟨b1, rfl, H1⟩
 refine aA (aj (ay (ay (ah (aO rfl (dw rfl func43 (yD H1.f2) ?_))))))
 rintro _ _ ⟨rfl, rfl⟩
 refine aA (aj (qN (aS (aj (ay (ah (aO rfl (bH rfl (aZ 0 underlying66 rfl sizeOf62 rfl (aZ 0 underlying62 rfl sizeOf57 rfl (cO underlying57 rfl (H1.f2).get.2 rfl (dw rfl func62 (IV H1.f3) ?_))))))))))))
 rintro _ w3 ⟨u3, rfl, H3⟩
 refine aI (bJ 0 (l' := [_, _, _]) (us := [_, _, _]) H3.f3 sizeOf42 rfl rfl rfl (aC (by first | rfl | exact Rd.one ((H3).aT)) (aC (by first | rfl | assumption) (aC (by first | rfl | assumption) bn))) rfl rfl) ?_
 rintro _ w4 H4
 refine aA (aj (aJ ?_))
 refine oq (.inl rfl) (MO results18 rfl underlying42 rfl (by rw [show (prog.info? 42).map (·.size) = some 3 from by kernel_rfl]; rfl) (H4).get.2) ?_
 exact ⟨_, rfl, H4.right.f2.f3.f3⟩
theorem sG {x0 x1 x3 x4 x5 x6 x7 x8 x9 x10 x12 zX x14 x15 x16 x17 x18 x19 x20 x21 zy x23 x24 x25 zA x27 x28 x29 x30 x31 x32 BH : Value} (H : aB w0 w (dA e (.cells (x0 :: x1 :: .pointer (some ⟨pw, 0, none⟩) :: x3 :: x4 :: x5 :: x6 :: x7 :: x8 :: x9 :: x10 :: .pointer (some ⟨ph, 0, none⟩) :: x12 :: zX :: x14 :: x15 :: x16 :: x17 :: x18 :: x19 :: x20 :: x21 :: zy :: x23 :: x24 :: x25 :: zA :: x27 :: x28 :: x29 :: x30 :: x31 :: x32 :: BH :: []).toArray 66 (0, 0)) • dA pw (.cells #[.int .i64 place, .map (some pt)] 112 (0, 0)) • fF mQ pt (mV tx) • dZ ph hl base most • F)) :
    fQ prog 54 #[.pointer (some ⟨e, 0, none⟩)] w fun v' w' => aB w0 w' (Row 130 2 v' (wL hl tx place).length ((wL hl tx place).flatMap ni) •
      dA e (.cells (x0 :: x1 :: .pointer (some ⟨pw, 0, none⟩) :: x3 :: x4 :: x5 :: x6 :: x7 :: x8 :: x9 :: x10 :: .pointer (some ⟨ph, 0, none⟩) :: x12 :: zX :: x14 :: x15 :: x16 :: x17 :: x18 :: x19 :: x20 :: x21 :: zy :: x23 :: x24 :: x25 :: zA :: x27 :: x28 :: x29 :: x30 :: x31 :: x32 :: BH :: []).toArray 66 (0, 0)) • dA pw (.cells #[.int .i64 place, .map (some pt)] 112 (0, 0)) • fF mQ pt (mV tx) • dZ ph hl base most • F) := by
  have hb : hl.length ≤ 4096 := by obtain ⟨v, h, _⟩ := H.r4.hist; exact h.1
  refine gX func54 ntmps54 ?_
  dsimp only [bg, Nat.reduceAdd]
  refine ay (ah (aV rfl (aA (aj (ay (ah (aV rfl (aA (aj (ay (ah (aO rfl (bH rfl (aZ 11 underlying66 rfl sizeOf24 rfl (cO underlying24 rfl (H).get.2 rfl (dw rfl func75 (jY H.f4) ?_))))))))))))))))
  rintro _ w1 ⟨rfl, H1⟩
  refine aV rfl (aA (aj (ay (ay (ah (aO rfl (aO rfl (aA (aj (bf ?_))))))))))
  refine fM [(0, _), (4, _), (11, _)] (fun (⟨i, u⟩ : Nat × Value) => [(3, u), (12, .int .i64 (i : Int))]) (fun (⟨i, u⟩ : Nat × Value) W => i ≤ hl.length ∧ aB w0 W (Row 130 2 u (mP hl tx place i).length ((mP hl tx place i).flatMap ni) • dA e (.cells (x0 :: x1 :: .pointer (some ⟨pw, 0, none⟩) :: x3 :: x4 :: x5 :: x6 :: x7 :: x8 :: x9 :: x10 :: .pointer (some ⟨ph, 0, none⟩) :: x12 :: zX :: x14 :: x15 :: x16 :: x17 :: x18 :: x19 :: x20 :: x21 :: zy :: x23 :: x24 :: x25 :: zA :: x27 :: x28 :: x29 :: x30 :: x31 :: x32 :: BH :: []).toArray 66 (0, 0)) • dA pw (.cells #[.int .i64 place, .map (some pt)] 112 (0, 0)) • fF mQ pt (mV tx) • dZ ph hl base most • F)) (fun (⟨i, u⟩ : Nat × Value) => hl.length - i) ((0, .slice none 0 0)) (Sub.cons rfl (Sub.cons rfl (Sub.cons rfl (Sub.nil _)))) (Sub.cons rfl (Sub.cons rfl (Sub.nil _))) ⟨by omega, H1.f4.f4.f4.fZ none⟩ ?_
  rintro ⟨i, u⟩ w2 ⟨hi, HL⟩
  dsimp only [List.cons_append, List.nil_append]
  refine ay (ah (aU (dL rfl rfl) (aA (aj (ay (aH rfl (fun h1 => ?_) (fun h1 => ?_)))))))
  · (try simp only [aG] at h1)
    refine aS (aj (ay (bf (ay (ah (aO rfl (aV rfl (aA (aj (ay ?_))))))))))
    have hLen := rC hl tx place i
    refine ah (aO rfl (aO rfl (bH rfl (aZ 0 underlying66 rfl sizeOf62 rfl (aZ 2 underlying62 rfl sizeOf59 rfl (cO underlying59 rfl (HL.f2).get.2 rfl (bH rfl (aZ 0 underlying112 rfl sizeOf3 rfl (cO underlying3 rfl (HL.f3).get.2 rfl (aU (bZ rfl rfl) (jo rfl (fun h2 => ?_) (fun h2 => ?_))))))))))))
    · (try simp only [aG] at h2)
      have hpl := h2
      refine bD (aO rfl (bD (aO rfl (bD (dw rfl func78 (nU HL.f5.f5.f5.f5) ?_)))))
      rintro _ w3 ⟨rfl, H3⟩
      refine bD (aO rfl (bD (aO rfl (bD (dw rfl func124 (Bo H3.f4.f2) ?_)))))
      rintro _ w4 ⟨rfl, H4⟩
      refine bD (aU (PN rfl rfl) (jO rfl rfl (aA (aj (aH rfl (fun h3 => ?_) (fun h3 => ?_))))))
      · (try simp only [aG] at h3)
        have hsv := Lu (hl := hl) (tx := tx) (place := place) (i := i) (by unfold yT; rw [decide_eq_true hpl]; simpa using h3)
        refine ah (aO rfl (aO rfl (aO rfl (aO rfl (dw rfl func78 (nU H4.f2.f4.f4.f4) ?_)))))
        rintro _ w5 ⟨rfl, H5⟩
        refine aU (dV (zl := [.int .i64 0, .string .empty]) (pl := [(0, 1), (1, 1)]) [_, _] underlying130 zeroValue130 rfl (fun w => by kernel_rfl) rfl (.one (by first | rfl | assumption) (.one (by first | rfl | assumption) .nil)) rfl) ?_
        refine iy (oL H5 underlying44 sizeOf130 zeroValue130 rfl rfl rfl (by decide) (by decide)) ?_
        rintro l6 w6 H6
        refine iy (fK H6.f6 underlying44 (show (prog.info? 130).map (fun i => (i.zero, i.size, i.bytes)) = some (some (.agg #[.int .i64 0, .string .empty]), 2, 24) by kernel_rfl) rfl rfl rfl ((H6).aT) (aC (by first | rfl | assumption) (aC (by first | rfl | assumption) bn)) (by omega) (by omega)) ?_
        rintro l7 w7 H7
        have Hd8 := H7.f2.right
        refine aV rfl (aA (aQ (aj (ah (aU (eP rfl rfl (by omega)) (aO rfl (aA ?_)))))))
        have hLen := rC hl tx place i
        refine dK ((i + 1, l7)) ?_ ?_ ?_ ?_
        · exact (Sub.cons rfl (Sub.cons rfl (Sub.nil _)))
        · exact (Sub.cons rfl (Sub.cons rfl (Sub.cons rfl (Sub.nil _))))
        · (try dsimp only)
          first | done | exact ⟨by omega, by first | (rw [hsv, List.length_append, List.flatMap_append]; exact Hd8.f5.f5.f5.f5.f5) | (rw [hsv]; exact Hd8.f5.f5.f5.f5.f5)⟩
        · (try dsimp only); omega
      · (try simp only [aG] at h3)
        have hsv := Fp (hl := hl) (tx := tx) (place := place) (i := i) (by unfold yT; rw [decide_eq_true hpl]; simpa using h3)
        refine aS (aQ (aj (ah (aU (eP rfl rfl (by omega)) (aO rfl (aA ?_))))))
        have hLen := rC hl tx place i
        refine dK ((i + 1, u)) ?_ ?_ ?_ ?_
        · exact (Sub.cons rfl (Sub.cons rfl (Sub.nil _)))
        · exact (Sub.cons rfl (Sub.cons rfl (Sub.cons rfl (Sub.nil _))))
        · (try dsimp only)
          first | done | exact ⟨by omega, by first | (rw [hsv, List.length_append, List.flatMap_append]; exact H4.f2.f4.f4.f4.f5) | (rw [hsv]; exact H4.f2.f4.f4.f4.f5)⟩
        · (try dsimp only); omega
    · (try simp only [aG] at h2)
      have hsv := Fp (hl := hl) (tx := tx) (place := place) (i := i) (by unfold yT; rw [decide_eq_false (by simpa using h2)]; rfl)
      refine bI (bI (bI (bI (bI (bI (bI (jr rfl rfl (aA (aj (qN (aS (aQ (aj (ah (aU (eP rfl rfl (by omega)) (aO rfl (aA ?_)))))))))))))))))
      have hLen := rC hl tx place i
      refine dK ((i + 1, u)) ?_ ?_ ?_ ?_
      · exact (Sub.cons rfl (Sub.cons rfl (Sub.nil _)))
      · exact (Sub.cons rfl (Sub.cons rfl (Sub.cons rfl (Sub.nil _))))
      · (try dsimp only)
        first | done | exact ⟨by omega, by first | (rw [hsv, List.length_append, List.flatMap_append]; exact HL.f5.f5.f5.f5.f5) | (rw [hsv]; exact HL.f5.f5.f5.f5.f5)⟩
      · (try dsimp only); omega
  · (try simp only [aG] at h1)
    refine fG (aX ?_)
    obtain rfl : i = hl.length := by omega
    refine aX (bM (aj (ay (ay ?_))))
    have hLen := rC hl tx place hl.length
    refine ah (aO rfl (bH rfl (aZ 0 underlying66 rfl sizeOf62 rfl (aZ 2 underlying62 rfl sizeOf59 rfl (cO underlying59 rfl (HL.f2).get.2 rfl (bH rfl (aZ 0 underlying112 rfl sizeOf3 rfl (cO underlying3 rfl (HL.f3).get.2 rfl (aO rfl (aU (bZ rfl rfl) (aA (aj (aH rfl (fun h4 => ?_) (fun h4 => ?_))))))))))))))
    · (try simp only [aG] at h4)
      have hsv : wL hl tx place = mP hl tx place hl.length ++ [((hl.length : Int), iH hl tx hl.length)] := by unfold wL; rw [if_pos h4]
      refine ah (aO rfl (aO rfl (aO rfl (aO rfl (dw rfl func78 (nU HL.f5.f5.f5.f5) ?_)))))
      rintro _ w9 ⟨rfl, H9⟩
      refine aU (dV (zl := [.int .i64 0, .string .empty]) (pl := [(0, 1), (1, 1)]) [_, _] underlying130 zeroValue130 rfl (fun w => by kernel_rfl) rfl (.one (by first | rfl | assumption) (.one (by first | rfl | assumption) .nil)) rfl) ?_
      refine iy (oL H9 underlying44 sizeOf130 zeroValue130 rfl rfl rfl (by decide) (by decide)) ?_
      rintro l10 w10 oP
      refine iy (fK oP.f6 underlying44 (show (prog.info? 130).map (fun i => (i.zero, i.size, i.bytes)) = some (some (.agg #[.int .i64 0, .string .empty]), 2, 24) by kernel_rfl) rfl rfl rfl ((oP).aT) (aC (by first | rfl | assumption) (aC (by first | rfl | assumption) bn)) (by omega) (by omega)) ?_
      rintro l11 FT uV
      have Gn := uV.f2.right
      refine aV rfl (aA (aj (ay (ah (aO rfl (aV rfl (aA (aj (aJ (aP (.inl rfl) results54 rfl ?_))))))))))
      first
        | (rw [hsv, List.length_append, List.flatMap_append]; exact Gn.f5.f5.f5.f5.f5)
        | (rw [hsv]; exact Gn.f5.f5.f5.f5.f5)
    · (try simp only [aG] at h4)
      have hsv : wL hl tx place = mP hl tx place hl.length := by unfold wL; rw [if_neg (by simpa using h4), List.append_nil]
      refine aS (aj (ay (ah (aO rfl (aV rfl (aA (aj (aJ (aP (.inl rfl) results54 rfl ?_)))))))))
      first
        | (rw [hsv, List.length_append, List.flatMap_append]; exact HL.f5.f5.f5.f5.f5)
        | (rw [hsv]; exact HL.f5.f5.f5.f5.f5)
theorem QA {u0 u1 u2 u3 u4 u5 u6 u7 u8 u9 ua : Value} (hin : s.inn = true) (H : aB w0 w (tK s.inn s.was [u0, u1, u2, u3, u4, u5, u6, u7, u8, u9, ua] • F)) : u6 = .int .i64 s.was.last ∧ u7 = .int .i64 s.was.fr ∧ u8 = .int .i64 s.was.to := by
  rw [hin] at H
  obtain ⟨qb, qr, qw, qt, qm, hu, -⟩ := H.was
  simp only [KN, List.cons.injEq, and_true] at hu
  exact ⟨hu.2.2.2.2.2.2.1, hu.2.2.2.2.2.2.2.1, hu.2.2.2.2.2.2.2.2.1⟩
set_option maxHeartbeats 1000000 in
theorem wW (H : aB w0 w (dD e s • F)) : fQ prog 14 #[.pointer (some ⟨e, 0, none⟩)] w fun v w' => ∃ u ks us sv, v = .agg (Jq s u ks sv).toArray ∧
  aB w0 w' (iG 21 .i32 u s.c.L • Row 22 1 ks s.c.E.length us • xK 21 .i32 us (pO s.c.E s.c.at_) • Row 130 2 sv s.saved.length (s.saved.flatMap ni) • dD e s • F) := by
 refine gX func14 ntmps14 ?_
 dsimp only [bg, Nat.reduceAdd]
 obtain ⟨nD, nN, nO, oG, nP, nR, nS, nT, mG, lu, lC, lD, lF, lG, lH, lI, lJ, lK, lM, lN, cZ, bC, gG, dn⟩ := (H).Ak
 have hU : (s.c.un s.c.place).length ≤ 16384 := by
  obtain ⟨D, P, hD1, hD2, HU⟩ := (dn.f6).Tc
  by_cases hm : s.c.place ∈ D
  ·have HF := HU.swap
   rw [oN hm] at HF
   obtain ⟨_, _, _, _, k1, _⟩ := HF.flat.rW
   have := k1.len; simpa using this
  ·rw [hD2 _ hm]; decide
 refine ay (ah (iy (dI (l := [_, _, _, _, _, _, _, _, _, _, _, _, _, _, _, _, _]) dn zeroValue46 rfl) ?_))
 rintro _ w2 ⟨b2, rfl, H2⟩
 refine aA (aj (ay (ay (ah (aO rfl (dw rfl func43 (yD H2.f2) ?_))))))
 rintro _ _ ⟨rfl, rfl⟩
 refine aA (aj (qN (aS (aj ?_))))
 refine Am [(0, _)] (fun (⟨r, q, u, ks, sv, us⟩ : Nat × Nat × Value × Value × Value × List Value) => [(2, .pointer (some ⟨r, 0, none⟩)), (3, .pointer (some ⟨q, 0, none⟩))]) (fun (⟨r, q, u, ks, sv, us⟩ : Nat × Nat × Value × Value × Value × List Value) W => aB w0 W (dA q (.cells (u :: .int .i64 s.c.pt :: .int .i64 s.c.mark :: .int .i64 s.c.mode :: .bool s.c.over :: .bool s.given :: .bool s.minus :: .int .i64 s.arg :: .int .i64 s.c.last :: .int .i64 s.c.fr :: .int .i64 s.c.to :: ks :: .int .i64 s.c.place :: sv :: .int .i64 s.uT :: .int .i64 s.c.res :: .int .i64 s.iO :: []).toArray 46 (0, 0)) • iG 21 .i32 u s.c.L • Row 22 1 ks s.c.E.length us • xK 21 .i32 us (pO s.c.E s.c.at_) • Row 130 2 sv s.saved.length (s.saved.flatMap ni) • dA e (.cells (.pointer (some ⟨nD, 0, none⟩) :: .pointer (some ⟨nN, 0, none⟩) :: .pointer (some ⟨nO, 0, none⟩) :: .map (some nP) :: .int .i64 s.c.mode :: .bool s.c.over :: .int .i64 s.c.last :: .int .i64 s.c.fr :: .int .i64 s.c.to :: .int .i64 s.c.res :: .bool s.c.run :: .pointer (some ⟨nR, 0, none⟩) :: .pointer (some ⟨nS, 0, none⟩) :: .bool s.given :: .bool s.minus :: .int .i64 s.arg :: .bool s.inn :: lu :: lC :: lD :: lF :: lG :: lH :: lI :: lJ :: lK :: lM :: lN :: .int .i64 s.cls :: .bool s.killed :: .bool s.jy :: .bool s.argues :: .bool s.whole :: nT :: []).toArray 66 (0, 0)) • dJ nD s.c.L s.c.pt s.c.mark • bY nN s.c.E s.c.at_ • dA nO (.cells #[.int .i64 s.c.place, .map (some oG)] 112 (0, 0)) • fF mQ oG (mV s.c.tx) • rM nP s.c.un • dZ nR s.hl s.base s.most • dA nS (.cells #[.int .i64 s.iO] 102 (0, 0)) • Row 120 3 nT s.put.length (mG.flatMap dH.enc) • jT mG • tK s.inn s.was [lu, lC, lD, lF, lG, lH, lI, lJ, lK, lM, lN] • dA r (.cells (.slice none 0 0 :: .int .i64 0 :: .int .i64 0 :: .int .i64 0 :: .bool false :: .bool false :: .bool false :: .int .i64 0 :: .int .i64 0 :: .int .i64 0 :: .int .i64 0 :: .slice none 0 0 :: .int .i64 0 :: .slice none 0 0 :: .int .i64 0 :: .int .i64 0 :: .int .i64 0 :: []).toArray 46 (0, 0)) • F)) (Sub.cons rfl (Sub.nil _)) ?_ ?_
 ·rintro ⟨r, q, u, ks, sv, us⟩ w4 HJ
  dsimp only [List.cons_append, List.nil_append]
  refine ay (ay (ah (aO rfl (bH rfl (aZ 16 underlying66 rfl sizeOf4 rfl (cO underlying4 rfl (HJ.f6).get.2 rfl (aA (aj (aH rfl (fun h1 => ?_) (fun h1 => ?_))))))))))
  ·(try simp only [aG] at h1)
   have hin := h1
   obtain ⟨rfl, rfl, rfl⟩ := QA hin HJ.f16
   have Z5 := HJ.drew
   have rD := aB.kp (Z5.right.f16.f16.f16.f16.f16.f16.f16.f16.f16.f16.f16.f16.f16.f16.f16.f16)
   refine uH [4, 9, 14] rD rfl (fU 0 rfl rD rfl (iT 1 rfl rD rfl (dP 2 rfl rD 17 underlying66 rfl sizeOf62 rfl (dP 3 rfl rD 6 underlying62 rfl sizeOf3 rfl (gQ 4 rfl rD (fun W hW => iI underlying3 rfl ((Kp.h hW).f5).get.2 rfl) (fU 5 rfl rD rfl (iT 6 rfl rD rfl (dP 7 rfl rD 17 underlying66 rfl sizeOf62 rfl (dP 8 rfl rD 7 underlying62 rfl sizeOf3 rfl (gQ 9 rfl rD (fun W hW => iI underlying3 rfl ((Kp.h hW).f5).get.2 rfl) (fU 10 rfl rD rfl (iT 11 rfl rD rfl (dP 12 rfl rD 17 underlying66 rfl sizeOf62 rfl (dP 13 rfl rD 8 underlying62 rfl sizeOf3 rfl (gQ 14 rfl rD (fun W hW => iI underlying3 rfl ((Kp.h hW).f5).get.2 rfl) (dP 15 rfl rD 8 underlying46 rfl sizeOf3 rfl ?_))))))))))))))))
   refine dB 16 rfl (by kernel_rfl) (aN 8 (l' := [_, _, _, _, _, _, _, _, _, _, _, _, _, _, _, _, _]) Z5 sizeOf3 rfl rfl (by first | rfl | assumption) rfl rfl) ?_
   rintro _ w5 H5
   have zQ := aB.kp (H5.right.f16.f16.f16.f16.f16.f16.f16.f16.f16.f16.f16.f16.f16.f16.f16.f16)
   refine bW zQ (fun W hW => (Kp.h hW).f16.f16.f16.f16.f16.f16.f16.f16.f16.f16.f16.f16.f16.f16.f16.f16) ?_
   refine dP 17 rfl zQ 9 underlying46 rfl sizeOf3 rfl ?_
   refine dB 18 rfl (by kernel_rfl) (aN 9 (l' := [_, _, _, _, _, _, _, _, _, _, _, _, _, _, _, _, _]) H5 sizeOf3 rfl rfl (by first | rfl | assumption) rfl rfl) ?_
   rintro _ w6 H6
   have vG := aB.kp (H6.f17.f17.f17.f17.f17.f17.f17.f17.f17.f17.f17.f17.f17.f17.f17.f17.f17)
   refine bW vG (fun W hW => (Kp.h hW).right.f16.f16.f16.f16.f16.f16.f16.f16.f16.f16.f16.f16.f16.f16.f16.f16) ?_
   refine dP 19 rfl vG 10 underlying46 rfl sizeOf3 rfl ?_
   refine dB 20 rfl (by kernel_rfl) (aN 10 (l' := [_, _, _, _, _, _, _, _, _, _, _, _, _, _, _, _, _]) H6 sizeOf3 rfl rfl (by first | rfl | assumption) rfl rfl) ?_
   rintro _ w7 H7
   have vO := aB.kp (H7.f17.f17.f17.f17.f17.f17.f17.f17.f17.f17.f17.f17.f17.f17.f17.f17.f17)
   refine fA vO (by kernel_rfl) ?_
   refine mg (aj (ay (ah (aU (bU underlying46 rfl sizeOf46 rfl rfl (H7).get.2) (aI (bJ 0 (l' := [_, _, _, _, _, _, _, _, _, _, _, _, _, _, _, _, _]) (us := [_, _, _, _, _, _, _, _, _, _, _, _, _, _, _, _, _]) H7.f17 sizeOf46 rfl rfl rfl (aC (by first | rfl | exact Rd.one ((H7.f2).aT)) (aC (by first | rfl | assumption) (aC (by first | rfl | assumption) (aC (by first | rfl | assumption) (aC (by first | rfl | assumption) (aC (by first | rfl | assumption) (aC (by first | rfl | assumption) (aC (by first | rfl | assumption) (aC (by first | rfl | assumption) (aC (by first | rfl | assumption) (aC (by first | rfl | assumption) (aC (by first | rfl | exact Rd.one ((H7.f3).aT)) (aC (by first | rfl | assumption) (aC (by first | rfl | exact Rd.one ((H7.f5).aT)) (aC (by first | rfl | assumption) (aC (by first | rfl | assumption) (aC (by first | rfl | assumption) bn))))))))))))))))) rfl rfl) ?_)))))
   rintro _ w8 H8
   refine aA (aj (aJ ?_))
   refine oq (.inl rfl) (MO results14 rfl underlying46 rfl (by rw [show (prog.info? 46).map (·.size) = some 17 from by kernel_rfl]; rfl) (H8).get.2) ?_
   have XA := H8.f17.f17.f17.f17.f17.f17.f17.f17.f17.f17.f17
   have XB := aB.dG (s := s) cZ bC XA
   refine ⟨u, ks, us, sv, ?_, XB.f2.right.f2.right.f5.f5.f5.f5⟩
   unfold Jq aY.CW aY.Zl aY.Zm
   rw [hin]
   rfl
  ·(try simp only [aG] at h1)
   have hin := h1
   refine aS (aj (ay (ah (aU (bU underlying46 rfl sizeOf46 rfl rfl (HJ).get.2) (aI (bJ 0 (l' := [_, _, _, _, _, _, _, _, _, _, _, _, _, _, _, _, _]) (us := [_, _, _, _, _, _, _, _, _, _, _, _, _, _, _, _, _]) HJ.f17 sizeOf46 rfl rfl rfl (aC (by first | rfl | exact Rd.one ((HJ.f2).aT)) (aC (by first | rfl | assumption) (aC (by first | rfl | assumption) (aC (by first | rfl | assumption) (aC (by first | rfl | assumption) (aC (by first | rfl | assumption) (aC (by first | rfl | assumption) (aC (by first | rfl | assumption) (aC (by first | rfl | assumption) (aC (by first | rfl | assumption) (aC (by first | rfl | assumption) (aC (by first | rfl | exact Rd.one ((HJ.f3).aT)) (aC (by first | rfl | assumption) (aC (by first | rfl | exact Rd.one ((HJ.f5).aT)) (aC (by first | rfl | assumption) (aC (by first | rfl | assumption) (aC (by first | rfl | assumption) bn))))))))))))))))) rfl rfl) ?_)))))
   rintro _ w12 rV
   refine aA (aj (aJ ?_))
   refine oq (.inl rfl) (MO results14 rfl underlying46 rfl (by rw [show (prog.info? 46).map (·.size) = some 17 from by kernel_rfl]; rfl) (rV).get.2) ?_
   have Tq := rV.f17.f17.f17.f17.f17.f17.f17.f17.f17.f17.f17
   have Tt := aB.dG (s := s) cZ bC Tq
   refine ⟨u, ks, us, sv, ?_, Tt.f2.right.f2.right.f5.f5.f5.f5⟩
   unfold Jq aY.CW aY.Zl aY.Zm
   rw [hin]
   rfl
 ·skip
  have Ud := H2.drew
  have dh := aB.kp (Ud.f7.right.f7.right.f10.f10.f10.f10.f10.f10.f10.f10.f10.f10)
  refine uH [6, 11, 15, 19, 23, 28, 33, 38, 45, 48, 57, 61] dh rfl (fU 0 rfl dh rfl (fU 2 rfl dh rfl (iT 3 rfl dh rfl (dP 4 rfl dh 0 underlying66 rfl sizeOf62 rfl (dP 5 rfl dh 4 underlying62 rfl sizeOf3 rfl (gQ 6 rfl dh (fun W hW => iI underlying3 rfl ((Kp.h hW).f2).get.2 rfl) (fU 7 rfl dh rfl (iT 8 rfl dh rfl (dP 9 rfl dh 0 underlying66 rfl sizeOf62 rfl (dP 10 rfl dh 5 underlying62 rfl sizeOf4 rfl (gQ 11 rfl dh (fun W hW => iI underlying4 rfl ((Kp.h hW).f2).get.2 rfl) (fU 12 rfl dh rfl (iT 13 rfl dh rfl (dP 14 rfl dh 13 underlying66 rfl sizeOf4 rfl (gQ 15 rfl dh (fun W hW => iI underlying4 rfl ((Kp.h hW).f2).get.2 rfl) (fU 16 rfl dh rfl (iT 17 rfl dh rfl (dP 18 rfl dh 14 underlying66 rfl sizeOf4 rfl (gQ 19 rfl dh (fun W hW => iI underlying4 rfl ((Kp.h hW).f2).get.2 rfl) (fU 20 rfl dh rfl (iT 21 rfl dh rfl (dP 22 rfl dh 15 underlying66 rfl sizeOf3 rfl (gQ 23 rfl dh (fun W hW => iI underlying3 rfl ((Kp.h hW).f2).get.2 rfl) (fU 24 rfl dh rfl (iT 25 rfl dh rfl (dP 26 rfl dh 0 underlying66 rfl sizeOf62 rfl (dP 27 rfl dh 6 underlying62 rfl sizeOf3 rfl (gQ 28 rfl dh (fun W hW => iI underlying3 rfl ((Kp.h hW).f2).get.2 rfl) (fU 29 rfl dh rfl (iT 30 rfl dh rfl (dP 31 rfl dh 0 underlying66 rfl sizeOf62 rfl (dP 32 rfl dh 7 underlying62 rfl sizeOf3 rfl (gQ 33 rfl dh (fun W hW => iI underlying3 rfl ((Kp.h hW).f2).get.2 rfl) (fU 34 rfl dh rfl (iT 35 rfl dh rfl (dP 36 rfl dh 0 underlying66 rfl sizeOf62 rfl (dP 37 rfl dh 8 underlying62 rfl sizeOf3 rfl (gQ 38 rfl dh (fun W hW => iI underlying3 rfl ((Kp.h hW).f2).get.2 rfl) (fU 39 rfl dh rfl ?_)))))))))))))))))))))))))))))))))))))))
  refine fU 41 rfl dh rfl (iT 42 rfl dh rfl (dP 43 rfl dh 0 underlying66 rfl sizeOf62 rfl (dP 44 rfl dh 2 underlying62 rfl sizeOf59 rfl (gQ 45 rfl dh (fun W hW => iI underlying59 rfl ((Kp.h hW).f2).get.2 rfl) (iT 46 rfl dh rfl (dP 47 rfl dh 0 underlying112 rfl sizeOf3 rfl (gQ 48 rfl dh (fun W hW => iI underlying3 rfl ((Kp.h hW).f5).get.2 rfl) (fU 49 rfl dh rfl (fU 51 rfl dh rfl (fU 53 rfl dh rfl (iT 54 rfl dh rfl (dP 55 rfl dh 0 underlying66 rfl sizeOf62 rfl (dP 56 rfl dh 9 underlying62 rfl sizeOf3 rfl (gQ 57 rfl dh (fun W hW => iI underlying3 rfl ((Kp.h hW).f2).get.2 rfl) (fU 58 rfl dh rfl (iT 59 rfl dh rfl (dP 60 rfl dh 12 underlying66 rfl sizeOf63 rfl (gQ 61 rfl dh (fun W hW => iI underlying63 rfl ((Kp.h hW).f2).get.2 rfl) ?_))))))))))))))))))
  refine uG (i := 1) (j := 64) (by kernel_rfl) ?_ ?_
  ·skip
   refine iL 1 rfl (by kernel_rfl) (oW (oZ rfl func18 rfl rfl) (Di Ud.f3.f3)) (jq rfl) ?_
   rintro _ w16 ⟨u16, rfl, qH⟩
   have AZ := aB.kp (qH.f8.right.f8.right.f11.f11.f11.f11.f11.f11.f11.f11.f11.f11.f11)
   refine bW AZ (fun W hW => (Kp.h hW).right.f10.f10.f10.f10.f10.f10.f10.f9.f9.f10) ?_
   refine uG (i := 40) (j := 64) (by kernel_rfl) ?_ ?_
   ·skip
    refine iL 40 rfl (by kernel_rfl) (oW (oZ rfl func32 rfl rfl) (wV qH.f5.f3)) (jq rfl) ?_
    rintro u17 UN ⟨acv, Aj⟩
    have CV := aB.kp (Aj.f10.right.f10.right.f13.f13.f13.f13.f13.f13.f13.f13.f13.f13.f13.f13.f13)
    refine bW CV (fun W hW => (Kp.h hW).right.right.f11.f11.f11.f11.f11.f11.f8.f11.f11.f10.f11) ?_
    refine uG (i := 50) (j := 64) (by kernel_rfl) ?_ ?_
    ·skip
     refine iL 50 rfl (by kernel_rfl) (oW (oZ rfl func54 rfl rfl) (sG Aj.f11.f10.f10.f6)) (jq rfl) ?_
     rintro u18 UO BF
     have EG := aB.kp (BF.f12.right.f15.f15.f15.f15.f15.f15.f15.f15.f15.f15.f15.f15.f15.f15.f15)
     refine bW EG (fun W hW => (Kp.h hW).right.f4.right.f13.f13.f13.f13.f7.f7.f13.f13.f13.f13.f11.f13.f13) ?_
     refine uG (i := 52) (j := 64) (by kernel_rfl) ?_ ?_
     ·skip
      refine iL 52 rfl (by kernel_rfl) (oW (oZ rfl func55 rfl rfl) (nV BF.f14.f13.f5.f5 hU)) (jq rfl) ?_
      rintro _ UQ ⟨rfl, xk⟩
      have KI := aB.kp (xk.f16.f16.f16.f16.f16.f16.f16.f16.f16.f16.f16.f16.f16.f16.f16.f16)
      refine bW KI (fun W hW => (Kp.h hW).f3.right.f15.f15.f5.f15.f15.f15.f15.f15.f15.f15.f15.f15.f14.f14.f15) ?_
      refine uG (i := 62) (j := 64) (by kernel_rfl) ?_ ?_
      ·skip
       refine iL 62 rfl (by kernel_rfl) (oW (oZ rfl func56 rfl rfl) (lT xk.f14)) (jq rfl) ?_
       rintro _ _ ⟨rfl, rfl⟩
       have Bf := aB.kp (xk.f16.f16.f16.f16.f16.f16.f16.f16.f16.f16.f16.f16.f16.f16.f16.f16)
       refine bW Bf (fun W hW => (Kp.h hW).f16.f16.f16.f16.f16.f16.f16.f16.f16.f16.f16.f16.f16.f16.f16.f16) ?_
       refine iJ 63 rfl Bf (fun _ => dV (zl := [.slice none 0 0, .int .i64 0, .int .i64 0, .int .i64 0, .bool false, .bool false, .bool false, .int .i64 0, .int .i64 0, .int .i64 0, .int .i64 0, .slice none 0 0, .int .i64 0, .slice none 0 0, .int .i64 0, .int .i64 0, .int .i64 0]) (pl := [(0, 3), (3, 1), (4, 1), (5, 1), (6, 1), (7, 1), (8, 1), (9, 1), (10, 1), (11, 1), (12, 1), (13, 1), (14, 1), (15, 1), (16, 1)]) [_, _, _, _, _, _, _, _, _, _, _, _, _, _, _, _, _] underlying46 zeroValue46 rfl (fun w => by kernel_rfl) rfl (.agg (us := [_, _, _]) (zs := [.slice none 0 0, .int .i64 0, .int .i64 0]) rfl rfl (.one (by first | rfl | assumption) (.one (by first | rfl | assumption) (.one (by first | rfl | assumption) (.one (by first | rfl | assumption) (.one (by first | rfl | assumption) (.one (by first | rfl | assumption) (.one (by first | rfl | assumption) (.one (by first | rfl | assumption) (.one (Rd.one ((xk.f8).aT)) (.one (by first | rfl | assumption) (.one (Rd.one ((xk.f5).aT)) (.one (by first | rfl | assumption) (.one (by first | rfl | assumption) (.one (by first | rfl | assumption) .nil))))))))))))))) rfl) ?_
       refine jH 64 rfl (dI (l := [_, _, _, _, _, _, _, _, _, _, _, _, _, _, _, _, _]) xk zeroValue46 rfl) ?_
       rintro _ Vj ⟨b21, rfl, oQ⟩
       have O9 := aB.kp (oQ.f17.f17.f17.f17.f17.f17.f17.f17.f17.f17.f17.f17.f17.f17.f17.f17.f17)
       refine bW O9 (fun W hW => (Kp.h hW).right.f16.f16.f16.f16.f16.f16.f16.f16.f16.f16.f16.f16.f16.f16.f16.f16) ?_
       refine dB 65 rfl (by kernel_rfl) (bJ 0 (l' := [_, _, _, _, _, _, _, _, _, _, _, _, _, _, _, _, _]) (us := [_, _, _, _, _, _, _, _, _, _, _, _, _, _, _, _, _]) oQ sizeOf46 rfl rfl rfl (aC (by first | rfl | exact Rd.one ((oQ.f12).aT)) (aC (by first | rfl | assumption) (aC (by first | rfl | assumption) (aC (by first | rfl | assumption) (aC (by first | rfl | assumption) (aC (by first | rfl | assumption) (aC (by first | rfl | assumption) (aC (by first | rfl | assumption) (aC (by first | rfl | assumption) (aC (by first | rfl | assumption) (aC (by first | rfl | assumption) (aC (by first | rfl | exact Rd.one ((oQ.f9).aT)) (aC (by first | rfl | assumption) (aC (by first | rfl | exact Rd.one ((oQ.f6).aT)) (aC (by first | rfl | assumption) (aC (by first | rfl | assumption) (aC (by first | rfl | assumption) bn))))))))))))))))) rfl rfl) ?_
       rintro _ Yr DR
       have Bg := aB.kp (DR.f17.f17.f17.f17.f17.f17.f17.f17.f17.f17.f17.f17.f17.f17.f17.f17.f17)
       refine fA Bg (by kernel_rfl) ?_
       refine mg ?_
       refine jW (_, _, _, _, _, _) (Sub.cons rfl (Sub.cons rfl (Sub.nil _))) (Sub.cons rfl (Sub.nil _)) (by (try dsimp only); exact DR.f14.f17.f17.f8.f17.f12.f10.f12.f11.f15.f17.f13.f14.f16.f16.f17.f17)
      ·skip
       refine iL 64 rfl (by kernel_rfl) (dI (l := [_, _, _, _, _, _, _, _, _, _, _, _, _, _, _, _, _]) xk zeroValue46 rfl) (jq rfl) ?_
       rintro _ RJ ⟨b23, rfl, tY⟩
       have CY := aB.kp (tY.f17.f17.f17.f17.f17.f17.f17.f17.f17.f17.f17.f17.f17.f17.f17.f17.f17)
       refine bW CY (fun W hW => (Kp.h hW).right.f16.f16.f16.f16.f16.f16.f16.f16.f16.f16.f16.f16.f16.f16.f16.f16) ?_
       refine jH 62 rfl (rU rfl func56 (lT tY.f15)) ?_
       rintro _ _ ⟨rfl, rfl⟩
       have E5 := aB.kp (tY.f17.f17.f17.f17.f17.f17.f17.f17.f17.f17.f17.f17.f17.f17.f17.f17.f17)
       refine bW E5 (fun W hW => (Kp.h hW).f17.f17.f17.f17.f17.f17.f17.f17.f17.f17.f17.f17.f17.f17.f17.f17.f17) ?_
       refine iJ 63 rfl E5 (fun _ => dV (zl := [.slice none 0 0, .int .i64 0, .int .i64 0, .int .i64 0, .bool false, .bool false, .bool false, .int .i64 0, .int .i64 0, .int .i64 0, .int .i64 0, .slice none 0 0, .int .i64 0, .slice none 0 0, .int .i64 0, .int .i64 0, .int .i64 0]) (pl := [(0, 3), (3, 1), (4, 1), (5, 1), (6, 1), (7, 1), (8, 1), (9, 1), (10, 1), (11, 1), (12, 1), (13, 1), (14, 1), (15, 1), (16, 1)]) [_, _, _, _, _, _, _, _, _, _, _, _, _, _, _, _, _] underlying46 zeroValue46 rfl (fun w => by kernel_rfl) rfl (.agg (us := [_, _, _]) (zs := [.slice none 0 0, .int .i64 0, .int .i64 0]) rfl rfl (.one (by first | rfl | assumption) (.one (by first | rfl | assumption) (.one (by first | rfl | assumption) (.one (by first | rfl | assumption) (.one (by first | rfl | assumption) (.one (by first | rfl | assumption) (.one (by first | rfl | assumption) (.one (by first | rfl | assumption) (.one (Rd.one ((tY.f9).aT)) (.one (by first | rfl | assumption) (.one (Rd.one ((tY.f6).aT)) (.one (by first | rfl | assumption) (.one (by first | rfl | assumption) (.one (by first | rfl | assumption) .nil))))))))))))))) rfl) ?_
       refine dB 65 rfl (by kernel_rfl) (bJ 0 (l' := [_, _, _, _, _, _, _, _, _, _, _, _, _, _, _, _, _]) (us := [_, _, _, _, _, _, _, _, _, _, _, _, _, _, _, _, _]) tY sizeOf46 rfl rfl rfl (aC (by first | rfl | exact Rd.one ((tY.f12).aT)) (aC (by first | rfl | assumption) (aC (by first | rfl | assumption) (aC (by first | rfl | assumption) (aC (by first | rfl | assumption) (aC (by first | rfl | assumption) (aC (by first | rfl | assumption) (aC (by first | rfl | assumption) (aC (by first | rfl | assumption) (aC (by first | rfl | assumption) (aC (by first | rfl | assumption) (aC (by first | rfl | exact Rd.one ((tY.f9).aT)) (aC (by first | rfl | assumption) (aC (by first | rfl | exact Rd.one ((tY.f6).aT)) (aC (by first | rfl | assumption) (aC (by first | rfl | assumption) (aC (by first | rfl | assumption) bn))))))))))))))))) rfl rfl) ?_
       rintro _ Yt G6
       have Hu := aB.kp (G6.f17.f17.f17.f17.f17.f17.f17.f17.f17.f17.f17.f17.f17.f17.f17.f17.f17)
       refine fA Hu (by kernel_rfl) ?_
       refine mg ?_
       refine jW (_, _, _, _, _, _) (Sub.cons rfl (Sub.cons rfl (Sub.nil _))) (Sub.cons rfl (Sub.nil _)) (by (try dsimp only); exact G6.f14.f17.f17.f8.f17.f12.f10.f12.f11.f15.f17.f13.f14.f16.f16.f17.f17)
     ·skip
      refine iL 64 rfl (by kernel_rfl) (dI (l := [_, _, _, _, _, _, _, _, _, _, _, _, _, _, _, _, _]) BF zeroValue46 rfl) (jq rfl) ?_
      rintro _ Yu ⟨b26, rfl, JZ⟩
      have Pe := aB.kp (JZ.f13.right.f16.f16.f16.f16.f16.f16.f16.f16.f16.f16.f16.f16.f16.f16.f16.f16)
      refine bW Pe (fun W hW => (Kp.h hW).right.f15.f15.f15.f15.f15.f15.f15.f15.f15.f15.f15.f15.f15.f15.f15) ?_
      refine jH 52 rfl (rU rfl func55 (nV JZ.f15.f14.f6.f6 hU)) ?_
      rintro _ Yv ⟨rfl, FZ⟩
      have Pg := aB.kp (FZ.f17.f17.f17.f17.f17.f17.f17.f17.f17.f17.f17.f17.f17.f17.f17.f17.f17)
      refine bW Pg (fun W hW => (Kp.h hW).f3.right.f16.f16.f5.f16.f16.f16.f16.f16.f16.f16.f16.f16.f14.f14.f16.f16) ?_
      refine jH 62 rfl (rU rfl func56 (lT FZ.f15)) ?_
      rintro _ _ ⟨rfl, rfl⟩
      have LC := aB.kp (FZ.f17.f17.f17.f17.f17.f17.f17.f17.f17.f17.f17.f17.f17.f17.f17.f17.f17)
      refine bW LC (fun W hW => (Kp.h hW).f17.f17.f17.f17.f17.f17.f17.f17.f17.f17.f17.f17.f17.f17.f17.f17.f17) ?_
      refine iJ 63 rfl LC (fun _ => dV (zl := [.slice none 0 0, .int .i64 0, .int .i64 0, .int .i64 0, .bool false, .bool false, .bool false, .int .i64 0, .int .i64 0, .int .i64 0, .int .i64 0, .slice none 0 0, .int .i64 0, .slice none 0 0, .int .i64 0, .int .i64 0, .int .i64 0]) (pl := [(0, 3), (3, 1), (4, 1), (5, 1), (6, 1), (7, 1), (8, 1), (9, 1), (10, 1), (11, 1), (12, 1), (13, 1), (14, 1), (15, 1), (16, 1)]) [_, _, _, _, _, _, _, _, _, _, _, _, _, _, _, _, _] underlying46 zeroValue46 rfl (fun w => by kernel_rfl) rfl (.agg (us := [_, _, _]) (zs := [.slice none 0 0, .int .i64 0, .int .i64 0]) rfl rfl (.one (by first | rfl | assumption) (.one (by first | rfl | assumption) (.one (by first | rfl | assumption) (.one (by first | rfl | assumption) (.one (by first | rfl | assumption) (.one (by first | rfl | assumption) (.one (by first | rfl | assumption) (.one (by first | rfl | assumption) (.one (Rd.one ((FZ.f9).aT)) (.one (by first | rfl | assumption) (.one (Rd.one ((FZ.f6).aT)) (.one (by first | rfl | assumption) (.one (by first | rfl | assumption) (.one (by first | rfl | assumption) .nil))))))))))))))) rfl) ?_
      refine dB 65 rfl (by kernel_rfl) (bJ 0 (l' := [_, _, _, _, _, _, _, _, _, _, _, _, _, _, _, _, _]) (us := [_, _, _, _, _, _, _, _, _, _, _, _, _, _, _, _, _]) FZ.f5 sizeOf46 rfl rfl rfl (aC (by first | rfl | exact Rd.one ((FZ.f12).aT)) (aC (by first | rfl | assumption) (aC (by first | rfl | assumption) (aC (by first | rfl | assumption) (aC (by first | rfl | assumption) (aC (by first | rfl | assumption) (aC (by first | rfl | assumption) (aC (by first | rfl | assumption) (aC (by first | rfl | assumption) (aC (by first | rfl | assumption) (aC (by first | rfl | assumption) (aC (by first | rfl | exact Rd.one ((FZ.f9).aT)) (aC (by first | rfl | assumption) (aC (by first | rfl | exact Rd.one ((FZ.f6).aT)) (aC (by first | rfl | assumption) (aC (by first | rfl | assumption) (aC (by first | rfl | assumption) bn))))))))))))))))) rfl rfl) ?_
      rintro _ w29 RP
      have Ph := aB.kp (RP.f17.f17.f17.f17.f17.f17.f17.f17.f17.f17.f17.f17.f17.f17.f17.f17.f17)
      refine fA Ph (by kernel_rfl) ?_
      refine mg ?_
      refine jW (_, _, _, _, _, _) (Sub.cons rfl (Sub.cons rfl (Sub.nil _))) (Sub.cons rfl (Sub.nil _)) (by (try dsimp only); exact RP.f14.f17.f17.f8.f17.f12.f10.f12.f11.f15.f17.f13.f14.f16.f16.f17.f17)
    ·skip
     refine iL 64 rfl (by kernel_rfl) (dI (l := [_, _, _, _, _, _, _, _, _, _, _, _, _, _, _, _, _]) Aj zeroValue46 rfl) (jq rfl) ?_
     rintro _ w30 ⟨b30, rfl, MV⟩
     have Pj := aB.kp (MV.f11.right.f11.right.f14.f14.f14.f14.f14.f14.f14.f14.f14.f14.f14.f14.f14.f14)
     refine bW Pj (fun W hW => (Kp.h hW).right.f13.f13.f13.f13.f13.f13.f13.f13.f13.f13.f13.f13.f13) ?_
     refine jH 50 rfl (rU rfl func54 (sG MV.f12.f11.f11.f7)) ?_
     rintro u31 Yw IQ
     have KR := aB.kp (IQ.f13.right.f16.f16.f16.f16.f16.f16.f16.f16.f16.f16.f16.f16.f16.f16.f16.f16)
     refine bW KR (fun W hW => (Kp.h hW).right.f4.right.f14.f14.f14.f14.f7.f7.f14.f14.f14.f14.f11.f14.f14.f14) ?_
     refine jH 52 rfl (rU rfl func55 (nV IQ.f15.f14.f5.f5 hU)) ?_
     rintro _ Xj ⟨rfl, FU⟩
     have OV := aB.kp (FU.f17.f17.f17.f17.f17.f17.f17.f17.f17.f17.f17.f17.f17.f17.f17.f17.f17)
     refine bW OV (fun W hW => (Kp.h hW).f3.right.f16.f16.f5.f16.f16.f16.f16.f16.f16.f16.f16.f16.f16.f15.f15.f16) ?_
     refine jH 62 rfl (rU rfl func56 (lT FU.f15)) ?_
     rintro _ _ ⟨rfl, rfl⟩
     have OW := aB.kp (FU.f17.f17.f17.f17.f17.f17.f17.f17.f17.f17.f17.f17.f17.f17.f17.f17.f17)
     refine bW OW (fun W hW => (Kp.h hW).f17.f17.f17.f17.f17.f17.f17.f17.f17.f17.f17.f17.f17.f17.f17.f17.f17) ?_
     refine iJ 63 rfl OW (fun _ => dV (zl := [.slice none 0 0, .int .i64 0, .int .i64 0, .int .i64 0, .bool false, .bool false, .bool false, .int .i64 0, .int .i64 0, .int .i64 0, .int .i64 0, .slice none 0 0, .int .i64 0, .slice none 0 0, .int .i64 0, .int .i64 0, .int .i64 0]) (pl := [(0, 3), (3, 1), (4, 1), (5, 1), (6, 1), (7, 1), (8, 1), (9, 1), (10, 1), (11, 1), (12, 1), (13, 1), (14, 1), (15, 1), (16, 1)]) [_, _, _, _, _, _, _, _, _, _, _, _, _, _, _, _, _] underlying46 zeroValue46 rfl (fun w => by kernel_rfl) rfl (.agg (us := [_, _, _]) (zs := [.slice none 0 0, .int .i64 0, .int .i64 0]) rfl rfl (.one (by first | rfl | assumption) (.one (by first | rfl | assumption) (.one (by first | rfl | assumption) (.one (by first | rfl | assumption) (.one (by first | rfl | assumption) (.one (by first | rfl | assumption) (.one (by first | rfl | assumption) (.one (by first | rfl | assumption) (.one (Rd.one ((FU.f9).aT)) (.one (by first | rfl | assumption) (.one (Rd.one ((FU.f5).aT)) (.one (by first | rfl | assumption) (.one (by first | rfl | assumption) (.one (by first | rfl | assumption) .nil))))))))))))))) rfl) ?_
     refine dB 65 rfl (by kernel_rfl) (bJ 0 (l' := [_, _, _, _, _, _, _, _, _, _, _, _, _, _, _, _, _]) (us := [_, _, _, _, _, _, _, _, _, _, _, _, _, _, _, _, _]) FU.f8 sizeOf46 rfl rfl rfl (aC (by first | rfl | exact Rd.one ((FU.f12).aT)) (aC (by first | rfl | assumption) (aC (by first | rfl | assumption) (aC (by first | rfl | assumption) (aC (by first | rfl | assumption) (aC (by first | rfl | assumption) (aC (by first | rfl | assumption) (aC (by first | rfl | assumption) (aC (by first | rfl | assumption) (aC (by first | rfl | assumption) (aC (by first | rfl | assumption) (aC (by first | rfl | exact Rd.one ((FU.f9).aT)) (aC (by first | rfl | assumption) (aC (by first | rfl | exact Rd.one ((FU.f5).aT)) (aC (by first | rfl | assumption) (aC (by first | rfl | assumption) (aC (by first | rfl | assumption) bn))))))))))))))))) rfl rfl) ?_
     rintro _ w34 Tz
     have Hw := aB.kp (Tz.f17.f17.f17.f17.f17.f17.f17.f17.f17.f17.f17.f17.f17.f17.f17.f17.f17)
     refine fA Hw (by kernel_rfl) ?_
     refine mg ?_
     refine jW (_, _, _, _, _, _) (Sub.cons rfl (Sub.cons rfl (Sub.nil _))) (Sub.cons rfl (Sub.nil _)) (by (try dsimp only); exact Tz.f14.f17.f17.f8.f17.f12.f10.f12.f11.f15.f17.f13.f14.f16.f16.f17.f17)
   ·skip
    refine iL 64 rfl (by kernel_rfl) (dI (l := [_, _, _, _, _, _, _, _, _, _, _, _, _, _, _, _, _]) qH zeroValue46 rfl) (jq rfl) ?_
    rintro _ w35 ⟨b35, rfl, XM⟩
    have TA := aB.kp (XM.f9.right.f9.right.f12.f12.f12.f12.f12.f12.f12.f12.f12.f12.f12.f12)
    refine bW TA (fun W hW => (Kp.h hW).right.f11.f11.f11.f11.f11.f11.f11.f11.f11.f11.f11) ?_
    refine jH 40 rfl (rU rfl func32 (wV XM.f6.f4)) ?_
    rintro u36 w36 ⟨acw, YB⟩
    have Z7 := aB.kp (YB.f11.right.f11.right.f14.f14.f14.f14.f14.f14.f14.f14.f14.f14.f14.f14.f14.f14)
    refine bW Z7 (fun W hW => (Kp.h hW).right.right.f12.f12.f12.f12.f12.f12.f8.f12.f12.f10.f12.f12) ?_
    refine jH 50 rfl (rU rfl func54 (sG YB.f12.f11.f11.f6)) ?_
    rintro u37 w37 H37
    have Z8 := aB.kp (H37.f13.right.f16.f16.f16.f16.f16.f16.f16.f16.f16.f16.f16.f16.f16.f16.f16.f16)
    refine bW Z8 (fun W hW => (Kp.h hW).right.f4.right.f14.f14.f14.f14.f7.f7.f14.f14.f14.f14.f14.f12.f14.f14) ?_
    refine jH 52 rfl (rU rfl func55 (nV H37.f15.f14.f5.f5 hU)) ?_
    rintro _ Y3 ⟨rfl, NQ⟩
    have Z9 := aB.kp (NQ.f17.f17.f17.f17.f17.f17.f17.f17.f17.f17.f17.f17.f17.f17.f17.f17.f17)
    refine bW Z9 (fun W hW => (Kp.h hW).f3.right.f16.f16.f5.f16.f16.f16.f16.f16.f16.f16.f16.f16.f16.f15.f15.f16) ?_
    refine jH 62 rfl (rU rfl func56 (lT NQ.f15)) ?_
    rintro _ _ ⟨rfl, rfl⟩
    have Lh := aB.kp (NQ.f17.f17.f17.f17.f17.f17.f17.f17.f17.f17.f17.f17.f17.f17.f17.f17.f17)
    refine bW Lh (fun W hW => (Kp.h hW).f17.f17.f17.f17.f17.f17.f17.f17.f17.f17.f17.f17.f17.f17.f17.f17.f17) ?_
    refine iJ 63 rfl Lh (fun _ => dV (zl := [.slice none 0 0, .int .i64 0, .int .i64 0, .int .i64 0, .bool false, .bool false, .bool false, .int .i64 0, .int .i64 0, .int .i64 0, .int .i64 0, .slice none 0 0, .int .i64 0, .slice none 0 0, .int .i64 0, .int .i64 0, .int .i64 0]) (pl := [(0, 3), (3, 1), (4, 1), (5, 1), (6, 1), (7, 1), (8, 1), (9, 1), (10, 1), (11, 1), (12, 1), (13, 1), (14, 1), (15, 1), (16, 1)]) [_, _, _, _, _, _, _, _, _, _, _, _, _, _, _, _, _] underlying46 zeroValue46 rfl (fun w => by kernel_rfl) rfl (.agg (us := [_, _, _]) (zs := [.slice none 0 0, .int .i64 0, .int .i64 0]) rfl rfl (.one (by first | rfl | assumption) (.one (by first | rfl | assumption) (.one (by first | rfl | assumption) (.one (by first | rfl | assumption) (.one (by first | rfl | assumption) (.one (by first | rfl | assumption) (.one (by first | rfl | assumption) (.one (by first | rfl | assumption) (.one (Rd.one ((NQ.f8).aT)) (.one (by first | rfl | assumption) (.one (Rd.one ((NQ.f5).aT)) (.one (by first | rfl | assumption) (.one (by first | rfl | assumption) (.one (by first | rfl | assumption) .nil))))))))))))))) rfl) ?_
    refine dB 65 rfl (by kernel_rfl) (bJ 0 (l' := [_, _, _, _, _, _, _, _, _, _, _, _, _, _, _, _, _]) (us := [_, _, _, _, _, _, _, _, _, _, _, _, _, _, _, _, _]) NQ.f11 sizeOf46 rfl rfl rfl (aC (by first | rfl | exact Rd.one ((NQ.f12).aT)) (aC (by first | rfl | assumption) (aC (by first | rfl | assumption) (aC (by first | rfl | assumption) (aC (by first | rfl | assumption) (aC (by first | rfl | assumption) (aC (by first | rfl | assumption) (aC (by first | rfl | assumption) (aC (by first | rfl | assumption) (aC (by first | rfl | assumption) (aC (by first | rfl | assumption) (aC (by first | rfl | exact Rd.one ((NQ.f8).aT)) (aC (by first | rfl | assumption) (aC (by first | rfl | exact Rd.one ((NQ.f5).aT)) (aC (by first | rfl | assumption) (aC (by first | rfl | assumption) (aC (by first | rfl | assumption) bn))))))))))))))))) rfl rfl) ?_
    rintro _ w40 ZV
    have aac := aB.kp (ZV.f17.f17.f17.f17.f17.f17.f17.f17.f17.f17.f17.f17.f17.f17.f17.f17.f17)
    refine fA aac (by kernel_rfl) ?_
    refine mg ?_
    refine jW (_, _, _, _, _, _) (Sub.cons rfl (Sub.cons rfl (Sub.nil _))) (Sub.cons rfl (Sub.nil _)) (by (try dsimp only); exact ZV.f14.f17.f17.f8.f17.f12.f10.f12.f11.f15.f17.f13.f14.f16.f16.f17.f17)
  ·skip
   refine iL 64 rfl (by kernel_rfl) (dI (l := [_, _, _, _, _, _, _, _, _, _, _, _, _, _, _, _, _]) Ud zeroValue46 rfl) (jq rfl) ?_
   rintro _ w41 ⟨b41, rfl, Vy⟩
   have TB := aB.kp (Vy.f8.right.f8.right.f11.f11.f11.f11.f11.f11.f11.f11.f11.f11.f11)
   refine bW TB (fun W hW => (Kp.h hW).right.f10.f10.f10.f10.f10.f10.f10.f10.f10.f10) ?_
   refine jH 1 rfl (rU rfl func18 (Di Vy.f4.f4)) ?_
   rintro _ w42 ⟨u42, rfl, XO⟩
   have Hy := aB.kp (XO.f9.right.f9.right.f12.f12.f12.f12.f12.f12.f12.f12.f12.f12.f12.f12)
   refine bW Hy (fun W hW => (Kp.h hW).right.f11.f11.f11.f11.f11.f11.f11.f9.f9.f11.f11) ?_
   refine jH 40 rfl (rU rfl func32 (wV XO.f6.f3)) ?_
   rintro u43 w43 ⟨acx, XP⟩
   have TD := aB.kp (XP.f11.right.f11.right.f14.f14.f14.f14.f14.f14.f14.f14.f14.f14.f14.f14.f14.f14)
   refine bW TD (fun W hW => (Kp.h hW).right.right.f12.f12.f12.f12.f12.f12.f8.f12.f12.f12.f11.f12) ?_
   refine jH 50 rfl (rU rfl func54 (sG XP.f12.f11.f11.f6)) ?_
   rintro u44 w44 Wv
   have aad := aB.kp (Wv.f13.right.f16.f16.f16.f16.f16.f16.f16.f16.f16.f16.f16.f16.f16.f16.f16.f16)
   refine bW aad (fun W hW => (Kp.h hW).right.f4.right.f14.f14.f14.f14.f7.f7.f14.f14.f14.f14.f14.f12.f14.f14) ?_
   refine jH 52 rfl (rU rfl func55 (nV Wv.f15.f14.f5.f5 hU)) ?_
   rintro _ w45 ⟨rfl, MC⟩
   have aae := aB.kp (MC.f17.f17.f17.f17.f17.f17.f17.f17.f17.f17.f17.f17.f17.f17.f17.f17.f17)
   refine bW aae (fun W hW => (Kp.h hW).f3.right.f16.f16.f5.f16.f16.f16.f16.f16.f16.f16.f16.f16.f16.f15.f15.f16) ?_
   refine jH 62 rfl (rU rfl func56 (lT MC.f15)) ?_
   rintro _ _ ⟨rfl, rfl⟩
   have WJ := aB.kp (MC.f17.f17.f17.f17.f17.f17.f17.f17.f17.f17.f17.f17.f17.f17.f17.f17.f17)
   refine bW WJ (fun W hW => (Kp.h hW).f17.f17.f17.f17.f17.f17.f17.f17.f17.f17.f17.f17.f17.f17.f17.f17.f17) ?_
   refine iJ 63 rfl WJ (fun _ => dV (zl := [.slice none 0 0, .int .i64 0, .int .i64 0, .int .i64 0, .bool false, .bool false, .bool false, .int .i64 0, .int .i64 0, .int .i64 0, .int .i64 0, .slice none 0 0, .int .i64 0, .slice none 0 0, .int .i64 0, .int .i64 0, .int .i64 0]) (pl := [(0, 3), (3, 1), (4, 1), (5, 1), (6, 1), (7, 1), (8, 1), (9, 1), (10, 1), (11, 1), (12, 1), (13, 1), (14, 1), (15, 1), (16, 1)]) [_, _, _, _, _, _, _, _, _, _, _, _, _, _, _, _, _] underlying46 zeroValue46 rfl (fun w => by kernel_rfl) rfl (.agg (us := [_, _, _]) (zs := [.slice none 0 0, .int .i64 0, .int .i64 0]) rfl rfl (.one (by first | rfl | assumption) (.one (by first | rfl | assumption) (.one (by first | rfl | assumption) (.one (by first | rfl | assumption) (.one (by first | rfl | assumption) (.one (by first | rfl | assumption) (.one (by first | rfl | assumption) (.one (by first | rfl | assumption) (.one (Rd.one ((MC.f8).aT)) (.one (by first | rfl | assumption) (.one (Rd.one ((MC.f5).aT)) (.one (by first | rfl | assumption) (.one (by first | rfl | assumption) (.one (by first | rfl | assumption) .nil))))))))))))))) rfl) ?_
   refine dB 65 rfl (by kernel_rfl) (bJ 0 (l' := [_, _, _, _, _, _, _, _, _, _, _, _, _, _, _, _, _]) (us := [_, _, _, _, _, _, _, _, _, _, _, _, _, _, _, _, _]) MC.f13 sizeOf46 rfl rfl rfl (aC (by first | rfl | exact Rd.one ((MC.f11).aT)) (aC (by first | rfl | assumption) (aC (by first | rfl | assumption) (aC (by first | rfl | assumption) (aC (by first | rfl | assumption) (aC (by first | rfl | assumption) (aC (by first | rfl | assumption) (aC (by first | rfl | assumption) (aC (by first | rfl | assumption) (aC (by first | rfl | assumption) (aC (by first | rfl | assumption) (aC (by first | rfl | exact Rd.one ((MC.f8).aT)) (aC (by first | rfl | assumption) (aC (by first | rfl | exact Rd.one ((MC.f5).aT)) (aC (by first | rfl | assumption) (aC (by first | rfl | assumption) (aC (by first | rfl | assumption) bn))))))))))))))))) rfl rfl) ?_
   rintro _ w47 X0
   have aaf := aB.kp (X0.f17.f17.f17.f17.f17.f17.f17.f17.f17.f17.f17.f17.f17.f17.f17.f17.f17)
   refine fA aaf (by kernel_rfl) ?_
   refine mg ?_
   refine jW (_, _, _, _, _, _) (Sub.cons rfl (Sub.cons rfl (Sub.nil _))) (Sub.cons rfl (Sub.nil _)) (by (try dsimp only); exact X0.f14.f17.f17.f8.f17.f12.f10.f12.f11.f15.f17.f13.f14.f16.f16.f17.f17)
end
end Go.Proofs.YtgmpclifphbjkaaGreatDoor
end
section
namespace Go.Proofs.YtgmpclifphbjkaaGreatDoor
open Go.RowKit
def ends (T : List (Int × Int)) : List Int := T.flatMap fun x => [x.1, x.2]
section
variable {w0 w : World} {F : HP} {r : Int}
abbrev abD : List (Int × Int) := [(48, 57), (65, 90), (97, 122)]
abbrev acy : List (Int × Int) := [(215, 215), (247, 247), (8192, 8303), (12288, 12351), (65280, 65295), (65533, 65533)]
end
end Go.Proofs.YtgmpclifphbjkaaGreatDoor
end
