import Derived.Test.YtddekefihgejoaaGreatDoorZ2
import Derived.Test.YtddekefihgejoaaGreatDoorZ15
import Derived.Test.YtddekefihgejoaaGreatDoorZ4
set_option linter.unusedSimpArgs false
set_option linter.unusedVariables false
/- Texts of mine, joined, their names in short: EdS3 RefTab. -/
section
namespace Go.Proofs.YtddekefihgejoaaGreatDoor
open Go.RowKit
open _root_.Go.Proofs.Tryz
def ES (s : bH) (u ks sv : Value) : List Value := [u, .int .i64 s.c.pt, .int .i64 s.c.mark, .int .i64 s.c.mode, .bool s.c.over, .bool s.given, .bool s.minus, .int .i64 s.arg, .int .i64 s.NT, .int .i64 s.ZM, .int .i64 s.ZN, ks, .int .i64 s.c.place, sv, .int .i64 s.Md, .int .i64 s.c.res, .int .i64 s.ql]
section
variable {w0 w : World} {F : HP} {e p ph pw pt pr pm pb : Nat} {s : bH} {k x place : Int} {hl : List lg} {base most cls : Int} {tx : Int → Option ByteArray} {v pv : Value} {U : Int → List (List fG)} {L : List Int} {Xg mk : Int}
theorem Cc {x1 x2 x3 x4 x5 x6 x7 x8 x9 x10 x12 Aa x14 x15 x16 x17 x18 x19 x20 x21 zi x23 x24 x25 zk x27 x28 x29 x30 x31 x32 BQ : Value} (H : aA w0 w (cO e (.cells (.pointer (some ⟨pb, 0, none⟩) :: x1 :: x2 :: x3 :: x4 :: x5 :: x6 :: x7 :: x8 :: x9 :: x10 :: .pointer (some ⟨ph, 0, none⟩) :: x12 :: Aa :: x14 :: x15 :: x16 :: x17 :: x18 :: x19 :: x20 :: x21 :: zi :: x23 :: x24 :: x25 :: zk :: x27 :: x28 :: x29 :: x30 :: x31 :: x32 :: BQ :: []).toArray 69 (0, 0)) • dQ pb L Xg mk • F)) : fQ prog 32 #[.pointer (some ⟨e, 0, none⟩)] w fun v' w' =>
  ∃ u, v' = .agg (jy u Xg mk) ∧ aA w0 w' (gW 21 .i32 u L • cO e (.cells (.pointer (some ⟨pb, 0, none⟩) :: x1 :: x2 :: x3 :: x4 :: x5 :: x6 :: x7 :: x8 :: x9 :: x10 :: .pointer (some ⟨ph, 0, none⟩) :: x12 :: Aa :: x14 :: x15 :: x16 :: x17 :: x18 :: x19 :: x20 :: x21 :: zi :: x23 :: x24 :: x25 :: zk :: x27 :: x28 :: x29 :: x30 :: x31 :: x32 :: BQ :: []).toArray 69 (0, 0)) • dQ pb L Xg mk • F) := by
 refine iw func32 ntmps32 ?_
 dsimp only [aZ, Nat.reduceAdd]
 refine ay (ah (gB (bW (l := [_, _, _]) H zeroValue41 rfl) ?_))
 rintro _ w1 ⟨b1, rfl, H1⟩
 refine aB (aj (ay (ay (ah (aP rfl (dD rfl func54 (xH H1.f2) ?_))))))
 rintro _ _ ⟨rfl, rfl⟩
 refine aB (aj (pW (aQ (aj (ay (ah (aP rfl (bT rfl (bf 0 underlying69 rfl sizeOf64 rfl (bf 0 underlying64 rfl sizeOf59 rfl (dA underlying59 rfl (H1.f2).get.2 rfl (dD rfl func74 (zL H1.f3) ?_))))))))))))
 rintro _ w3 ⟨u3, rfl, H3⟩
 refine aI (bC 0 (l' := [_, _, _]) (us := [_, _, _]) H3.f3 sizeOf41 rfl rfl rfl (aC (by first | rfl | exact Rd.one ((H3).aJ)) (aC (by first | rfl | assumption) (aC (by first | rfl | assumption) bg))) rfl rfl) ?_
 rintro _ w4 H4
 refine aB (aj (aN ?_))
 refine kM (.inl rfl) (Fq results32 rfl underlying41 rfl (by rw [show (prog.info? 41).map (·.size) = some 3 from by kernel_rfl]; rfl) (H4).get.2) ?_
 exact ⟨_, rfl, H4.right.f2.f3.f3⟩
theorem rM {x0 x1 x3 x4 x5 x6 x7 x8 x9 x10 x12 Aa x14 x15 x16 x17 x18 x19 x20 x21 zi x23 x24 x25 zk x27 x28 x29 x30 x31 x32 BQ : Value} (H : aA w0 w (cO e (.cells (x0 :: x1 :: .pointer (some ⟨pw, 0, none⟩) :: x3 :: x4 :: x5 :: x6 :: x7 :: x8 :: x9 :: x10 :: .pointer (some ⟨ph, 0, none⟩) :: x12 :: Aa :: x14 :: x15 :: x16 :: x17 :: x18 :: x19 :: x20 :: x21 :: zi :: x23 :: x24 :: x25 :: zk :: x27 :: x28 :: x29 :: x30 :: x31 :: x32 :: BQ :: []).toArray 69 (0, 0)) • cO pw (.cells #[.int .i64 place, .map (some pt)] 125 (0, 0)) • dY lI pt (lJ tx) • dn ph hl base most • F)) :
    fQ prog 56 #[.pointer (some ⟨e, 0, none⟩)] w fun v' w' => aA w0 w' (Row 106 2 v' (lG hl tx place).length ((lG hl tx place).flatMap lC) •
      cO e (.cells (x0 :: x1 :: .pointer (some ⟨pw, 0, none⟩) :: x3 :: x4 :: x5 :: x6 :: x7 :: x8 :: x9 :: x10 :: .pointer (some ⟨ph, 0, none⟩) :: x12 :: Aa :: x14 :: x15 :: x16 :: x17 :: x18 :: x19 :: x20 :: x21 :: zi :: x23 :: x24 :: x25 :: zk :: x27 :: x28 :: x29 :: x30 :: x31 :: x32 :: BQ :: []).toArray 69 (0, 0)) • cO pw (.cells #[.int .i64 place, .map (some pt)] 125 (0, 0)) • dY lI pt (lJ tx) • dn ph hl base most • F) := by
  have hb : hl.length ≤ 4096 := by obtain ⟨v, h, _⟩ := H.r4.hist; exact h.1
  refine iw func56 ntmps56 ?_
  dsimp only [aZ, Nat.reduceAdd]
  refine ay (ah (aW rfl (aB (aj (ay (ah (aW rfl (aB (aj (ay (ah (aP rfl (bT rfl (bf 11 underlying69 rfl sizeOf65 rfl (dA underlying65 rfl (H).get.2 rfl (dD rfl func84 (jF H.f4) ?_))))))))))))))))
  rintro _ w1 ⟨rfl, H1⟩
  refine aW rfl (aB (aj (ay (ay (ah (aP rfl (aP rfl (aB (aj (aY ?_))))))))))
  refine eP [(0, _), (4, _), (11, _)] (fun (⟨i, u⟩ : Nat × Value) => [(3, u), (12, .int .i64 (i : Int))]) (fun (⟨i, u⟩ : Nat × Value) W => i ≤ hl.length ∧ aA w0 W (Row 106 2 u (jM hl tx place i).length ((jM hl tx place i).flatMap lC) • cO e (.cells (x0 :: x1 :: .pointer (some ⟨pw, 0, none⟩) :: x3 :: x4 :: x5 :: x6 :: x7 :: x8 :: x9 :: x10 :: .pointer (some ⟨ph, 0, none⟩) :: x12 :: Aa :: x14 :: x15 :: x16 :: x17 :: x18 :: x19 :: x20 :: x21 :: zi :: x23 :: x24 :: x25 :: zk :: x27 :: x28 :: x29 :: x30 :: x31 :: x32 :: BQ :: []).toArray 69 (0, 0)) • cO pw (.cells #[.int .i64 place, .map (some pt)] 125 (0, 0)) • dY lI pt (lJ tx) • dn ph hl base most • F)) (fun (⟨i, u⟩ : Nat × Value) => hl.length - i) ((0, .slice none 0 0)) (Sub.cons rfl (Sub.cons rfl (Sub.cons rfl (Sub.nil _)))) (Sub.cons rfl (Sub.cons rfl (Sub.nil _))) ⟨by omega, H1.f4.f4.f4.iH none⟩ ?_
  rintro ⟨i, u⟩ w2 ⟨hi, HL⟩
  dsimp only [List.cons_append, List.nil_append]
  refine ay (ah (aU (dV rfl rfl) (aB (aj (ay (aO rfl (fun h1 => ?_) (fun h1 => ?_)))))))
  · (try simp only [aG] at h1)
    refine aQ (aj (ay (aY (ay (ah (aP rfl (aW rfl (aB (aj (ay ?_))))))))))
    have hLen := mW hl tx place i
    refine ah (aP rfl (aP rfl (bT rfl (bf 0 underlying69 rfl sizeOf64 rfl (bf 2 underlying64 rfl sizeOf61 rfl (dA underlying61 rfl (HL.f2).get.2 rfl (bT rfl (bf 0 underlying125 rfl sizeOf3 rfl (dA underlying3 rfl (HL.f3).get.2 rfl (aU (dG rfl rfl) (jL rfl (fun h2 => ?_) (fun h2 => ?_))))))))))))
    · (try simp only [aG] at h2)
      have hpl := h2
      refine bn (aP rfl (bn (aP rfl (bn (dD rfl func86 (lX HL.f5.f5.f5.f5) ?_)))))
      rintro _ w3 ⟨rfl, H3⟩
      refine bn (aP rfl (bn (aP rfl (bn (dD rfl func116 (Ad H3.f4.f2) ?_)))))
      rintro _ w4 ⟨rfl, H4⟩
      refine bn (aU (OD rfl rfl) (jP rfl rfl (aB (aj (aO rfl (fun h3 => ?_) (fun h3 => ?_))))))
      · (try simp only [aG] at h3)
        have hsv := Kw (hl := hl) (tx := tx) (place := place) (i := i) (by unfold pO; rw [decide_eq_true hpl]; simpa using h3)
        refine ah (aP rfl (aP rfl (aP rfl (aP rfl (dD rfl func86 (lX H4.f2.f4.f4.f4) ?_)))))
        rintro _ w5 ⟨rfl, H5⟩
        refine aU (dJ (zl := [.int .i64 0, .string .empty]) (pl := [(0, 1), (1, 1)]) [_, _] underlying106 zeroValue106 rfl (fun w => by kernel_rfl) rfl (.one (by first | rfl | assumption) (.one (by first | rfl | assumption) .nil)) rfl) ?_
        refine gB (mP H5 underlying42 sizeOf106 zeroValue106 rfl rfl rfl (by decide) (by decide)) ?_
        rintro l6 w6 H6
        refine gB (fK H6.f6 underlying42 (show (prog.info? 106).map (fun i => (i.zero, i.size, i.bytes)) = some (some (.agg #[.int .i64 0, .string .empty]), 2, 24) by kernel_rfl) rfl rfl rfl ((H6).aJ) (aC (by first | rfl | assumption) (aC (by first | rfl | assumption) bg)) (by omega) (by omega)) ?_
        rintro l7 w7 H7
        have Z7 := H7.f2.right
        refine aW rfl (aB (aH (aj (ah (aU (dR rfl rfl (by omega)) (aP rfl (aB ?_)))))))
        have hLen := mW hl tx place i
        refine bZ ((i + 1, l7)) ?_ ?_ ?_ ?_
        · exact (Sub.cons rfl (Sub.cons rfl (Sub.nil _)))
        · exact (Sub.cons rfl (Sub.cons rfl (Sub.cons rfl (Sub.nil _))))
        · (try dsimp only)
          first | done | exact ⟨by omega, by first | (rw [hsv, List.length_append, List.flatMap_append]; exact Z7.f5.f5.f5.f5.f5) | (rw [hsv]; exact Z7.f5.f5.f5.f5.f5)⟩
        · (try dsimp only); omega
      · (try simp only [aG] at h3)
        have hsv := EP (hl := hl) (tx := tx) (place := place) (i := i) (by unfold pO; rw [decide_eq_true hpl]; simpa using h3)
        refine aQ (aH (aj (ah (aU (dR rfl rfl (by omega)) (aP rfl (aB ?_))))))
        have hLen := mW hl tx place i
        refine bZ ((i + 1, u)) ?_ ?_ ?_ ?_
        · exact (Sub.cons rfl (Sub.cons rfl (Sub.nil _)))
        · exact (Sub.cons rfl (Sub.cons rfl (Sub.cons rfl (Sub.nil _))))
        · (try dsimp only)
          first | done | exact ⟨by omega, by first | (rw [hsv, List.length_append, List.flatMap_append]; exact H4.f2.f4.f4.f4.f5) | (rw [hsv]; exact H4.f2.f4.f4.f4.f5)⟩
        · (try dsimp only); omega
    · (try simp only [aG] at h2)
      have hsv := EP (hl := hl) (tx := tx) (place := place) (i := i) (by unfold pO; rw [decide_eq_false (by simpa using h2)]; rfl)
      refine bK (bK (bK (bK (bK (bK (bK (jd rfl rfl (aB (aj (pW (aQ (aH (aj (ah (aU (dR rfl rfl (by omega)) (aP rfl (aB ?_)))))))))))))))))
      have hLen := mW hl tx place i
      refine bZ ((i + 1, u)) ?_ ?_ ?_ ?_
      · exact (Sub.cons rfl (Sub.cons rfl (Sub.nil _)))
      · exact (Sub.cons rfl (Sub.cons rfl (Sub.cons rfl (Sub.nil _))))
      · (try dsimp only)
        first | done | exact ⟨by omega, by first | (rw [hsv, List.length_append, List.flatMap_append]; exact HL.f5.f5.f5.f5.f5) | (rw [hsv]; exact HL.f5.f5.f5.f5.f5)⟩
      · (try dsimp only); omega
  · (try simp only [aG] at h1)
    refine dK (aV ?_)
    obtain rfl : i = hl.length := by omega
    refine aV (bD (aj (ay (ay ?_))))
    have hLen := mW hl tx place hl.length
    refine ah (aP rfl (bT rfl (bf 0 underlying69 rfl sizeOf64 rfl (bf 2 underlying64 rfl sizeOf61 rfl (dA underlying61 rfl (HL.f2).get.2 rfl (bT rfl (bf 0 underlying125 rfl sizeOf3 rfl (dA underlying3 rfl (HL.f3).get.2 rfl (aP rfl (aU (dG rfl rfl) (aB (aj (aO rfl (fun h4 => ?_) (fun h4 => ?_))))))))))))))
    · (try simp only [aG] at h4)
      have hsv : lG hl tx place = jM hl tx place hl.length ++ [((hl.length : Int), fE hl tx hl.length)] := by unfold lG; rw [if_pos h4]
      refine ah (aP rfl (aP rfl (aP rfl (aP rfl (dD rfl func86 (lX HL.f5.f5.f5.f5) ?_)))))
      rintro _ w9 ⟨rfl, H9⟩
      refine aU (dJ (zl := [.int .i64 0, .string .empty]) (pl := [(0, 1), (1, 1)]) [_, _] underlying106 zeroValue106 rfl (fun w => by kernel_rfl) rfl (.one (by first | rfl | assumption) (.one (by first | rfl | assumption) .nil)) rfl) ?_
      refine gB (mP H9 underlying42 sizeOf106 zeroValue106 rfl rfl rfl (by decide) (by decide)) ?_
      rintro l10 w10 qK
      refine gB (fK qK.f6 underlying42 (show (prog.info? 106).map (fun i => (i.zero, i.size, i.bytes)) = some (some (.agg #[.int .i64 0, .string .empty]), 2, 24) by kernel_rfl) rfl rfl rfl ((qK).aJ) (aC (by first | rfl | assumption) (aC (by first | rfl | assumption) bg)) (by omega) (by omega)) ?_
      rintro YA IV vK
      have FD := vK.f2.right
      refine aW rfl (aB (aj (ay (ah (aP rfl (aW rfl (aB (aj (aN (aT (.inl rfl) results56 rfl ?_))))))))))
      first
        | (rw [hsv, List.length_append, List.flatMap_append]; exact FD.f5.f5.f5.f5.f5)
        | (rw [hsv]; exact FD.f5.f5.f5.f5.f5)
    · (try simp only [aG] at h4)
      have hsv : lG hl tx place = jM hl tx place hl.length := by unfold lG; rw [if_neg (by simpa using h4), List.append_nil]
      refine aQ (aj (ay (ah (aP rfl (aW rfl (aB (aj (aN (aT (.inl rfl) results56 rfl ?_)))))))))
      first
        | (rw [hsv, List.length_append, List.flatMap_append]; exact HL.f5.f5.f5.f5.f5)
        | (rw [hsv]; exact HL.f5.f5.f5.f5.f5)
theorem PO {u0 u1 u2 u3 u4 u5 u6 u7 u8 u9 ua : Value} (hin : s.inn = true) (H : aA w0 w (sS s.inn s.was [u0, u1, u2, u3, u4, u5, u6, u7, u8, u9, ua] • F)) : u6 = .int .i64 s.was.last ∧ u7 = .int .i64 s.was.fr ∧ u8 = .int .i64 s.was.to := by
  rw [hin] at H
  obtain ⟨qb, qr, qw, qt, qm, hu, -⟩ := H.was
  simp only [JZ, List.cons.injEq, and_true] at hu
  exact ⟨hu.2.2.2.2.2.2.1, hu.2.2.2.2.2.2.2.1, hu.2.2.2.2.2.2.2.2.1⟩
set_option maxHeartbeats 1000000 in
theorem oD (H : aA w0 w (dN e s • F)) : fQ prog 16 #[.pointer (some ⟨e, 0, none⟩)] w fun v w' => ∃ u ks us sv, v = .agg (ES s u ks sv).toArray ∧
  aA w0 w' (gW 21 .i32 u s.c.L • Row 23 1 ks s.c.E.length us • xG 21 .i32 us (pR s.c.E s.c.at_) • Row 106 2 sv s.saved.length (s.saved.flatMap lC) • dN e s • F) := by
 refine iw func16 ntmps16 ?_
 dsimp only [aZ, Nat.reduceAdd]
 obtain ⟨qZ, ru, rC, rD, rE, rF, rG, rH, oL, mZ, ng, ni, ny, nC, nD, nG, nH, nI, nJ, nK, dL, bM, iC, eU⟩ := (H).Ey
 have hU : (s.c.un s.c.place).length ≤ 16384 := by
  obtain ⟨D, P, hD1, hD2, HU⟩ := (eU.f6).RP
  by_cases hm : s.c.place ∈ D
  ·have HF := HU.swap
   rw [mV hm] at HF
   obtain ⟨_, _, _, _, k1, _⟩ := HF.flat.qO
   have := k1.len; simpa using this
  ·rw [hD2 _ hm]; decide
 refine ay (ah (gB (bW (l := [_, _, _, _, _, _, _, _, _, _, _, _, _, _, _, _, _]) eU zeroValue44 rfl) ?_))
 rintro _ w2 ⟨b2, rfl, H2⟩
 refine aB (aj (ay (ay (ah (aP rfl (dD rfl func54 (xH H2.f2) ?_))))))
 rintro _ _ ⟨rfl, rfl⟩
 refine aB (aj (pW (aQ (aj ?_))))
 refine sZ [(0, _)] (fun (⟨r, q, u, ks, sv, us⟩ : Nat × Nat × Value × Value × Value × List Value) => [(2, .pointer (some ⟨r, 0, none⟩)), (3, .pointer (some ⟨q, 0, none⟩))]) (fun (⟨r, q, u, ks, sv, us⟩ : Nat × Nat × Value × Value × Value × List Value) W => aA w0 W (cO q (.cells (u :: .int .i64 s.c.pt :: .int .i64 s.c.mark :: .int .i64 s.c.mode :: .bool s.c.over :: .bool s.given :: .bool s.minus :: .int .i64 s.arg :: .int .i64 s.c.last :: .int .i64 s.c.fr :: .int .i64 s.c.to :: ks :: .int .i64 s.c.place :: sv :: .int .i64 s.Md :: .int .i64 s.c.res :: .int .i64 s.ql :: []).toArray 44 (0, 0)) • gW 21 .i32 u s.c.L • Row 23 1 ks s.c.E.length us • xG 21 .i32 us (pR s.c.E s.c.at_) • Row 106 2 sv s.saved.length (s.saved.flatMap lC) • cO e (.cells (.pointer (some ⟨qZ, 0, none⟩) :: .pointer (some ⟨ru, 0, none⟩) :: .pointer (some ⟨rC, 0, none⟩) :: .map (some rE) :: .int .i64 s.c.mode :: .bool s.c.over :: .int .i64 s.c.last :: .int .i64 s.c.fr :: .int .i64 s.c.to :: .int .i64 s.c.res :: .bool s.c.run :: .pointer (some ⟨rF, 0, none⟩) :: .pointer (some ⟨rG, 0, none⟩) :: .bool s.given :: .bool s.minus :: .int .i64 s.arg :: .bool s.inn :: mZ :: ng :: ni :: ny :: nC :: nD :: nG :: nH :: nI :: nJ :: nK :: .int .i64 s.cls :: .bool s.killed :: .bool s.mM :: .bool s.argues :: .bool s.whole :: rH :: []).toArray 69 (0, 0)) • dQ qZ s.c.L s.c.pt s.c.mark • eu ru s.c.E s.c.at_ • cO rC (.cells #[.int .i64 s.c.place, .map (some rD)] 125 (0, 0)) • dY lI rD (lJ s.c.tx) • qF rE s.c.un • dn rF s.hl s.base s.most • cO rG (.cells #[.int .i64 s.ql] 144 (0, 0)) • Row 202 3 rH s.put.length (oL.flatMap dw.enc) • jq oL • sS s.inn s.was [mZ, ng, ni, ny, nC, nD, nG, nH, nI, nJ, nK] • cO r (.cells (.slice none 0 0 :: .int .i64 0 :: .int .i64 0 :: .int .i64 0 :: .bool false :: .bool false :: .bool false :: .int .i64 0 :: .int .i64 0 :: .int .i64 0 :: .int .i64 0 :: .slice none 0 0 :: .int .i64 0 :: .slice none 0 0 :: .int .i64 0 :: .int .i64 0 :: .int .i64 0 :: []).toArray 44 (0, 0)) • F)) (Sub.cons rfl (Sub.nil _)) ?_ ?_
 ·rintro ⟨r, q, u, ks, sv, us⟩ w4 HJ
  dsimp only [List.cons_append, List.nil_append]
  refine ay (ay (ah (aP rfl (bT rfl (bf 16 underlying69 rfl sizeOf4 rfl (dA underlying4 rfl (HJ.f6).get.2 rfl (aB (aj (aO rfl (fun h1 => ?_) (fun h1 => ?_))))))))))
  ·(try simp only [aG] at h1)
   have hin := h1
   obtain ⟨rfl, rfl, rfl⟩ := PO hin HJ.f16
   have S9 := HJ.drew
   have jo := aA.kp (S9.right.f16.f16.f16.f16.f16.f16.f16.f16.f16.f16.f16.f16.f16.f16.f16.f16)
   refine vJ [4, 9, 14] jo rfl (fU 0 rfl jo rfl (iZ 1 rfl jo rfl (dU 2 rfl jo 17 underlying69 rfl sizeOf64 rfl (dU 3 rfl jo 6 underlying64 rfl sizeOf3 rfl (gG 4 rfl jo (fun W hW => iF underlying3 rfl ((Kp.h hW).f5).get.2 rfl) (fU 5 rfl jo rfl (iZ 6 rfl jo rfl (dU 7 rfl jo 17 underlying69 rfl sizeOf64 rfl (dU 8 rfl jo 7 underlying64 rfl sizeOf3 rfl (gG 9 rfl jo (fun W hW => iF underlying3 rfl ((Kp.h hW).f5).get.2 rfl) (fU 10 rfl jo rfl (iZ 11 rfl jo rfl (dU 12 rfl jo 17 underlying69 rfl sizeOf64 rfl (dU 13 rfl jo 8 underlying64 rfl sizeOf3 rfl (gG 14 rfl jo (fun W hW => iF underlying3 rfl ((Kp.h hW).f5).get.2 rfl) (dU 15 rfl jo 8 underlying44 rfl sizeOf3 rfl ?_))))))))))))))))
   refine dO 16 rfl (by kernel_rfl) (aS 8 (l' := [_, _, _, _, _, _, _, _, _, _, _, _, _, _, _, _, _]) S9 sizeOf3 rfl rfl (by first | rfl | assumption) rfl rfl) ?_
   rintro _ w5 H5
   have sN := aA.kp (H5.right.f16.f16.f16.f16.f16.f16.f16.f16.f16.f16.f16.f16.f16.f16.f16.f16)
   refine bU sN (fun W hW => (Kp.h hW).f16.f16.f16.f16.f16.f16.f16.f16.f16.f16.f16.f16.f16.f16.f16.f16) ?_
   refine dU 17 rfl sN 9 underlying44 rfl sizeOf3 rfl ?_
   refine dO 18 rfl (by kernel_rfl) (aS 9 (l' := [_, _, _, _, _, _, _, _, _, _, _, _, _, _, _, _, _]) H5 sizeOf3 rfl rfl (by first | rfl | assumption) rfl rfl) ?_
   rintro _ w6 H6
   have zY := aA.kp (H6.f17.f17.f17.f17.f17.f17.f17.f17.f17.f17.f17.f17.f17.f17.f17.f17.f17)
   refine bU zY (fun W hW => (Kp.h hW).right.f16.f16.f16.f16.f16.f16.f16.f16.f16.f16.f16.f16.f16.f16.f16.f16) ?_
   refine dU 19 rfl zY 10 underlying44 rfl sizeOf3 rfl ?_
   refine dO 20 rfl (by kernel_rfl) (aS 10 (l' := [_, _, _, _, _, _, _, _, _, _, _, _, _, _, _, _, _]) H6 sizeOf3 rfl rfl (by first | rfl | assumption) rfl rfl) ?_
   rintro _ w7 H7
   have vY := aA.kp (H7.f17.f17.f17.f17.f17.f17.f17.f17.f17.f17.f17.f17.f17.f17.f17.f17.f17)
   refine dS vY (by kernel_rfl) ?_
   refine mD (aj (ay (ah (aU (bQ underlying44 rfl sizeOf44 rfl rfl (H7).get.2) (aI (bC 0 (l' := [_, _, _, _, _, _, _, _, _, _, _, _, _, _, _, _, _]) (us := [_, _, _, _, _, _, _, _, _, _, _, _, _, _, _, _, _]) H7.f17 sizeOf44 rfl rfl rfl (aC (by first | rfl | exact Rd.one ((H7.f2).aJ)) (aC (by first | rfl | assumption) (aC (by first | rfl | assumption) (aC (by first | rfl | assumption) (aC (by first | rfl | assumption) (aC (by first | rfl | assumption) (aC (by first | rfl | assumption) (aC (by first | rfl | assumption) (aC (by first | rfl | assumption) (aC (by first | rfl | assumption) (aC (by first | rfl | assumption) (aC (by first | rfl | exact Rd.one ((H7.f3).aJ)) (aC (by first | rfl | assumption) (aC (by first | rfl | exact Rd.one ((H7.f5).aJ)) (aC (by first | rfl | assumption) (aC (by first | rfl | assumption) (aC (by first | rfl | assumption) bg))))))))))))))))) rfl rfl) ?_)))))
   rintro _ w8 H8
   refine aB (aj (aN ?_))
   refine kM (.inl rfl) (Fq results16 rfl underlying44 rfl (by rw [show (prog.info? 44).map (·.size) = some 17 from by kernel_rfl]; rfl) (H8).get.2) ?_
   have Ry := H8.f17.f17.f17.f17.f17.f17.f17.f17.f17.f17.f17
   have Rz := aA.eG (s := s) dL bM Ry
   refine ⟨u, ks, us, sv, ?_, Rz.f2.right.f2.right.f5.f5.f5.f5⟩
   unfold ES bH.NT bH.ZM bH.ZN
   rw [hin]
   rfl
  ·(try simp only [aG] at h1)
   have hin := h1
   refine aQ (aj (ay (ah (aU (bQ underlying44 rfl sizeOf44 rfl rfl (HJ).get.2) (aI (bC 0 (l' := [_, _, _, _, _, _, _, _, _, _, _, _, _, _, _, _, _]) (us := [_, _, _, _, _, _, _, _, _, _, _, _, _, _, _, _, _]) HJ.f17 sizeOf44 rfl rfl rfl (aC (by first | rfl | exact Rd.one ((HJ.f2).aJ)) (aC (by first | rfl | assumption) (aC (by first | rfl | assumption) (aC (by first | rfl | assumption) (aC (by first | rfl | assumption) (aC (by first | rfl | assumption) (aC (by first | rfl | assumption) (aC (by first | rfl | assumption) (aC (by first | rfl | assumption) (aC (by first | rfl | assumption) (aC (by first | rfl | assumption) (aC (by first | rfl | exact Rd.one ((HJ.f3).aJ)) (aC (by first | rfl | assumption) (aC (by first | rfl | exact Rd.one ((HJ.f5).aJ)) (aC (by first | rfl | assumption) (aC (by first | rfl | assumption) (aC (by first | rfl | assumption) bg))))))))))))))))) rfl rfl) ?_)))))
   rintro _ w12 vM
   refine aB (aj (aN ?_))
   refine kM (.inl rfl) (Fq results16 rfl underlying44 rfl (by rw [show (prog.info? 44).map (·.size) = some 17 from by kernel_rfl]; rfl) (vM).get.2) ?_
   have RY := vM.f17.f17.f17.f17.f17.f17.f17.f17.f17.f17.f17
   have RZ := aA.eG (s := s) dL bM RY
   refine ⟨u, ks, us, sv, ?_, RZ.f2.right.f2.right.f5.f5.f5.f5⟩
   unfold ES bH.NT bH.ZM bH.ZN
   rw [hin]
   rfl
 ·skip
  have Tc := H2.drew
  have bY := aA.kp (Tc.f7.right.f7.right.f10.f10.f10.f10.f10.f10.f10.f10.f10.f10)
  refine vJ [6, 11, 15, 19, 23, 28, 33, 38, 45, 48, 57, 61] bY rfl (fU 0 rfl bY rfl (fU 2 rfl bY rfl (iZ 3 rfl bY rfl (dU 4 rfl bY 0 underlying69 rfl sizeOf64 rfl (dU 5 rfl bY 4 underlying64 rfl sizeOf3 rfl (gG 6 rfl bY (fun W hW => iF underlying3 rfl ((Kp.h hW).f2).get.2 rfl) (fU 7 rfl bY rfl (iZ 8 rfl bY rfl (dU 9 rfl bY 0 underlying69 rfl sizeOf64 rfl (dU 10 rfl bY 5 underlying64 rfl sizeOf4 rfl (gG 11 rfl bY (fun W hW => iF underlying4 rfl ((Kp.h hW).f2).get.2 rfl) (fU 12 rfl bY rfl (iZ 13 rfl bY rfl (dU 14 rfl bY 13 underlying69 rfl sizeOf4 rfl (gG 15 rfl bY (fun W hW => iF underlying4 rfl ((Kp.h hW).f2).get.2 rfl) (fU 16 rfl bY rfl (iZ 17 rfl bY rfl (dU 18 rfl bY 14 underlying69 rfl sizeOf4 rfl (gG 19 rfl bY (fun W hW => iF underlying4 rfl ((Kp.h hW).f2).get.2 rfl) (fU 20 rfl bY rfl (iZ 21 rfl bY rfl (dU 22 rfl bY 15 underlying69 rfl sizeOf3 rfl (gG 23 rfl bY (fun W hW => iF underlying3 rfl ((Kp.h hW).f2).get.2 rfl) (fU 24 rfl bY rfl (iZ 25 rfl bY rfl (dU 26 rfl bY 0 underlying69 rfl sizeOf64 rfl (dU 27 rfl bY 6 underlying64 rfl sizeOf3 rfl (gG 28 rfl bY (fun W hW => iF underlying3 rfl ((Kp.h hW).f2).get.2 rfl) (fU 29 rfl bY rfl (iZ 30 rfl bY rfl (dU 31 rfl bY 0 underlying69 rfl sizeOf64 rfl (dU 32 rfl bY 7 underlying64 rfl sizeOf3 rfl (gG 33 rfl bY (fun W hW => iF underlying3 rfl ((Kp.h hW).f2).get.2 rfl) (fU 34 rfl bY rfl (iZ 35 rfl bY rfl (dU 36 rfl bY 0 underlying69 rfl sizeOf64 rfl (dU 37 rfl bY 8 underlying64 rfl sizeOf3 rfl (gG 38 rfl bY (fun W hW => iF underlying3 rfl ((Kp.h hW).f2).get.2 rfl) (fU 39 rfl bY rfl ?_)))))))))))))))))))))))))))))))))))))))
  refine fU 41 rfl bY rfl (iZ 42 rfl bY rfl (dU 43 rfl bY 0 underlying69 rfl sizeOf64 rfl (dU 44 rfl bY 2 underlying64 rfl sizeOf61 rfl (gG 45 rfl bY (fun W hW => iF underlying61 rfl ((Kp.h hW).f2).get.2 rfl) (iZ 46 rfl bY rfl (dU 47 rfl bY 0 underlying125 rfl sizeOf3 rfl (gG 48 rfl bY (fun W hW => iF underlying3 rfl ((Kp.h hW).f5).get.2 rfl) (fU 49 rfl bY rfl (fU 51 rfl bY rfl (fU 53 rfl bY rfl (iZ 54 rfl bY rfl (dU 55 rfl bY 0 underlying69 rfl sizeOf64 rfl (dU 56 rfl bY 9 underlying64 rfl sizeOf3 rfl (gG 57 rfl bY (fun W hW => iF underlying3 rfl ((Kp.h hW).f2).get.2 rfl) (fU 58 rfl bY rfl (iZ 59 rfl bY rfl (dU 60 rfl bY 12 underlying69 rfl sizeOf66 rfl (gG 61 rfl bY (fun W hW => iF underlying66 rfl ((Kp.h hW).f2).get.2 rfl) ?_))))))))))))))))))
  refine tZ (i := 1) (j := 64) (by kernel_rfl) ?_ ?_
  ·skip
   refine iy 1 rfl (by kernel_rfl) (lN (mG rfl func32 rfl rfl) (Cc Tc.f3.f3)) (jg rfl) ?_
   rintro _ w16 ⟨u16, rfl, sW⟩
   have zT := aA.kp (sW.f8.right.f8.right.f11.f11.f11.f11.f11.f11.f11.f11.f11.f11.f11)
   refine bU zT (fun W hW => (Kp.h hW).right.f10.f10.f10.f10.f10.f10.f10.f9.f9.f10) ?_
   refine tZ (i := 40) (j := 64) (by kernel_rfl) ?_ ?_
   ·skip
    refine iy 40 rfl (by kernel_rfl) (lN (mG rfl func55 rfl rfl) (wI sW.f5.f3)) (jg rfl) ?_
    rintro u17 UA ⟨ac1, zf⟩
    have yD := aA.kp (zf.f10.right.f10.right.f13.f13.f13.f13.f13.f13.f13.f13.f13.f13.f13.f13.f13)
    refine bU yD (fun W hW => (Kp.h hW).right.right.f11.f11.f11.f11.f11.f11.f8.f11.f11.f10.f11) ?_
    refine tZ (i := 50) (j := 64) (by kernel_rfl) ?_ ?_
    ·skip
     refine iy 50 rfl (by kernel_rfl) (lN (mG rfl func56 rfl rfl) (rM zf.f11.f10.f10.f6)) (jg rfl) ?_
     rintro u18 TR Au
     have zO := aA.kp (Au.f12.right.f15.f15.f15.f15.f15.f15.f15.f15.f15.f15.f15.f15.f15.f15.f15)
     refine bU zO (fun W hW => (Kp.h hW).right.f4.right.f13.f13.f13.f13.f7.f7.f13.f13.f13.f13.f11.f13.f13) ?_
     refine tZ (i := 52) (j := 64) (by kernel_rfl) ?_ ?_
     ·skip
      refine iy 52 rfl (by kernel_rfl) (lN (mG rfl func57 rfl rfl) (lY Au.f14.f13.f5.f5 hU)) (jg rfl) ?_
      rintro _ TS ⟨rfl, xX⟩
      have JW := aA.kp (xX.f16.f16.f16.f16.f16.f16.f16.f16.f16.f16.f16.f16.f16.f16.f16.f16)
      refine bU JW (fun W hW => (Kp.h hW).f3.right.f15.f15.f5.f15.f15.f15.f15.f15.f15.f15.f15.f15.f14.f14.f15) ?_
      refine tZ (i := 62) (j := 64) (by kernel_rfl) ?_ ?_
      ·skip
       refine iy 62 rfl (by kernel_rfl) (lN (mG rfl func58 rfl rfl) (kK xX.f14)) (jg rfl) ?_
       rintro _ _ ⟨rfl, rfl⟩
       have zW := aA.kp (xX.f16.f16.f16.f16.f16.f16.f16.f16.f16.f16.f16.f16.f16.f16.f16.f16)
       refine bU zW (fun W hW => (Kp.h hW).f16.f16.f16.f16.f16.f16.f16.f16.f16.f16.f16.f16.f16.f16.f16.f16) ?_
       refine gZ 63 rfl zW (fun _ => dJ (zl := [.slice none 0 0, .int .i64 0, .int .i64 0, .int .i64 0, .bool false, .bool false, .bool false, .int .i64 0, .int .i64 0, .int .i64 0, .int .i64 0, .slice none 0 0, .int .i64 0, .slice none 0 0, .int .i64 0, .int .i64 0, .int .i64 0]) (pl := [(0, 3), (3, 1), (4, 1), (5, 1), (6, 1), (7, 1), (8, 1), (9, 1), (10, 1), (11, 1), (12, 1), (13, 1), (14, 1), (15, 1), (16, 1)]) [_, _, _, _, _, _, _, _, _, _, _, _, _, _, _, _, _] underlying44 zeroValue44 rfl (fun w => by kernel_rfl) rfl (.agg (us := [_, _, _]) (zs := [.slice none 0 0, .int .i64 0, .int .i64 0]) rfl rfl (.one (by first | rfl | assumption) (.one (by first | rfl | assumption) (.one (by first | rfl | assumption) (.one (by first | rfl | assumption) (.one (by first | rfl | assumption) (.one (by first | rfl | assumption) (.one (by first | rfl | assumption) (.one (by first | rfl | assumption) (.one (Rd.one ((xX.f8).aJ)) (.one (by first | rfl | assumption) (.one (Rd.one ((xX.f5).aJ)) (.one (by first | rfl | assumption) (.one (by first | rfl | assumption) (.one (by first | rfl | assumption) .nil))))))))))))))) rfl) ?_
       refine jm 64 rfl (bW (l := [_, _, _, _, _, _, _, _, _, _, _, _, _, _, _, _, _]) xX zeroValue44 rfl) ?_
       rintro _ TT ⟨b21, rfl, oW⟩
       have Zb := aA.kp (oW.f17.f17.f17.f17.f17.f17.f17.f17.f17.f17.f17.f17.f17.f17.f17.f17.f17)
       refine bU Zb (fun W hW => (Kp.h hW).right.f16.f16.f16.f16.f16.f16.f16.f16.f16.f16.f16.f16.f16.f16.f16.f16) ?_
       refine dO 65 rfl (by kernel_rfl) (bC 0 (l' := [_, _, _, _, _, _, _, _, _, _, _, _, _, _, _, _, _]) (us := [_, _, _, _, _, _, _, _, _, _, _, _, _, _, _, _, _]) oW sizeOf44 rfl rfl rfl (aC (by first | rfl | exact Rd.one ((oW.f12).aJ)) (aC (by first | rfl | assumption) (aC (by first | rfl | assumption) (aC (by first | rfl | assumption) (aC (by first | rfl | assumption) (aC (by first | rfl | assumption) (aC (by first | rfl | assumption) (aC (by first | rfl | assumption) (aC (by first | rfl | assumption) (aC (by first | rfl | assumption) (aC (by first | rfl | assumption) (aC (by first | rfl | exact Rd.one ((oW.f9).aJ)) (aC (by first | rfl | assumption) (aC (by first | rfl | exact Rd.one ((oW.f6).aJ)) (aC (by first | rfl | assumption) (aC (by first | rfl | assumption) (aC (by first | rfl | assumption) bg))))))))))))))))) rfl rfl) ?_
       rintro _ XC IW
       have zX := aA.kp (IW.f17.f17.f17.f17.f17.f17.f17.f17.f17.f17.f17.f17.f17.f17.f17.f17.f17)
       refine dS zX (by kernel_rfl) ?_
       refine mD ?_
       refine dh (_, _, _, _, _, _) (Sub.cons rfl (Sub.cons rfl (Sub.nil _))) (Sub.cons rfl (Sub.nil _)) (by (try dsimp only); exact IW.f14.f17.f17.f8.f17.f12.f10.f12.f11.f15.f17.f13.f14.f16.f16.f17.f17)
      ·skip
       refine iy 64 rfl (by kernel_rfl) (bW (l := [_, _, _, _, _, _, _, _, _, _, _, _, _, _, _, _, _]) xX zeroValue44 rfl) (jg rfl) ?_
       rintro _ Qh ⟨b23, rfl, vN⟩
       have BO := aA.kp (vN.f17.f17.f17.f17.f17.f17.f17.f17.f17.f17.f17.f17.f17.f17.f17.f17.f17)
       refine bU BO (fun W hW => (Kp.h hW).right.f16.f16.f16.f16.f16.f16.f16.f16.f16.f16.f16.f16.f16.f16.f16.f16) ?_
       refine jm 62 rfl (rX rfl func58 (kK vN.f15)) ?_
       rintro _ _ ⟨rfl, rfl⟩
       have EF := aA.kp (vN.f17.f17.f17.f17.f17.f17.f17.f17.f17.f17.f17.f17.f17.f17.f17.f17.f17)
       refine bU EF (fun W hW => (Kp.h hW).f17.f17.f17.f17.f17.f17.f17.f17.f17.f17.f17.f17.f17.f17.f17.f17.f17) ?_
       refine gZ 63 rfl EF (fun _ => dJ (zl := [.slice none 0 0, .int .i64 0, .int .i64 0, .int .i64 0, .bool false, .bool false, .bool false, .int .i64 0, .int .i64 0, .int .i64 0, .int .i64 0, .slice none 0 0, .int .i64 0, .slice none 0 0, .int .i64 0, .int .i64 0, .int .i64 0]) (pl := [(0, 3), (3, 1), (4, 1), (5, 1), (6, 1), (7, 1), (8, 1), (9, 1), (10, 1), (11, 1), (12, 1), (13, 1), (14, 1), (15, 1), (16, 1)]) [_, _, _, _, _, _, _, _, _, _, _, _, _, _, _, _, _] underlying44 zeroValue44 rfl (fun w => by kernel_rfl) rfl (.agg (us := [_, _, _]) (zs := [.slice none 0 0, .int .i64 0, .int .i64 0]) rfl rfl (.one (by first | rfl | assumption) (.one (by first | rfl | assumption) (.one (by first | rfl | assumption) (.one (by first | rfl | assumption) (.one (by first | rfl | assumption) (.one (by first | rfl | assumption) (.one (by first | rfl | assumption) (.one (by first | rfl | assumption) (.one (Rd.one ((vN.f9).aJ)) (.one (by first | rfl | assumption) (.one (Rd.one ((vN.f6).aJ)) (.one (by first | rfl | assumption) (.one (by first | rfl | assumption) (.one (by first | rfl | assumption) .nil))))))))))))))) rfl) ?_
       refine dO 65 rfl (by kernel_rfl) (bC 0 (l' := [_, _, _, _, _, _, _, _, _, _, _, _, _, _, _, _, _]) (us := [_, _, _, _, _, _, _, _, _, _, _, _, _, _, _, _, _]) vN sizeOf44 rfl rfl rfl (aC (by first | rfl | exact Rd.one ((vN.f12).aJ)) (aC (by first | rfl | assumption) (aC (by first | rfl | assumption) (aC (by first | rfl | assumption) (aC (by first | rfl | assumption) (aC (by first | rfl | assumption) (aC (by first | rfl | assumption) (aC (by first | rfl | assumption) (aC (by first | rfl | assumption) (aC (by first | rfl | assumption) (aC (by first | rfl | assumption) (aC (by first | rfl | exact Rd.one ((vN.f9).aJ)) (aC (by first | rfl | assumption) (aC (by first | rfl | exact Rd.one ((vN.f6).aJ)) (aC (by first | rfl | assumption) (aC (by first | rfl | assumption) (aC (by first | rfl | assumption) bg))))))))))))))))) rfl rfl) ?_
       rintro _ Yc Jz
       have Sj := aA.kp (Jz.f17.f17.f17.f17.f17.f17.f17.f17.f17.f17.f17.f17.f17.f17.f17.f17.f17)
       refine dS Sj (by kernel_rfl) ?_
       refine mD ?_
       refine dh (_, _, _, _, _, _) (Sub.cons rfl (Sub.cons rfl (Sub.nil _))) (Sub.cons rfl (Sub.nil _)) (by (try dsimp only); exact Jz.f14.f17.f17.f8.f17.f12.f10.f12.f11.f15.f17.f13.f14.f16.f16.f17.f17)
     ·skip
      refine iy 64 rfl (by kernel_rfl) (bW (l := [_, _, _, _, _, _, _, _, _, _, _, _, _, _, _, _, _]) Au zeroValue44 rfl) (jg rfl) ?_
      rintro _ ZH ⟨b26, rfl, ND⟩
      have Zc := aA.kp (ND.f13.right.f16.f16.f16.f16.f16.f16.f16.f16.f16.f16.f16.f16.f16.f16.f16.f16)
      refine bU Zc (fun W hW => (Kp.h hW).right.f15.f15.f15.f15.f15.f15.f15.f15.f15.f15.f15.f15.f15.f15.f15) ?_
      refine jm 52 rfl (rX rfl func57 (lY ND.f15.f14.f6.f6 hU)) ?_
      rintro _ Yd ⟨rfl, IX⟩
      have iT := aA.kp (IX.f17.f17.f17.f17.f17.f17.f17.f17.f17.f17.f17.f17.f17.f17.f17.f17.f17)
      refine bU iT (fun W hW => (Kp.h hW).f3.right.f16.f16.f5.f16.f16.f16.f16.f16.f16.f16.f16.f16.f14.f14.f16.f16) ?_
      refine jm 62 rfl (rX rfl func58 (kK IX.f15)) ?_
      rintro _ _ ⟨rfl, rfl⟩
      have Ky := aA.kp (IX.f17.f17.f17.f17.f17.f17.f17.f17.f17.f17.f17.f17.f17.f17.f17.f17.f17)
      refine bU Ky (fun W hW => (Kp.h hW).f17.f17.f17.f17.f17.f17.f17.f17.f17.f17.f17.f17.f17.f17.f17.f17.f17) ?_
      refine gZ 63 rfl Ky (fun _ => dJ (zl := [.slice none 0 0, .int .i64 0, .int .i64 0, .int .i64 0, .bool false, .bool false, .bool false, .int .i64 0, .int .i64 0, .int .i64 0, .int .i64 0, .slice none 0 0, .int .i64 0, .slice none 0 0, .int .i64 0, .int .i64 0, .int .i64 0]) (pl := [(0, 3), (3, 1), (4, 1), (5, 1), (6, 1), (7, 1), (8, 1), (9, 1), (10, 1), (11, 1), (12, 1), (13, 1), (14, 1), (15, 1), (16, 1)]) [_, _, _, _, _, _, _, _, _, _, _, _, _, _, _, _, _] underlying44 zeroValue44 rfl (fun w => by kernel_rfl) rfl (.agg (us := [_, _, _]) (zs := [.slice none 0 0, .int .i64 0, .int .i64 0]) rfl rfl (.one (by first | rfl | assumption) (.one (by first | rfl | assumption) (.one (by first | rfl | assumption) (.one (by first | rfl | assumption) (.one (by first | rfl | assumption) (.one (by first | rfl | assumption) (.one (by first | rfl | assumption) (.one (by first | rfl | assumption) (.one (Rd.one ((IX.f9).aJ)) (.one (by first | rfl | assumption) (.one (Rd.one ((IX.f6).aJ)) (.one (by first | rfl | assumption) (.one (by first | rfl | assumption) (.one (by first | rfl | assumption) .nil))))))))))))))) rfl) ?_
      refine dO 65 rfl (by kernel_rfl) (bC 0 (l' := [_, _, _, _, _, _, _, _, _, _, _, _, _, _, _, _, _]) (us := [_, _, _, _, _, _, _, _, _, _, _, _, _, _, _, _, _]) IX.f5 sizeOf44 rfl rfl rfl (aC (by first | rfl | exact Rd.one ((IX.f12).aJ)) (aC (by first | rfl | assumption) (aC (by first | rfl | assumption) (aC (by first | rfl | assumption) (aC (by first | rfl | assumption) (aC (by first | rfl | assumption) (aC (by first | rfl | assumption) (aC (by first | rfl | assumption) (aC (by first | rfl | assumption) (aC (by first | rfl | assumption) (aC (by first | rfl | assumption) (aC (by first | rfl | exact Rd.one ((IX.f9).aJ)) (aC (by first | rfl | assumption) (aC (by first | rfl | exact Rd.one ((IX.f6).aJ)) (aC (by first | rfl | assumption) (aC (by first | rfl | assumption) (aC (by first | rfl | assumption) bg))))))))))))))))) rfl rfl) ?_
      rintro _ ZI O4
      have ET := aA.kp (O4.f17.f17.f17.f17.f17.f17.f17.f17.f17.f17.f17.f17.f17.f17.f17.f17.f17)
      refine dS ET (by kernel_rfl) ?_
      refine mD ?_
      refine dh (_, _, _, _, _, _) (Sub.cons rfl (Sub.cons rfl (Sub.nil _))) (Sub.cons rfl (Sub.nil _)) (by (try dsimp only); exact O4.f14.f17.f17.f8.f17.f12.f10.f12.f11.f15.f17.f13.f14.f16.f16.f17.f17)
    ·skip
     refine iy 64 rfl (by kernel_rfl) (bW (l := [_, _, _, _, _, _, _, _, _, _, _, _, _, _, _, _, _]) zf zeroValue44 rfl) (jg rfl) ?_
     rintro _ Yf ⟨b30, rfl, Hf⟩
     have Td := aA.kp (Hf.f11.right.f11.right.f14.f14.f14.f14.f14.f14.f14.f14.f14.f14.f14.f14.f14.f14)
     refine bU Td (fun W hW => (Kp.h hW).right.f13.f13.f13.f13.f13.f13.f13.f13.f13.f13.f13.f13.f13) ?_
     refine jm 50 rfl (rX rfl func56 (rM Hf.f12.f11.f11.f7)) ?_
     rintro u31 XD Lc
     have Sl := aA.kp (Lc.f13.right.f16.f16.f16.f16.f16.f16.f16.f16.f16.f16.f16.f16.f16.f16.f16.f16)
     refine bU Sl (fun W hW => (Kp.h hW).right.f4.right.f14.f14.f14.f14.f7.f7.f14.f14.f14.f14.f11.f14.f14.f14) ?_
     refine jm 52 rfl (rX rfl func57 (lY Lc.f15.f14.f5.f5 hU)) ?_
     rintro _ w32 ⟨rfl, CW⟩
     have BR := aA.kp (CW.f17.f17.f17.f17.f17.f17.f17.f17.f17.f17.f17.f17.f17.f17.f17.f17.f17)
     refine bU BR (fun W hW => (Kp.h hW).f3.right.f16.f16.f5.f16.f16.f16.f16.f16.f16.f16.f16.f16.f16.f15.f15.f16) ?_
     refine jm 62 rfl (rX rfl func58 (kK CW.f15)) ?_
     rintro _ _ ⟨rfl, rfl⟩
     have NZ := aA.kp (CW.f17.f17.f17.f17.f17.f17.f17.f17.f17.f17.f17.f17.f17.f17.f17.f17.f17)
     refine bU NZ (fun W hW => (Kp.h hW).f17.f17.f17.f17.f17.f17.f17.f17.f17.f17.f17.f17.f17.f17.f17.f17.f17) ?_
     refine gZ 63 rfl NZ (fun _ => dJ (zl := [.slice none 0 0, .int .i64 0, .int .i64 0, .int .i64 0, .bool false, .bool false, .bool false, .int .i64 0, .int .i64 0, .int .i64 0, .int .i64 0, .slice none 0 0, .int .i64 0, .slice none 0 0, .int .i64 0, .int .i64 0, .int .i64 0]) (pl := [(0, 3), (3, 1), (4, 1), (5, 1), (6, 1), (7, 1), (8, 1), (9, 1), (10, 1), (11, 1), (12, 1), (13, 1), (14, 1), (15, 1), (16, 1)]) [_, _, _, _, _, _, _, _, _, _, _, _, _, _, _, _, _] underlying44 zeroValue44 rfl (fun w => by kernel_rfl) rfl (.agg (us := [_, _, _]) (zs := [.slice none 0 0, .int .i64 0, .int .i64 0]) rfl rfl (.one (by first | rfl | assumption) (.one (by first | rfl | assumption) (.one (by first | rfl | assumption) (.one (by first | rfl | assumption) (.one (by first | rfl | assumption) (.one (by first | rfl | assumption) (.one (by first | rfl | assumption) (.one (by first | rfl | assumption) (.one (Rd.one ((CW.f9).aJ)) (.one (by first | rfl | assumption) (.one (Rd.one ((CW.f5).aJ)) (.one (by first | rfl | assumption) (.one (by first | rfl | assumption) (.one (by first | rfl | assumption) .nil))))))))))))))) rfl) ?_
     refine dO 65 rfl (by kernel_rfl) (bC 0 (l' := [_, _, _, _, _, _, _, _, _, _, _, _, _, _, _, _, _]) (us := [_, _, _, _, _, _, _, _, _, _, _, _, _, _, _, _, _]) CW.f8 sizeOf44 rfl rfl rfl (aC (by first | rfl | exact Rd.one ((CW.f12).aJ)) (aC (by first | rfl | assumption) (aC (by first | rfl | assumption) (aC (by first | rfl | assumption) (aC (by first | rfl | assumption) (aC (by first | rfl | assumption) (aC (by first | rfl | assumption) (aC (by first | rfl | assumption) (aC (by first | rfl | assumption) (aC (by first | rfl | assumption) (aC (by first | rfl | assumption) (aC (by first | rfl | exact Rd.one ((CW.f9).aJ)) (aC (by first | rfl | assumption) (aC (by first | rfl | exact Rd.one ((CW.f5).aJ)) (aC (by first | rfl | assumption) (aC (by first | rfl | assumption) (aC (by first | rfl | assumption) bg))))))))))))))))) rfl rfl) ?_
     rintro _ ZQ N7
     have BU := aA.kp (N7.f17.f17.f17.f17.f17.f17.f17.f17.f17.f17.f17.f17.f17.f17.f17.f17.f17)
     refine dS BU (by kernel_rfl) ?_
     refine mD ?_
     refine dh (_, _, _, _, _, _) (Sub.cons rfl (Sub.cons rfl (Sub.nil _))) (Sub.cons rfl (Sub.nil _)) (by (try dsimp only); exact N7.f14.f17.f17.f8.f17.f12.f10.f12.f11.f15.f17.f13.f14.f16.f16.f17.f17)
   ·skip
    refine iy 64 rfl (by kernel_rfl) (bW (l := [_, _, _, _, _, _, _, _, _, _, _, _, _, _, _, _, _]) sW zeroValue44 rfl) (jg rfl) ?_
    rintro _ w35 ⟨b35, rfl, UO⟩
    have Sm := aA.kp (UO.f9.right.f9.right.f12.f12.f12.f12.f12.f12.f12.f12.f12.f12.f12.f12)
    refine bU Sm (fun W hW => (Kp.h hW).right.f11.f11.f11.f11.f11.f11.f11.f11.f11.f11.f11) ?_
    refine jm 40 rfl (rX rfl func55 (wI UO.f6.f4)) ?_
    rintro u36 w36 ⟨ac2, XE⟩
    have Oi := aA.kp (XE.f11.right.f11.right.f14.f14.f14.f14.f14.f14.f14.f14.f14.f14.f14.f14.f14.f14)
    refine bU Oi (fun W hW => (Kp.h hW).right.right.f12.f12.f12.f12.f12.f12.f8.f12.f12.f10.f12.f12) ?_
    refine jm 50 rfl (rX rfl func56 (rM XE.f12.f11.f11.f6)) ?_
    rintro u37 w37 VG
    have Tf := aA.kp (VG.f13.right.f16.f16.f16.f16.f16.f16.f16.f16.f16.f16.f16.f16.f16.f16.f16.f16)
    refine bU Tf (fun W hW => (Kp.h hW).right.f4.right.f14.f14.f14.f14.f7.f7.f14.f14.f14.f14.f14.f12.f14.f14) ?_
    refine jm 52 rfl (rX rfl func57 (lY VG.f15.f14.f5.f5 hU)) ?_
    rintro _ ZR ⟨rfl, MJ⟩
    have Zd := aA.kp (MJ.f17.f17.f17.f17.f17.f17.f17.f17.f17.f17.f17.f17.f17.f17.f17.f17.f17)
    refine bU Zd (fun W hW => (Kp.h hW).f3.right.f16.f16.f5.f16.f16.f16.f16.f16.f16.f16.f16.f16.f16.f15.f15.f16) ?_
    refine jm 62 rfl (rX rfl func58 (kK MJ.f15)) ?_
    rintro _ _ ⟨rfl, rfl⟩
    have Ko := aA.kp (MJ.f17.f17.f17.f17.f17.f17.f17.f17.f17.f17.f17.f17.f17.f17.f17.f17.f17)
    refine bU Ko (fun W hW => (Kp.h hW).f17.f17.f17.f17.f17.f17.f17.f17.f17.f17.f17.f17.f17.f17.f17.f17.f17) ?_
    refine gZ 63 rfl Ko (fun _ => dJ (zl := [.slice none 0 0, .int .i64 0, .int .i64 0, .int .i64 0, .bool false, .bool false, .bool false, .int .i64 0, .int .i64 0, .int .i64 0, .int .i64 0, .slice none 0 0, .int .i64 0, .slice none 0 0, .int .i64 0, .int .i64 0, .int .i64 0]) (pl := [(0, 3), (3, 1), (4, 1), (5, 1), (6, 1), (7, 1), (8, 1), (9, 1), (10, 1), (11, 1), (12, 1), (13, 1), (14, 1), (15, 1), (16, 1)]) [_, _, _, _, _, _, _, _, _, _, _, _, _, _, _, _, _] underlying44 zeroValue44 rfl (fun w => by kernel_rfl) rfl (.agg (us := [_, _, _]) (zs := [.slice none 0 0, .int .i64 0, .int .i64 0]) rfl rfl (.one (by first | rfl | assumption) (.one (by first | rfl | assumption) (.one (by first | rfl | assumption) (.one (by first | rfl | assumption) (.one (by first | rfl | assumption) (.one (by first | rfl | assumption) (.one (by first | rfl | assumption) (.one (by first | rfl | assumption) (.one (Rd.one ((MJ.f8).aJ)) (.one (by first | rfl | assumption) (.one (Rd.one ((MJ.f5).aJ)) (.one (by first | rfl | assumption) (.one (by first | rfl | assumption) (.one (by first | rfl | assumption) .nil))))))))))))))) rfl) ?_
    refine dO 65 rfl (by kernel_rfl) (bC 0 (l' := [_, _, _, _, _, _, _, _, _, _, _, _, _, _, _, _, _]) (us := [_, _, _, _, _, _, _, _, _, _, _, _, _, _, _, _, _]) MJ.f11 sizeOf44 rfl rfl rfl (aC (by first | rfl | exact Rd.one ((MJ.f12).aJ)) (aC (by first | rfl | assumption) (aC (by first | rfl | assumption) (aC (by first | rfl | assumption) (aC (by first | rfl | assumption) (aC (by first | rfl | assumption) (aC (by first | rfl | assumption) (aC (by first | rfl | assumption) (aC (by first | rfl | assumption) (aC (by first | rfl | assumption) (aC (by first | rfl | assumption) (aC (by first | rfl | exact Rd.one ((MJ.f8).aJ)) (aC (by first | rfl | assumption) (aC (by first | rfl | exact Rd.one ((MJ.f5).aJ)) (aC (by first | rfl | assumption) (aC (by first | rfl | assumption) (aC (by first | rfl | assumption) bg))))))))))))))))) rfl rfl) ?_
    rintro _ w40 Y9
    have Ze := aA.kp (Y9.f17.f17.f17.f17.f17.f17.f17.f17.f17.f17.f17.f17.f17.f17.f17.f17.f17)
    refine dS Ze (by kernel_rfl) ?_
    refine mD ?_
    refine dh (_, _, _, _, _, _) (Sub.cons rfl (Sub.cons rfl (Sub.nil _))) (Sub.cons rfl (Sub.nil _)) (by (try dsimp only); exact Y9.f14.f17.f17.f8.f17.f12.f10.f12.f11.f15.f17.f13.f14.f16.f16.f17.f17)
  ·skip
   refine iy 64 rfl (by kernel_rfl) (bW (l := [_, _, _, _, _, _, _, _, _, _, _, _, _, _, _, _, _]) Tc zeroValue44 rfl) (jg rfl) ?_
   rintro _ w41 ⟨b41, rfl, UQ⟩
   have Sr := aA.kp (UQ.f8.right.f8.right.f11.f11.f11.f11.f11.f11.f11.f11.f11.f11.f11)
   refine bU Sr (fun W hW => (Kp.h hW).right.f10.f10.f10.f10.f10.f10.f10.f10.f10.f10) ?_
   refine jm 1 rfl (rX rfl func32 (Cc UQ.f4.f4)) ?_
   rintro _ w42 ⟨u42, rfl, TU⟩
   have Gp := aA.kp (TU.f9.right.f9.right.f12.f12.f12.f12.f12.f12.f12.f12.f12.f12.f12.f12)
   refine bU Gp (fun W hW => (Kp.h hW).right.f11.f11.f11.f11.f11.f11.f11.f9.f9.f11.f11) ?_
   refine jm 40 rfl (rX rfl func55 (wI TU.f6.f3)) ?_
   rintro u43 ZT ⟨ac3, TV⟩
   have Sv := aA.kp (TV.f11.right.f11.right.f14.f14.f14.f14.f14.f14.f14.f14.f14.f14.f14.f14.f14.f14)
   refine bU Sv (fun W hW => (Kp.h hW).right.right.f12.f12.f12.f12.f12.f12.f8.f12.f12.f12.f11.f12) ?_
   refine jm 50 rfl (rX rfl func56 (rM TV.f12.f11.f11.f6)) ?_
   rintro u44 w44 VH
   have Zf := aA.kp (VH.f13.right.f16.f16.f16.f16.f16.f16.f16.f16.f16.f16.f16.f16.f16.f16.f16.f16)
   refine bU Zf (fun W hW => (Kp.h hW).right.f4.right.f14.f14.f14.f14.f7.f7.f14.f14.f14.f14.f14.f12.f14.f14) ?_
   refine jm 52 rfl (rX rfl func57 (lY VH.f15.f14.f5.f5 hU)) ?_
   rintro _ ZU ⟨rfl, Ld⟩
   have Zg := aA.kp (Ld.f17.f17.f17.f17.f17.f17.f17.f17.f17.f17.f17.f17.f17.f17.f17.f17.f17)
   refine bU Zg (fun W hW => (Kp.h hW).f3.right.f16.f16.f5.f16.f16.f16.f16.f16.f16.f16.f16.f16.f16.f15.f15.f16) ?_
   refine jm 62 rfl (rX rfl func58 (kK Ld.f15)) ?_
   rintro _ _ ⟨rfl, rfl⟩
   have VQ := aA.kp (Ld.f17.f17.f17.f17.f17.f17.f17.f17.f17.f17.f17.f17.f17.f17.f17.f17.f17)
   refine bU VQ (fun W hW => (Kp.h hW).f17.f17.f17.f17.f17.f17.f17.f17.f17.f17.f17.f17.f17.f17.f17.f17.f17) ?_
   refine gZ 63 rfl VQ (fun _ => dJ (zl := [.slice none 0 0, .int .i64 0, .int .i64 0, .int .i64 0, .bool false, .bool false, .bool false, .int .i64 0, .int .i64 0, .int .i64 0, .int .i64 0, .slice none 0 0, .int .i64 0, .slice none 0 0, .int .i64 0, .int .i64 0, .int .i64 0]) (pl := [(0, 3), (3, 1), (4, 1), (5, 1), (6, 1), (7, 1), (8, 1), (9, 1), (10, 1), (11, 1), (12, 1), (13, 1), (14, 1), (15, 1), (16, 1)]) [_, _, _, _, _, _, _, _, _, _, _, _, _, _, _, _, _] underlying44 zeroValue44 rfl (fun w => by kernel_rfl) rfl (.agg (us := [_, _, _]) (zs := [.slice none 0 0, .int .i64 0, .int .i64 0]) rfl rfl (.one (by first | rfl | assumption) (.one (by first | rfl | assumption) (.one (by first | rfl | assumption) (.one (by first | rfl | assumption) (.one (by first | rfl | assumption) (.one (by first | rfl | assumption) (.one (by first | rfl | assumption) (.one (by first | rfl | assumption) (.one (Rd.one ((Ld.f8).aJ)) (.one (by first | rfl | assumption) (.one (Rd.one ((Ld.f5).aJ)) (.one (by first | rfl | assumption) (.one (by first | rfl | assumption) (.one (by first | rfl | assumption) .nil))))))))))))))) rfl) ?_
   refine dO 65 rfl (by kernel_rfl) (bC 0 (l' := [_, _, _, _, _, _, _, _, _, _, _, _, _, _, _, _, _]) (us := [_, _, _, _, _, _, _, _, _, _, _, _, _, _, _, _, _]) Ld.f13 sizeOf44 rfl rfl rfl (aC (by first | rfl | exact Rd.one ((Ld.f11).aJ)) (aC (by first | rfl | assumption) (aC (by first | rfl | assumption) (aC (by first | rfl | assumption) (aC (by first | rfl | assumption) (aC (by first | rfl | assumption) (aC (by first | rfl | assumption) (aC (by first | rfl | assumption) (aC (by first | rfl | assumption) (aC (by first | rfl | assumption) (aC (by first | rfl | assumption) (aC (by first | rfl | exact Rd.one ((Ld.f8).aJ)) (aC (by first | rfl | assumption) (aC (by first | rfl | exact Rd.one ((Ld.f5).aJ)) (aC (by first | rfl | assumption) (aC (by first | rfl | assumption) (aC (by first | rfl | assumption) bg))))))))))))))))) rfl rfl) ?_
   rintro _ w47 Xf
   have Zh := aA.kp (Xf.f17.f17.f17.f17.f17.f17.f17.f17.f17.f17.f17.f17.f17.f17.f17.f17.f17)
   refine dS Zh (by kernel_rfl) ?_
   refine mD ?_
   refine dh (_, _, _, _, _, _) (Sub.cons rfl (Sub.cons rfl (Sub.nil _))) (Sub.cons rfl (Sub.nil _)) (by (try dsimp only); exact Xf.f14.f17.f17.f8.f17.f12.f10.f12.f11.f15.f17.f13.f14.f16.f16.f17.f17)
end
end Go.Proofs.YtddekefihgejoaaGreatDoor
end
section
namespace Go.Proofs.YtddekefihgejoaaGreatDoor
open Go.RowKit
def ends (T : List (Int × Int)) : List Int := T.flatMap fun x => [x.1, x.2]
section
variable {w0 w : World} {F : HP} {r : Int}
abbrev abn : List (Int × Int) := [(48, 57), (65, 90), (97, 122)]
abbrev ac4 : List (Int × Int) := [(215, 215), (247, 247), (8192, 8303), (12288, 12351), (65280, 65295), (65533, 65533)]
end
end Go.Proofs.YtddekefihgejoaaGreatDoor
end
