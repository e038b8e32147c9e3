import Derived.Test.YtgofgnlkpeghcaaGreatDoorZ4
import Derived.Test.YtgofgnlkpeghcaaGreatDoorZ21
import Derived.Test.YtgofgnlkpeghcaaGreatDoorZ17
set_option linter.unusedSimpArgs false
set_option linter.unusedVariables false
/- Texts of mine, joined, their names in short: REdS3 RIsL RIs. -/
section
namespace Go.Proofs.YtgofgnlkpeghcaaGreatDoor
open Go.RowKit
open _root_.Go.Proofs.Tryz
theorem Lj {α : Type} [Inhabited α] {l : List α} {p : α → Bool} {i : Nat} (h : i < l.length) : (l.take (i + 1)).filter p = (l.take i).filter p ++ (if p (l.getD i default) then [l.getD i default] else []) := by
  rw [List.take_succ_eq_append_getElem h, List.filter_append, List.getD_eq_getElem?_getD, List.getElem?_eq_getElem h]
  simp only [Option.getD_some, List.filter_cons, List.filter_nil]
section
variable {w0 w : World} {F : HP} {y h : Nat} {place base most : Int} {wv nv : Value} {hl : List oH} {tx : Int → Option ByteArray} {s : dw}
theorem Qb {x1 x2 x6 x7 x8 x9 x10 x11 x12 tZ x14 x15 x16 x17 x18 x19 x20 x21 uq x23 x24 x25 uz x27 x28 x29 x30 x31 x32 uX x34 D5 D6 D7 x38 x39 x40 x41 : Value} (H : V w0 w (eF y (.cells (.pointer (some ⟨h, 0, none⟩) :: x1 :: x2 :: wv :: nv :: .int .i64 place :: x6 :: x7 :: x8 :: x9 :: x10 :: x11 :: x12 :: tZ :: x14 :: x15 :: x16 :: x17 :: x18 :: x19 :: x20 :: x21 :: uq :: x23 :: x24 :: x25 :: uz :: x27 :: x28 :: x29 :: x30 :: x31 :: x32 :: uX :: x34 :: D5 :: D6 :: D7 :: x38 :: x39 :: x40 :: x41 :: []).toArray 98 (0, 0)) • uQ 1 wv (hl.length + 1) (strs (nP hl)) • Row 9 1 nv (hl.length + 1) (strs (mW hl tx)) • iW h hl base most • F)) :
    iM prog 90 #[.pointer (some ⟨y, 0, none⟩)] w fun v w' => V w0 w' (Row 82 2 v (pW hl tx place).length ((pW hl tx place).flatMap BP) •
      eF y (.cells (.pointer (some ⟨h, 0, none⟩) :: x1 :: x2 :: wv :: nv :: .int .i64 place :: x6 :: x7 :: x8 :: x9 :: x10 :: x11 :: x12 :: tZ :: x14 :: x15 :: x16 :: x17 :: x18 :: x19 :: x20 :: x21 :: uq :: x23 :: x24 :: x25 :: uz :: x27 :: x28 :: x29 :: x30 :: x31 :: x32 :: uX :: x34 :: D5 :: D6 :: D7 :: x38 :: x39 :: x40 :: x41 :: []).toArray 98 (0, 0)) • uQ 1 wv (hl.length + 1) (strs (nP hl)) • Row 9 1 nv (hl.length + 1) (strs (mW hl tx)) • iW h hl base most • F) := by
  have hb : hl.length ≤ 4096 := by obtain ⟨v, h, _⟩ := (H.f4).CV; exact h.1
  have hon := @Ko (mW hl tx)
  have hnl := pG hl tx
  have hcl := Q7 hl tx hl.length
  obtain ⟨ch, hch⟩ : ∃ ch, ch = BZ hl tx hl.length := ⟨_, rfl⟩
  rw [← hch] at hcl
  have hfl : ∀ i, ((ch.take i).filter fun x => decide (x.1 ≠ place)).length ≤ 4096 := fun i => Nat.le_trans (List.length_filter_le _ _) (by rw [List.length_take]; omega)
  have agt := Vy hl tx place hl.length
  rw [← hch] at agt
  refine iQ func90 ntmps90 ?_
  refine kQ O (kQ O (bY O (dO O (bn 1 aJ O dH O (bn 2 bI O lH O (fE O func121 (Qa H.f2.f3.f3 (by assumption) (by omega)) ?_))))))
  rintro _ w1 ⟨q1, nv1, rfl, H1⟩
  refine iP O (bY O (fE O func136 (Jy H1.f5.f3.f3 (by omega)) ?_))
  rintro u2 w2 H2
  have HC3 := H2
  rw [← hch] at HC3
  refine sS O (kQ O (bg ?_))
  refine gq [(0, _), (4, _), (5, _)] (fun (⟨i, u⟩ : Nat × Value) => [(3, u), (6, .int .i64 (i : Int))]) (fun (⟨i, u⟩ : Nat × Value) W => i ≤ ch.length ∧ V w0 W (Row 82 2 u ((ch.take i).filter fun x => decide (x.1 ≠ place)).length (((ch.take i).filter fun x => decide (x.1 ≠ place)).flatMap BP) • Row 207 2 u2 ch.length (ch.flatMap BP) • eF q1 (.cells #[wv, nv1, .int .i64 place] 89 (0, 0)) • Row 9 1 nv1 (hl.length + 1) (strs (mW hl tx)) • eF y (.cells (.pointer (some ⟨h, 0, none⟩) :: x1 :: x2 :: wv :: nv :: .int .i64 place :: x6 :: x7 :: x8 :: x9 :: x10 :: x11 :: x12 :: tZ :: x14 :: x15 :: x16 :: x17 :: x18 :: x19 :: x20 :: x21 :: uq :: x23 :: x24 :: x25 :: uz :: x27 :: x28 :: x29 :: x30 :: x31 :: x32 :: uX :: x34 :: D5 :: D6 :: D7 :: x38 :: x39 :: x40 :: x41 :: []).toArray 98 (0, 0)) • uQ 1 wv (hl.length + 1) (strs (nP hl)) • Row 9 1 nv (hl.length + 1) (strs (mW hl tx)) • iW h hl base most • F)) (fun (⟨i, u⟩ : Nat × Value) => ch.length - i) ((0, .slice none 0 0)) Du rP ⟨by omega, (HC3.f7.f7.f6.f7.f7.f7.f7).gG none⟩ ?_
  rintro ⟨i, u⟩ w3 ⟨hi, HL⟩
  dsimp only [List.cons_append, List.nil_append]
  refine aO (bY O (bT O (aW (fV ((HL.f2).aN) underlying204 O) (aW (fG O O) (jv O (fun h1 => ?_) (fun h1 => ?_))))))
  · (try simp only [aF] at h1)
    refine iy (aO (bg (aO ?_)))
    have hil : i < ch.length := by omega
    have hfi := hfl i
    have ab0 := HL.drew
    have FM := V.kp (ab0.f8.f8.f8.f8.f8.f8.f8.f8)
    refine uU [4, 8] FM O (gQ 0 O FM O (gQ 1 O FM O ?_))
    obtain ⟨bu2, ou2, cu2, eu2⟩ := Rd.nR ((ab0.f2).aN) (by omega)
    cases eu2
    refine iL 2 O FM (fun _ => dD underlying204 sizeOf207 O O (by omega)) (fQ 3 O FM 0 underlying207 O aj O (iO 4 O FM (fun W hW => EP (eG (dn aB O) O (Rd.atS (((Kp.h hW).f2).aN) (by omega) (by decide))) (Xo hil)) (gQ 5 O FM O (jQ 6 O FM O (fQ 7 O FM 2 dB O aj O (iO 8 O FM (fun W hW => jT aB O ((Kp.h hW).f3).get.2 O) (iL 9 O FM (fun _ => gy O O) (qj (aZ (dA O (fun h2 => ?_) (fun h2 => ?_)))))))))))
    · (try simp only [aF] at h2)
      have hpl : (ch.getD i default).1 ≠ place := h2
      have agv := ab0.drew
      have DW := V.kp (agv.f8.f8.f8.f8.f8.f8.f8.f8)
      refine uU [5, 10] DW O (gQ 0 O DW O (gQ 1 O DW O (gQ 2 O DW O (iL 3 O DW (fun _ => dD underlying204 sizeOf207 O O (by omega)) (fQ 4 O DW 0 underlying207 O aj O (iO 5 O DW (fun W hW => EP (eG (dn aB O) O (Rd.atS (((Kp.h hW).f2).aN) (by omega) (by decide))) (Xo hil)) (gQ 6 O DW O (gQ 7 O DW O (iL 8 O DW (fun _ => dD underlying204 sizeOf207 O O (by omega)) (fQ 9 O DW 1 underlying207 O kG O (iO 10 O DW (fun W hW => EP (eG (dn dU O) O (Rd.atS (((Kp.h hW).f2).aN) (by omega) (by decide))) (abZ hil)) ?_)))))))))))
      refine iL 11 O DW (fun _ => fA (zl := [.int .i64 0, .string .empty]) (pl := [(0, 1), (1, 1)]) [_, _] oL pX O (fun w => by kernel_rfl) O (.on (.on .nil)) O) ?_
      refine lU 12 O (og agv iV sizeOf82 pX O O O (by decide) (by decide)) ?_
      rintro l4 w4 H4
      have uZ := V.kp (H4.f9.f9.f9.f9.f9.f9.f9.f9.f9)
      refine fH uZ (by kernel_rfl) ?_
      refine lU 13 O (eX H4.f2 iV Yj O O O ((H4).aN) (aG (aG bK)) (by omega) (by omega)) ?_
      rintro l5 w5 H5
      have Zm := H5.f2.right
      have wJ := V.kp (Zm.f8.f8.f8.f8.f8.f8.f8.f8)
      refine fH wJ (by kernel_rfl) ?_
      refine iL 14 O wJ (fun _ => fU O) (qj (aP (aZ (aA (bT O (aW (fP O O (by omega)) (iC O (bZ ?_))))))))
      refine dN ((i + 1, l5)) ?_ ?_ ?_ ?_
      · exact rP
      · exact Du
      · (try dsimp only)
        first | done | exact ⟨by omega, by rw [Lj hil]; first | (rw [if_pos (by simpa using hpl), List.length_append, List.flatMap_append]; exact Zm.f8.f8.f8.f8.f8.f8.f8.f8) | (rw [if_neg (by simpa using hpl), List.append_nil]; exact Zm.f8.f8.f8.f8.f8.f8.f8.f8)⟩
      · (try dsimp only); omega
    · (try simp only [aF] at h2)
      have hpl : ¬ (ch.getD i default).1 ≠ place := by simpa using h2
      refine dS (aP (aZ (aA (bT O (aW (fP O O (by omega)) (iC O (bZ ?_)))))))
      refine dN ((i + 1, u)) ?_ ?_ ?_ ?_
      · exact rP
      · exact Du
      · (try dsimp only)
        first | done | exact ⟨by omega, by rw [Lj hil]; first | (rw [if_pos (by simpa using hpl), List.length_append, List.flatMap_append]; exact ab0.f8.f8.f8.f8.f8.f8.f8.f8) | (rw [if_neg (by simpa using hpl), List.append_nil]; exact ab0.f8.f8.f8.f8.f8.f8.f8.f8)⟩
      · (try dsimp only); omega
  · (try simp only [aF] at h1)
    refine eH (aT ?_)
    obtain rfl : i = ch.length := by omega
    have HQ := HL
    rw [List.take_length, ← agt] at HQ
    have hsl := uO hl tx place hl.length
    have hkk : 0 ≤ (hl.length : Int) ∧ (hl.length : Int) < ((hl.length + 1 : Nat) : Int) ∧ (mW hl tx).length = hl.length + 1 := ⟨by omega, by omega, hnl⟩
    have hno : (mW hl tx).getD (hl.length : Int).toNat .empty = dR hl tx hl.length := by rw [Int.toNat_natCast, BQ (by omega)]
    refine aT (bU (aZ (aO (aO ?_))))
    obtain ⟨ajH, ah9, ac9⟩ := (HQ.f8).CV
    refine aA (mJ O O (bn 0 aJ O sizeOf63 O (fB oM O (ac9.f7).get.2 O (dO O (bn 0 gY O gW O (fB bM O (ac9).get.2 O (aW (fV ((ac9.f2).yB) bM O) (iC O ?_))))))))
    have Ho9 := ac9.f2.f2
    have Zu := V.wB ah9 Ho9
    refine ql O (dO O (bn 2 dB O aj O (fB aB O (Zu.f4).get.2 O (bT O (aW (gy O O) (jv O (fun h3 => ?_) (fun h3 => ?_)))))))
    · (try simp only [aF] at h3)
      have hsv : pW hl tx place = o9 hl tx place hl.length ++ [((hl.length : Int), dR hl tx hl.length)] := by unfold pW; rw [if_pos h3]
      refine bY O (bT O (fE O func75 (Pe Zu.f5.f5 (by assumption)) ?_))
      rintro _ Iq ⟨rfl, sG⟩
      rw [hno]
      refine bT O (sD O O (sD O O (iC O (iP O (aA (jy O O (bT O ?_)))))))
      refine aW (fA (zl := [.int .i64 0, .string .empty]) (pl := [(0, 1), (1, 1)]) [_, _] oL pX O (fun w => by kernel_rfl) O (.on (.on .nil)) O) ?_
      refine iY (og sG iV sizeOf82 pX O O O (by decide) (by decide)) ?_
      rintro l12 w12 tN
      refine iY (eX tN.f5 iV Yj O O O ((tN).aN) (aG (aG bK)) (by omega) (by omega)) ?_
      rintro l13 Qz Ak
      have U3 := Ak.f2.right
      refine iP O (bY O (ig O (fD results90 O ?_)))
      first
        | (rw [hsv, List.length_append, List.flatMap_append]; exact U3.f2.right.f2.right.f3.right.f2.f5.f5.f5.f5)
        | (rw [hsv]; exact U3.f2.right.f2.right.f3.right.f2.f5.f5.f5.f5)
    · (try simp only [aF] at h3)
      have hsv : pW hl tx place = o9 hl tx place hl.length := by unfold pW; rw [if_neg (by simpa using h3), List.append_nil]
      refine iy (bY O (ig O (fD results90 O ?_)))
      first
        | (rw [hsv, List.length_append, List.flatMap_append]; exact Zu.f3.right.f3.right.f3.right.f5.f5.f5.f5)
        | (rw [hsv]; exact Zu.f3.right.f3.right.f3.right.f5.f5.f5.f5)
theorem Cb (hpi : s.inn = false → s.put = []) : s.Oq = (s.here.length : Int) + if s.put.length = 0 then 0 else if (decide (s.cls = 3) && s.whole && s.c.run) = true then 0 else 1 := by
  unfold dw.Oq uM
  rw [Vt]
  congr 1
  by_cases hp : s.put = []
  · simp [hp]
  · have hin : s.inn = true := by
      by_cases h : s.inn = true
      · exact h
      · exact absurd (hpi (by simpa using h)) hp
    have hl : ¬ s.put.length = 0 := fun h => hp (List.eq_nil_of_length_eq_zero h)
    rw [if_neg hl]
    have he : s.put.isEmpty = false := by cases h : s.put <;> simp_all
    rw [hin, he]
    by_cases hc : (decide (s.cls = 3) && s.whole && s.c.run) = true
    · simp [hc]
    · simp [hc]
set_option maxHeartbeats 1000000 in
theorem Qc (H : V w0 w (ku y s • F)) (hpi : s.inn = false → s.put = []) : iM prog 40 #[.pointer (some ⟨y, 0, none⟩)] w fun v w' => ∃ u ks us sv, v = .agg (Hz s u ks sv).toArray ∧
  V w0 w' (jR 21 .i32 u s.c.L • Row 23 1 ks s.c.E.length us • o7 .i32 us (uj s.c.E s.c.at_) • Row 82 2 sv s.saved.length (s.saved.flatMap BP) • ku y s • F) := by
 refine iQ func40 ntmps40 ?_
 obtain ⟨Js, yF, yG, yH, yI, AU, AV, Kv, AX, BR, AY, AZ, Ba, yJ, yK, yL, yM, yN, yO, yP, yQ, yR, yS, yT, yU, jO, qW, mF⟩ := (H).Ce
 have hE9 := jO.rx.1.2
 have agm := Vo jO
 refine jw (iY (fK (l := [_, _, _, _, _, _, _, _, _, _, _, _, _, _, _, _, _]) mF je O) ?_)
 rintro _ w2 ⟨b2, rfl, H2⟩
 refine rV ?_
 have IC := H2.drew
 have jk := V.kp (IC.f13.f13.f13.f13.f13.f13.f13.f13.f13.f13.f13.f13.f13)
 refine uU [9] jk O (gQ 0 O jk O (jQ 1 O jk O (fQ 2 O jk 1 aJ O dH O (fQ 3 O jk 6 bI O sizeOf93 O (gQ 4 O jk O (jQ 5 O jk O (fQ 6 O jk 1 aJ O dH O (fQ 7 O jk 2 bI O lH O (fQ 8 O jk 2 dB O aj O (iO 9 O jk (fun W hW => jT aB O ((Kp.h hW).f2).get.2 O) (lU 10 O (wY O func87 (Ie IC.f9.f9.f9.f5)) ?_)))))))))))
 rintro u3 w3 ⟨gs3, aia, H3⟩
 obtain ⟨gu, rfl⟩ : ∃ q, q = u3 := ⟨_, rfl⟩
 obtain ⟨gs, rfl⟩ : ∃ q, q = gs3 := ⟨_, rfl⟩
 have hG : Dp gs = s.here := by rw [aia, jO.EN]; rfl
 have hgl : gs.length = s.here.length := by rw [← hG]; exact (List.length_map _).symm
 have PD := H3.f2.f2
 have MK := PD
 have vw := V.kp (MK.f15.f15.f15.f15.f15.f15.f15.f15.f15.f15.f15.f15.f15.f15.f15)
 refine fH vw (by kernel_rfl) ?_
 refine iL 11 O vw (fun _ => fV ((MK).oD) bP O) ?_
 have Zm := MK.right
 have LQ := Zm.right
 refine iL 12 O vw (fun _ => fU O) (qj (aZ ?_))
 refine rU [(0, _), (2, _)] (fun (_ : Unit) => [(3, .int .i64 s.Oq)]) (fun (_ : Unit) W => V w0 W (eF b2 (.cells (.slice none 0 0 :: .int .i64 0 :: .int .i64 0 :: .int .i64 0 :: .bool false :: .bool false :: .bool false :: .int .i64 0 :: .int .i64 0 :: .int .i64 0 :: .int .i64 0 :: .slice none 0 0 :: .int .i64 0 :: .slice none 0 0 :: .int .i64 0 :: .int .i64 0 :: .int .i64 0 :: []).toArray 79 (0, 0)) • eF y (.cells (.pointer (some ⟨Js, 0, none⟩) :: .pointer (some ⟨yF, 0, none⟩) :: .pointer (some ⟨yG, 0, none⟩) :: yH :: yI :: .int .i64 s.c.place :: .string (dR s.hl s.c.tx s.c.place) :: AU :: AV :: .int .i64 s.c.mode :: .bool s.c.over :: .int .i64 s.c.res :: .bool s.c.run :: yJ :: yK :: yL :: yM :: yN :: yO :: yP :: yQ :: yR :: yS :: yT :: yU :: .bool s.given :: .bool s.minus :: .int .i64 s.arg :: .int .i64 s.zV :: .int .i64 s.UA :: .int .i64 s.UC :: .int .i64 s.sK :: .bool s.inn :: .int .i64 s.cls :: .int .i64 AY :: .int .i64 AZ :: .bool s.argues :: .bool s.nV :: .bool s.lY :: AX :: .bool s.whole :: .bool Ba :: []).toArray 98 (0, 0)) • kJ yF s.c.L s.c.pt s.c.mark • mD yG s.c.E s.c.at_ • uQ 1 yH (s.hl.length + 1) (strs (nP s.hl)) • Row 9 1 yI (s.hl.length + 1) (strs (mW s.hl s.c.tx)) • nS .i64 AU (Kv.map (·.1)) • uQ 1 AV Kv.length (Kv.map (·.2.1)) • tq Kv • iW Js s.hl s.base s.most • Row 183 3 AX s.put.length (BR.flatMap fJ.enc) • nX BR • DV s.inn s.hl s.was [yJ, yK, yL, yM, yN, yO, yP, yQ, yR, yS, yT, yU] • F)) rP ?_ ?_
 ·rintro _ w8 HJ
  dsimp only [List.cons_append, List.nil_append]
  refine aO ?_
  have agw := HJ.drew
  have jZ := V.kp (agw.f13.f13.f13.f13.f13.f13.f13.f13.f13.f13.f13.f13.f13)
  refine uU [6, 11, 15, 19, 23, 27, 31, 35, 43, 51, 55] jZ O (gQ 0 O jZ O (gQ 2 O jZ O (jQ 3 O jZ O (fQ 4 O jZ 1 aJ O dH O (fQ 5 O jZ 8 bI O aj O (iO 6 O jZ (fun W hW => jT aB O ((Kp.h hW).f2).get.2 O) (gQ 7 O jZ O (jQ 8 O jZ O (fQ 9 O jZ 1 aJ O dH O (fQ 10 O jZ 9 bI O aQ O (iO 11 O jZ (fun W hW => jT cZ O ((Kp.h hW).f2).get.2 O) (gQ 12 O jZ O (jQ 13 O jZ O (fQ 14 O jZ 25 aJ O aQ O (iO 15 O jZ (fun W hW => jT cZ O ((Kp.h hW).f2).get.2 O) (gQ 16 O jZ O (jQ 17 O jZ O (fQ 18 O jZ 26 aJ O aQ O (iO 19 O jZ (fun W hW => jT cZ O ((Kp.h hW).f2).get.2 O) (gQ 20 O jZ O (jQ 21 O jZ O (fQ 22 O jZ 27 aJ O aj O (iO 23 O jZ (fun W hW => jT aB O ((Kp.h hW).f2).get.2 O) (gQ 24 O jZ O (jQ 25 O jZ O (fQ 26 O jZ 28 aJ O aj O (iO 27 O jZ (fun W hW => jT aB O ((Kp.h hW).f2).get.2 O) (gQ 28 O jZ O (jQ 29 O jZ O (fQ 30 O jZ 29 aJ O aj O (iO 31 O jZ (fun W hW => jT aB O ((Kp.h hW).f2).get.2 O) (gQ 32 O jZ O (jQ 33 O jZ O (fQ 34 O jZ 30 aJ O aj O (iO 35 O jZ (fun W hW => jT aB O ((Kp.h hW).f2).get.2 O) (gQ 36 O jZ O (gQ 38 O jZ O (jQ 39 O jZ O (fQ 40 O jZ 1 aJ O dH O ?_)))))))))))))))))))))))))))))))))))))))
  refine fQ 41 O jZ 2 bI O lH O (fQ 42 O jZ 2 dB O aj O (iO 43 O jZ (fun W hW => jT aB O ((Kp.h hW).f2).get.2 O) (gQ 44 O jZ O (gQ 46 O jZ O (gQ 47 O jZ O (jQ 48 O jZ O (fQ 49 O jZ 1 aJ O dH O (fQ 50 O jZ 10 bI O aj O (iO 51 O jZ (fun W hW => jT aB O ((Kp.h hW).f2).get.2 O) (gQ 52 O jZ O (jQ 53 O jZ O (fQ 54 O jZ 31 aJ O oQ O (iO 55 O jZ (fun W hW => jT pU O ((Kp.h hW).f2).get.2 O) (lU 1 O (wY O func88 (Tq agw.f3.f3)) ?_))))))))))))))
  rintro _ w9 ⟨u9, rfl, H9⟩
  have Gi := V.kp (H9.f14.f14.f14.f14.f14.f14.f14.f14.f14.f14.f14.f14.f14.f14)
  refine dZ Gi (fun W hW => (Kp.h hW).right.f13.f13.f13.f13.f13.f13.f13.f13.f13.f13.f12.f12.f13) ?_
  refine lU 37 O (wY O func89 (P9 H9.f5.f3 (by assumption))) ?_
  rintro u10 w10 ⟨ajI, sF⟩
  have Oh := V.kp (sF.f16.f16.f16.f16.f16.f16.f16.f16.f16.f16.f16.f16.f16.f16.f16.f16)
  refine dZ Oh (fun W hW => (Kp.h hW).right.right.f14.f14.f14.f14.f14.f14.f14.f14.f14.f11.f14.f14.f13.f14) ?_
  refine lU 45 O (wY O func90 (Qb sF.f13.f10.f10.f6)) ?_
  rintro u11 Iq sG
  have Oc := V.kp (sG.f17.f17.f17.f17.f17.f17.f17.f17.f17.f17.f17.f17.f17.f17.f17.f17.f17)
  refine dZ Oc (fun W hW => (Kp.h hW).right.f16.f16.f16.f7.f16.f16.f16.f10.f10.f16.f16.f16.f16.f14.f16.f16) ?_
  refine iL 56 O Oc (fun _ => fA (zl := [.slice none 0 0, .int .i64 0, .int .i64 0, .int .i64 0, .bool false, .bool false, .bool false, .int .i64 0, .int .i64 0, .int .i64 0, .int .i64 0, .slice none 0 0, .int .i64 0, .slice none 0 0, .int .i64 0, .int .i64 0, .int .i64 0]) (pl := [(0, 3), (3, 1), (4, 1), (5, 1), (6, 1), (7, 1), (8, 1), (9, 1), (10, 1), (11, 1), (12, 1), (13, 1), (14, 1), (15, 1), (16, 1)]) [_, _, _, _, _, _, _, _, _, _, _, _, _, _, _, _, _] dY je O (fun w => by kernel_rfl) O (.agg (us := [_, _, _]) (zs := [.slice none 0 0, .int .i64 0, .int .i64 0]) O O (.on (.on (.on (.on (.on (.on (.on (.on (.one (Rd.one ((sG.f6).aN)) (.on (.one (Rd.one ((sG).aN)) (.on (.on (.on .nil))))))))))))))) O) ?_
  refine gU 57 O (by kernel_rfl) (dG 0 (l' := [_, _, _, _, _, _, _, _, _, _, _, _, _, _, _, _, _]) (us := [_, _, _, _, _, _, _, _, _, _, _, _, _, _, _, _, _]) sG.f11 pF O O O (aY (by first | rfl | exact Rd.one ((sG.f9).aN)) (aG (aG (aG (aG (aG (aG (aG (aG (aG (aG (aY (by first | rfl | exact Rd.one ((sG.f6).aN)) (aG (aY (by first | rfl | exact Rd.one ((sG).aN)) (aG (aG (aG bK))))))))))))))))) O O) ?_
  rintro _ w12 tN
  have DF := V.kp (tN.f17.f17.f17.f17.f17.f17.f17.f17.f17.f17.f17.f17.f17.f17.f17.f17.f17)
  refine fH DF (by kernel_rfl) ?_
  refine qj (aZ (mZ ?_))
  refine rW (.inl O) (Lr results40 O dY O (by rw [abr]; rfl) (tN).get.2) ?_
  have Sv := tN.f17.f17.f17.f9.f17.f17.f17.f12.f12.f15.f17.f14
  have Sz := V.mV (s := s) jO Sv
  exact ⟨_, _, _, _, O, Sz.f2.right.f2.f4.f4.f5⟩
 ·skip
  refine bY O (dO O (bn 39 aJ O bG O (fB aV O (LQ).get.2 O (aW (fV ((LQ.f11).aN) aV O) (aW (iT O O) (jv O (fun h1 => ?_) (fun h1 => ?_)))))))
  ·(try simp only [aF] at h1)
   refine bY O (aW (fP O O (by omega)) (iP O (bY O (dO O (bn 33 aJ O aj O (fB aB O (LQ).get.2 O (aW (kP O O) (mX O (fun h2 => ?_) (fun h2 => ?_)))))))))
   ·(try simp only [aF] at h2)
    refine bW (bT O (bW (dO O (bW (bn 40 aJ O aQ O (bW (fB cZ O (LQ).get.2 O (nZ O O (mX O (fun h3 => ?_) (fun h3 => ?_))))))))))
    ·(try simp only [aF] at h3)
     refine bW (bT O (bW (dO O (bW (bn 1 aJ O dH O (bW (bn 11 bI O aQ O (bW (fB cZ O (LQ).get.2 O (nZ O O (jv O (fun h4 => ?_) (fun h4 => ?_))))))))))))
     ·(try simp only [aF] at h4)
      refine aA (bT O (aW (lW O O (by omega)) (iC O (bZ ?_))))
      refine gB (()) ?_ ?_ ?_
      ·exact (Sub.qP O (by rw [Cb hpi, ← hgl]; congr 1; split <;> (try split) <;> (first | omega | (exfalso; simp_all; done) | (exfalso; simp_all; omega))) (Sub.nil _))
      ·exact rP
      ·(try dsimp only)
       first | done | exact LQ.f13.f13.f13.f13.f8.f8.f8.f13.f13.f13.f13.f12.f13
     ·(try simp only [aF] at h4)
      refine dS ?_
      refine gB (()) ?_ ?_ ?_
      ·exact (Sub.qP O (by rw [Cb hpi, ← hgl]; congr 1; split <;> (try split) <;> (first | omega | (exfalso; simp_all; done) | (exfalso; simp_all; omega))) (Sub.nil _))
      ·exact rP
      ·(try dsimp only)
       first | done | exact LQ.f13.f13.f13.f13.f8.f8.f8.f13.f13.f13.f13.f12.f13
    ·(try simp only [aF] at h3)
     refine dF (dF (dF (dF (dF (kX O O (jd (vS (dS ?_))))))))
     refine gB (()) ?_ ?_ ?_
     ·exact (Sub.qP O (by rw [Cb hpi, ← hgl]; congr 1; split <;> (try split) <;> (first | omega | (exfalso; simp_all; done) | (exfalso; simp_all; omega))) (Sub.nil _))
     ·exact rP
     ·(try dsimp only)
      first | done | exact LQ.f13.f13.f13.f13.f8.f8.f8.f13.f13.f13.f13.f12.f13
   ·(try simp only [aF] at h2)
    refine dF (dF (dF (dF (kX O O (bT O (dF (dF (dF (dF (dF (kX O O (jd (vS (dS ?_))))))))))))))
    refine gB (()) ?_ ?_ ?_
    ·exact (Sub.qP O (by rw [Cb hpi, ← hgl]; congr 1; split <;> (try split) <;> (first | omega | (exfalso; simp_all; done) | (exfalso; simp_all; omega))) (Sub.nil _))
    ·exact rP
    ·(try dsimp only)
     first | done | exact LQ.f13.f13.f13.f13.f8.f8.f8.f13.f13.f13.f13.f12.f13
  ·(try simp only [aF] at h1)
   refine dS ?_
   refine gB (()) ?_ ?_ ?_
   ·exact (Sub.qP O (by rw [Cb hpi, ← hgl]; congr 1; split <;> (try split) <;> (first | omega | (exfalso; simp_all; done) | (exfalso; simp_all; omega))) (Sub.nil _))
   ·exact rP
   ·(try dsimp only)
    first | done | exact LQ.f13.f13.f13.f13.f8.f8.f8.f13.f13.f13.f13.f12.f13
end
def dw.zI (s : dw) (k : Nat) : List (List Int) := ((s.hl.take k).map fun x => Fj x.1) ++ List.replicate (s.hl.length + 1 - k) []
theorem dw.Vz (s : dw) {k : Nat} (h : k ≤ s.hl.length) : (s.zI k).length = s.hl.length + 1 := by unfold dw.zI; simp; omega
theorem dw.Tt (s : dw) : s.zI 0 = List.replicate (s.hl.length + 1) [] := by unfold dw.zI; simp
theorem dw.VA (s : dw) : s.zI s.hl.length = s.wL := by
  unfold dw.zI dw.wL
  rw [List.take_of_length_le (Nat.le_refl _), show s.hl.length + 1 - s.hl.length = 1 from by omega]; rfl
theorem dw.VB (s : dw) {k : Nat} (h : k < s.hl.length) : (s.zI k).set k (Fj (s.hl.getD k default).1) = s.zI (k + 1) := by
  unfold dw.zI
  have hl : ((s.hl.take k).map fun x => Fj x.1).length = k := by simp; omega
  rw [GK _ _ h, List.set_append_right _ _ (by omega), hl, Nat.sub_self, show s.hl.length + 1 - k = (s.hl.length + 1 - (k + 1)) + 1 from by omega, List.replicate_succ, List.set_cons_zero, List.append_assoc]
  rfl
section
variable {P : Program} {L : List (Nat × Value)} {ty : TypeId} {w0 w : World} {F : HP} {y : Nat} {s : dw}
theorem V.ab1 {k : IntKind} (n : Nat) (H : V w0 w F) : V w0 w (o7 k (List.replicate n (.slice none 0 0)) (List.replicate n []) • F) := by
  induction n with
  | zero => exact H.EX
  | succ n ih => exact (V.J8 ih).YQ.of_eq (by first | rfl | (simp only [List.replicate_succ]))
theorem Tv {t e : TypeId} {k kl kc : IntKind} {x y : Operand} {n : Int} (H : V w0 w F) (ht : P.underlying t = some (.slice e)) (hi : (P.info? e).map (fun i => (i.zero, i.size, i.bytes)) = some (some (.slice none 0 0), 1, 24))
    (hx : ev L x = some (.int kl n)) (hy : ev L y = some (.int kc n)) (h0 : 0 ≤ n) (hb : n.toNat * 24 ≤ 281474976710656) (h63 : n ≤ 9223372036854775807) :
    zB P L (.makeSlice t x y) ty w fun v w' => V w0 w' (o7 k (List.replicate n.toNat (.slice none 0 0)) (List.replicate n.toNat []) • Row e 1 v n.toNat (List.replicate n.toNat (.slice none 0 0)) • F) := by
  obtain ⟨i, hi1, hi2⟩ := Option.map_eq_some_iff.1 hi
  simp only [Prod.mk.injEq] at hi2
  obtain ⟨hz1, hs1, hb1⟩ := hi2
  have hb' : (i.bytes : Int) * n ≤ 281474976710656 := by
    have h : ((i.bytes * n.toNat : Nat) : Int) ≤ 281474976710656 := by rw [hb1, Nat.mul_comm]; omega
    rw [Int.natCast_mul, Int.toNat_of_nonneg h0] at h
    exact h
  have hr := run_make (P := P) w t e i (.slice none 0 0) ht hi1 hz1 kl kc n n h0 (Int.le_refl _) hb' h63
  refine wM (v := .slice (some ⟨w.heap.size, 0, none⟩) n.toNat n.toNat) (w' := w.alloc (.cells (madeCells (Value.slice none 0 0).cells (n.toNat * i.size)) e)) ?_ ?_
  · intro ρ hρ d pos rF g
    simp only [execOp, hρ _ _ hx, hρ _ _ hy]
    simp [Sem.run_bind, hr]
  · refine V.ab1 n.toNat ?_
    refine (H.alloc _).BG (o := 0) (c := n.toNat) (by simp) (by simp) (by simp) (by omega) (by simp [size_madeCells, hs1]) fun j hj => ?_
    have hj' : j < n.toNat := by simpa using hj
    rw [hs1, Nat.mul_one]
    simp [madeCells, Value.cells, hj', Nat.mod_one, List.getD_eq_getElem?_getD]
set_option maxHeartbeats 1000000 in
theorem VD (H : V w0 w (ku y s • F)) (hpi : s.inn = false → s.put = []) : iM prog 11 #[.pointer (some ⟨y, 0, none⟩)] w fun v w' => ∃ us, V w0 w' (Row 23 1 v s.lines.length us • o7 .i32 us s.lines • ku y s • F) := by
 refine iQ func11 ntmps11 ?_
 refine kQ O (bY O (fE O func40 (Qc H (by assumption)) ?_))
 rintro _ w1 ⟨u1, ks1, us1, sv1, rfl, H1⟩
 refine iY (fK (l := [_, _, _, _, _, _, _, _, _, _, _, _, _, _, _, _, _]) H1 je O) ?_
 rintro _ w2 ⟨b2, rfl, H2⟩
 refine aI (dG 0 (l' := [_, _, _, _, _, _, _, _, _, _, _, _, _, _, _, _, _]) (us := [_, _, _, _, _, _, _, _, _, _, _, _, _, _, _, _, _]) H2 pF O O O (aY (by first | rfl | exact Rd.one ((H2.f2).aN)) (aG (aG (aG (aG (aG (aG (aG (aG (aG (aG (aY (by first | rfl | exact Rd.one ((H2.f3).aN)) (aG (aY (by first | rfl | exact Rd.one ((H2.f5).aN)) (aG (aG (aG bK))))))))))))))))) O O) ?_
 rintro _ w3 H3
 refine rV ?_
 have Hd4 := H3.f3.right
 have Hd5 := Hd4.f3.right
 obtain ⟨Js, yF, yG, yH, yI, AU, AV, Kv, AX, BR, AY, AZ, Ba, yJ, yK, yL, yM, yN, yO, yP, yQ, yR, yS, yT, yU, jO, qW, mF⟩ := (Hd5.f4).Ce
 have hcL : s.c.L.length ≤ 1024 := by obtain ⟨a9, c9, g9, _⟩ := (mF.f2).ref; exact g9
 obtain ⟨Xl, Kw, BX⟩ := (mF.f9).CV
 have hok := jO.ok.1
 have hlk := Kw
 have hln := hlk.1
 have hpl := hok.1
 have hsl : s.saved.length ≤ s.hl.length + 1 := La _ _ _
 have hpl2 := hok.2.1
 refine aA (mJ O O (bn 0 aJ O sizeOf63 O (fB oM O (BX.f3).get.2 O (dO O (bn 0 gY O gW O (fB bM O (BX).get.2 O (aW (fV ((BX.f2).yB) bM O) (iP O (bY O (aW (fP O O (by omega)) (iY (Tv (k := .i32) BX bH (by kernel_rfl : (prog.info? 23).map (fun i => (i.zero, i.size, i.bytes)) = some (some (.slice none 0 0), 1, 24)) O O (by omega) (by omega) (by omega)) ?_)))))))))))
 rintro l8 w8 H8
 have HM := H8
 rw [show ((s.hl.length : Int) + 1).toNat = s.hl.length + 1 from by omega, ← s.Tt] at HM
 refine sS O (kQ O (bg ?_))
 obtain ⟨R9, hR9, HR9⟩ := V.afb (HM.f4.f4.f5.f5.f5)
 refine gq [(0, _), (3, _), (4, _), (5, _)] (fun (k : Nat) => [(6, .int .i64 (k : Int))]) (fun (k : Nat) W => k ≤ s.hl.length ∧ ∃ us, V w0 W (o7 .i32 us (s.zI k) • Row 23 1 l8 (s.hl.length + 1) us • eF y (.cells (.pointer (some ⟨Js, 0, none⟩) :: .pointer (some ⟨yF, 0, none⟩) :: .pointer (some ⟨yG, 0, none⟩) :: yH :: yI :: .int .i64 s.c.place :: .string (dR s.hl s.c.tx s.c.place) :: AU :: AV :: .int .i64 s.c.mode :: .bool s.c.over :: .int .i64 s.c.res :: .bool s.c.run :: yJ :: yK :: yL :: yM :: yN :: yO :: yP :: yQ :: yR :: yS :: yT :: yU :: .bool s.given :: .bool s.minus :: .int .i64 s.arg :: .int .i64 s.zV :: .int .i64 s.UA :: .int .i64 s.UC :: .int .i64 s.sK :: .bool s.inn :: .int .i64 s.cls :: .int .i64 AY :: .int .i64 AZ :: .bool s.argues :: .bool s.nV :: .bool s.lY :: AX :: .bool s.whole :: .bool Ba :: []).toArray 98 (0, 0)) • eF Js (.cells #[Xl, .int .i64 s.base, .int .i64 s.most] 84 (0, 0)) • ZR Xl s.hl • R9)) (fun (k : Nat) => s.hl.length - k) (0) Wh oO ⟨by omega, _, HR9⟩ ?_
 rintro k w10 ⟨hk, us, HL⟩
 dsimp only [List.cons_append, List.nil_append]
 refine aO (bY O (bT O (aW (fG O O) (jv O (fun h1 => ?_) (fun h1 => ?_)))))
 ·(try simp only [aF] at h1)
  refine iy (aO (bg ?_))
  have hkl : k < s.hl.length := by omega
  have hks := QU hlk.2.2.2.2.2 hkl
  have hb2 := vH (s.hl.getD k default).1
  have hb3 := oq (s.hl.getD k default).1
  have hb4 : (uP (s.hl.getD k default).1).length ≤ 17179869184 := by omega
  have hlt := s.Vz hk
  refine aA (jy O O (mJ O O (bn 0 aJ O sizeOf63 O (fB oM O (HL.f3).get.2 O (dO O (bn 0 gY O gW O (fB bM O (HL.f4).get.2 O (bT O ?_))))))))
  obtain ⟨agE, agF, agG, ada⟩ := Rd.nR ((HL.f5).yB) (by omega)
  cases ada
  refine aW (dD bM jl O O (by omega)) (bn 0 gX O kG O (aW (EP (eG (dn dU O) O (Rd.atS ((HL.f5).yB) (by omega) (by decide))) (Xg hkl)) (iY (rE HL dU bf bD O (by omega)) ?_)))
  rintro l11 Iq sG
  refine fE O func41 (zG sG (fun W HW => (HW).jh) (by assumption) (by omega)) ?_
  rintro u12 w12 tN
  have ae1 := tN.kK
  obtain ⟨bl8, ol8, cl8, el8⟩ := Rd.nR ((ae1.f4).aN) (by omega)
  cases el8
  refine aW (dD bH bF O O (by omega)) (aI (sQ 0 ae1.f4 bF O O (by first | rfl | exact Rd.one ((ae1).jh)) (by omega) (by decide)) ?_)
  rintro _ TL Dh
  simp only [Nat.mul_one, Nat.add_zero, Int.toNat_natCast] at Dh
  have HX := V.Fq Dh.f3.right.f6.f6.f6.f4.f6.f6 k
  refine bZ (aP (aZ (aA (bT O (aW (fP O O (by omega)) (iC O (bZ ?_)))))))
  refine dN (k + 1) ?_ ?_ ?_ ?_
  ·exact oO
  ·exact Wh
  ·(try dsimp only)
   first | done | exact ⟨by omega, _, by rw [← s.VB hkl]; exact HX⟩
  ·(try dsimp only); omega
 ·(try simp only [aF] at h1)
  refine eH (aT ?_)
  subst hR9
  refine aT (bU (aZ (aO (aO ?_))))
  obtain rfl : k = s.hl.length := by omega
  rw [s.VA] at HL
  have aeY := HL.f5.f5
  have aeZ := V.wB Kw aeY
  have abP := aeZ.f14.f14.f14.f4.f14.f14.f14.f14.f14.f14.f14.f14
  have abQ := V.mV (s := s) jO abP
  refine aA (iP O (bg ?_))
  refine gq [(3, _), (4, _), (5, _)] (fun (j : Nat) => [(7, .int .i64 (j : Int))]) (fun (j : Nat) W => j ≤ s.saved.length ∧ ∃ us, V w0 W (o7 .i32 us ((s.saved.take j).foldl setAt s.wL) • Row 23 1 l8 (s.hl.length + 1) us • eF b2 (.cells (Hz s u1 ks1 sv1).toArray 79 (0, 0)) • jR 21 .i32 u1 s.c.L • Row 82 2 sv1 s.saved.length (s.saved.flatMap BP) • ku y s • F)) (fun (j : Nat) => s.saved.length - j) (0) Du oO ⟨by omega, _, abQ.f6.f6.f6.f6.f6⟩ ?_
  rintro j YU ⟨hj, us2, HJ⟩
  dsimp only [List.cons_append, List.nil_append]
  refine aO (bY O (bn 13 dY O sizeOf77 O (fB iV O (HJ.f3).get.2 O (aW (fV ((HJ.f5).aN) iV O) (aW (fG O O) (jv O (fun h2 => ?_) (fun h2 => ?_)))))))
  ·(try simp only [aF] at h2)
   refine iy (aO (bg (aO ?_)))
   have hjl : j < s.saved.length := by omega
   obtain ⟨hx1, hx2⟩ := Fp (show s.saved.getD j default ∈ s.saved from by rw [List.getD_eq_getElem?_getD, List.getElem?_eq_getElem hjl]; exact List.getElem_mem hjl)
   have hxs : (s.saved.getD j default).2.size ≤ 16384 := by rw [hx2]; exact qB hlk.2.2.2.2.2 hok.2.2 _
   have hc2 := vH (s.saved.getD j default).2
   have hc3 := oq (s.saved.getD j default).2
   have hc4 : (uP (s.saved.getD j default).2).length ≤ 17179869184 := by omega
   have hfl : ((s.saved.take j).foldl setAt s.wL).length = s.hl.length + 1 := by rw [tJ, s.zq]
   refine aA (bn 13 dY O sizeOf77 O (fB iV O (HJ.f3).get.2 O (bT O ?_)))
   obtain ⟨ajJ, ajK, ajL, aib⟩ := Rd.nR ((HJ.f5).aN) (by omega)
   cases aib
   refine aW (dD iV sizeOf82 O O (by omega)) (bn 0 oL O aj O (aW (EP (eG (dn aB O) O (Rd.atS ((HJ.f5).aN) (by omega) (by decide))) (Xo hjl)) (iP O (bY O (aW (nM O O) (mX O (fun h3 => ?_) (fun h => by exfalso; (try simp only [aF] at h); omega)))))))
   (try simp only [aF] at h3)
   refine bW (bT O (bW (bT O (bW (aW (qc O O) (nZ O O (jv O (fun h4 => ?_) (fun h => by exfalso; (try simp only [aF] at h); first | omega | (simp at h; omega)))))))))
   (try simp only [aF] at h4)
   refine aA (jy O O (bn 13 dY O sizeOf77 O (fB iV O (HJ.f3).get.2 O (bT O (aW (dD iV sizeOf82 O O (by omega)) (bn 1 oL O kG O (aW (EP (eG (dn dU O) O (Rd.atS ((HJ.f5).aN) (by omega) (by decide))) (abZ hjl)) (iY (rE HJ dU bf bD O (by omega)) ?_))))))))
   rintro l22 w22 IQ
   refine fE O func41 (zG IQ (fun W HW => (HW).jh) (by assumption) (by omega)) ?_
   rintro u23 YV DC
   have ae2 := DC.kK
   obtain ⟨bl8, ol8, cl8, el8⟩ := Rd.nR ((ae2.f4).aN) (by omega)
   cases el8
   refine aW (dD bH bF O O (by omega)) (aI (sQ 0 ae2.f4 bF O O (by first | rfl | exact Rd.one ((ae2).jh)) (by omega) (by decide)) ?_)
   rintro _ w25 NZ
   simp only [Nat.mul_one, Nat.add_zero] at NZ
   have WX := V.Fq NZ.f3.right.f7.f7.f7.f7.f5.f7.f7 (s.saved.getD j default).1.toNat
   refine bZ (aP (aZ (aA (bT O (aW (fP O O (by omega)) (iC O (bZ ?_)))))))
   refine dN (j + 1) ?_ ?_ ?_ ?_
   ·exact oO
   ·exact Du
   ·(try dsimp only)
    first | done | exact ⟨by omega, _, by rw [Lc _ _ _ default hjl]; exact WX⟩
   ·(try dsimp only); omega
  ·(try simp only [aF] at h2)
   refine eH (aT (aT (bU (aZ (aO (aO ?_))))))
   obtain rfl : j = s.saved.length := by omega
   rw [List.take_of_length_le (Nat.le_refl _)] at HJ
   have hfl : (s.saved.foldl setAt s.wL).length = s.hl.length + 1 := by rw [tJ, s.zq]
   refine aA (bn 12 dY O aj O (fB aB O (HJ.f3).get.2 O (aW (nM O O) (mX O (fun h5 => ?_) (fun h => by exfalso; (try simp only [aF] at h); omega)))))
   (try simp only [aF] at h5)
   refine bW (bn 12 dY O aj O (bW (fB aB O (HJ.f3).get.2 O (bW (bT O (bW (aW (qc O O) (nZ O O (jv O (fun h6 => ?_) (fun h => by exfalso; (try simp only [aF] at h); first | omega | (simp at h; omega)))))))))))
   (try simp only [aF] at h6)
   have Xp := HJ.drew
   have Es := V.kp (Xp.f6.f6.f6.f6.f6.f6)
   refine uU [2, 5] Es O (gQ 0 O Es O (fQ 1 O Es 12 dY O aj O (iO 2 O Es (fun W hW => jT aB O ((Kp.h hW).f3).get.2 O) (fQ 3 O Es 0 dY O sizeOf52 O (fQ 4 O Es 0 lC O bF O (iO 5 O Es (fun W hW => jT ay O ((Kp.h hW).f3).get.2 O) (lU 6 O (dL (l := []) (Xp.gG none) ((Xp.f4).aN) ay KT O O (by first | omega | (simp only [List.length_append, List.length_nil, List.length_cons]; omega) | (simp; omega)) (by first | omega | (simp only [List.length_append, List.length_nil, List.length_cons]; omega) | (simp; omega))) ?_)))))))
   rintro l26 w26 Gh
   try simp only [List.nil_append] at Gh
   have QK := V.kp (Gh.f7.f7.f7.f7.f7.f7.f7)
   refine dZ QK (fun W hW => (Kp.h hW).right.f6.f6.f6.f6.f6.f6) ?_
   obtain ⟨bl8, ol8, cl8, el8⟩ := Rd.nR ((Gh.f3).aN) (by omega)
   cases el8
   refine iL 7 O QK (fun _ => dD bH bF O O (by omega)) ?_
   refine gU 8 O (by kernel_rfl) (sQ 0 Gh.f3 bF O O (by first | rfl | exact Rd.one ((Gh).aN)) (by omega) (by decide)) ?_
   rintro _ w27 JO
   have abv := V.kp (JO.f7.f7.f7.f7.f7.f7.f7)
   refine fH abv (by kernel_rfl) ?_
   refine qj (aZ (bY O (ig O (fD results11 O ?_))))
   simp only [Nat.mul_one, Nat.add_zero] at JO
   have X := V.Fq (V.kK JO.f4.right.f4.right.f4.right.f4.f2.f4.f4) s.c.place.toNat
   exact ⟨_, by rw [show s.lines.length = s.hl.length + 1 from s.F7]; exact X.swap⟩
end
def Tz (l : List Int) (at_ : Int) (p : List Int) : Bool := decide (0 ≤ at_) && HY l p at_.toNat
theorem ab2 {l p : List Int} {a : Int} (h : a < 0) : Tz l a p = false := by unfold Tz; rw [decide_eq_false (by omega)]; rfl
theorem VE {l p : List Int} {a : Int} (h : (l.length : Int) - a < p.length) : Tz l a p = false := by
  unfold Tz
  by_cases h0 : 0 ≤ a
  · rw [decide_eq_true h0, Bool.true_and]
    cases hb : HY l p a.toNat with
    | false => rfl
    | true => have := (AP.1 hb).1; omega
  · rw [decide_eq_false h0]; rfl
theorem adb {l p : List Int} {a : Int} (h0 : 0 ≤ a) (h1 : (p.length : Int) ≤ (l.length : Int) - a) (h : ∀ m, m < p.length → l.getD (a.toNat + m) 0 = p.getD m 0) : Tz l a p = true := by
  unfold Tz
  rw [decide_eq_true h0, Bool.true_and, AP]
  refine ⟨by omega, List.ext_getElem (by simp; omega) fun i hi hi2 => ?_⟩
  have := h i hi2
  rw [List.getD_eq_getElem?_getD, List.getD_eq_getElem?_getD, List.getElem?_eq_getElem (by omega), List.getElem?_eq_getElem hi2] at this
  simpa using this
theorem ae3 {l p : List Int} {a : Int} {m : Nat} (h1 : (p.length : Int) ≤ (l.length : Int) - a) (hm : m < p.length) (h : l.getD (a.toNat + m) 0 ≠ p.getD m 0) : Tz l a p = false := by
  unfold Tz
  by_cases h0 : 0 ≤ a
  · rw [decide_eq_true h0, Bool.true_and]
    cases hb : HY l p a.toNat with
    | false => rfl
    | true =>
      have h2 := (AP.1 hb).2
      refine absurd ?_ h
      have h3 := congrArg (fun q => q[m]?) h2
      rw [List.getElem?_take_of_lt hm, List.getElem?_drop] at h3
      rw [List.getD_eq_getElem?_getD, List.getD_eq_getElem?_getD, h3]
  · rw [decide_eq_false h0]; rfl
theorem TA {l p : List Int} {a : Int} (h0 : 0 ≤ a) : Tz l a p = HY l p a.toNat := by unfold Tz; rw [decide_eq_true h0, Bool.true_and]
section
variable {w0 w : World} {F : HP} {v v2 : Value} {l p : List Int} {us : List Value} {ls : List (List Int)} {place at_ : Int} {back : Bool}
theorem Jz (H : V w0 w F) (hv : jm w0 F .i32 v l) (hv2 : jm w0 F .i32 v2 p) (hat : at_ ≤ 4611686018427387904) : iM prog 13 #[v, .int .i64 at_, v2] w fun v' w' => v' = .bool (Tz l at_ p) ∧ V w0 w' F := by
  have hl9 : l.length ≤ 9223372036854775807 := by have := (hv _ H).open; obtain ⟨a, c, e, h3, h4, _⟩ := this; omega
  have hp9 : p.length ≤ 9223372036854775807 := by have := (hv2 _ H).open; obtain ⟨a, c, e, h3, h4, _⟩ := this; omega
  refine NC func13 ntmps13 ?_
  refine kQ O (aO (bY O (aW (fG O O) (mX O (fun h1 => ?_) (fun h1 => ?_)))))
  · (try simp only [aF] at h1)
    refine dF (dF (dF (dF (dF (dF (dF (nZ O O (jd (GV (mP O (aC (fD results13 O ?_))))))))))))
    exact ⟨by first | rw [ab2 (by omega)] | rw [VE (by omega)], H⟩
  · (try simp only [aF] at h1)
    refine bW (bT O (bW (aW (jJ (hv2 _ (H)) ay O) (bW (bT O (bW (aW (jJ (hv _ (H)) ay O) (bW (bT O (bW (aW (lW O O (by omega)) (bW (aW (iT O O) (kX O O (jv O (fun h2 => ?_) (fun h2 => ?_))))))))))))))))
    · (try simp only [aF] at h2)
      refine mP O (aC (fD results13 O ?_))
      exact ⟨by first | rw [ab2 (by omega)] | rw [VE (by omega)], H⟩
    · (try simp only [aF] at h2)
      refine iy (aO (kQ O (bg ?_)))
      refine gq [(0, _), (1, _), (2, _)] (fun (k : Nat) => [(7, .int .i64 (k : Int))]) (fun (k : Nat) W => (k ≤ p.length ∧ ∀ m, m < k → l.getD (at_.toNat + m) 0 = p.getD m 0) ∧ V w0 W F) (fun (k : Nat) => p.length - k) (0) Du oO ⟨⟨by omega, fun m hm => absurd hm (by omega)⟩, H⟩ ?_
      rintro k w1 ⟨⟨hk, hall⟩, HL⟩
      dsimp only [List.cons_append, List.nil_append]
      refine aO (bY O (bT O (aW (jJ (hv2 _ (HL)) ay O) (aW (fG O O) (jv O (fun h3 => ?_) (fun h3 => ?_))))))
      · (try simp only [aF] at h3)
        refine iy (aO (bg (aO ?_)))
        have hkp : k < p.length := by omega
        have hi9 : (at_ + (k : Int)).toNat = at_.toNat + k := by omega
        have Md := HL.drew
        have vK := V.kp (Md)
        refine uU [5, 9] vK O (gQ 0 O vK O (gQ 1 O vK O (gQ 2 O vK O (iL 3 O vK (fun _ => fP O O (by omega)) ?_))))
        obtain ⟨bv, ov, cv, ev⟩ := jP.nR (hv _ (Md)) (by omega)
        cases ev
        refine iL 4 O vK (fun _ => dD ay iE O O (by omega)) ?_
        refine iO 5 O vK (fun W hW => eG (dn dM O) O (by first | exact jP.sO (hv _ ((Kp.h hW))) (by omega) | exact jP.EF (hv _ ((Kp.h hW))) (by omega) | exact jP.Ey (hv _ ((Kp.h hW))) (by omega))) ?_
        refine gQ 6 O vK O (gQ 7 O vK O ?_)
        obtain ⟨bv2, ov2, cv2, ev2⟩ := jP.nR (hv2 _ (Md)) (by omega)
        cases ev2
        refine iL 8 O vK (fun _ => dD ay iE O O (by omega)) ?_
        refine iO 9 O vK (fun W hW => eG (dn dM O) O (by first | exact jP.sO (hv2 _ ((Kp.h hW))) (by omega) | exact jP.EF (hv2 _ ((Kp.h hW))) (by omega) | exact jP.Ey (hv2 _ ((Kp.h hW))) (by omega))) ?_
        refine iL 10 O vK (fun _ => gy O O) (qj (aZ (dA O (fun h4 => ?_) (fun h4 => ?_))))
        · (try simp only [aF] at h4)
          have hne : l.getD (at_.toNat + k) 0 ≠ p.getD k 0 := by have h9 := h4; rw [hi9] at h9; simpa using h9
          refine mP O (aX (aC (aC (aX (aC (fD results13 O ?_))))))
          exact ⟨by rw [ae3 (by omega) hkp hne], Md⟩
        · (try simp only [aF] at h4)
          have heq : l.getD (at_.toNat + k) 0 = p.getD k 0 := by have h9 := h4; rw [hi9] at h9; simpa using h9
          refine dS (aP (aZ (aA (bT O (aW (fP O O (by omega)) (iC O (bZ ?_)))))))
          refine dN (k + 1) ?_ ?_ ?_ ?_
          · exact oO
          · exact Du
          · (try dsimp only)
            first | done | exact ⟨⟨by omega, fun m hm => by rcases Nat.lt_succ_iff_lt_or_eq.1 hm with c | c; exact hall m c; subst c; exact heq⟩, Md⟩
          · (try dsimp only); omega
      · (try simp only [aF] at h3)
        refine eH (aT (aT (bU (aZ (mP O (fD results13 O ?_))))))
        exact ⟨by rw [adb (by omega) (by omega) (fun m hm => hall m (by omega))], HL⟩
theorem Bv {s : Int} : jg l p s true = ug l p (min s (qE l p) + 1).toNat := by unfold jg; rw [if_pos rfl]
theorem Bz {s : Int} : jg l p s false = qO l p (qE l p - max s 0 + 1).toNat (max s 0).toNat := by unfold jg; rw [if_neg (by decide)]
theorem VF {j : Int} (h0 : 0 ≤ j) (h : ¬ Tz l j p = true) : jg l p j true = jg l p (j - 1) true := by
  rw [Bv, Bv]
  by_cases hm : j ≤ qE l p
  · rw [Int.min_eq_left hm, Int.min_eq_left (show j - 1 ≤ qE l p by omega)]
    exact QS h0 (by rwa [TA h0] at h)
  · rw [Int.min_eq_right (by omega), Int.min_eq_right (by omega)]
theorem Me {j : Int} (h0 : 0 ≤ j) (h : Tz l j p = true) : jg l p j true = j := by
  rw [TA h0] at h
  have := (AP.1 h).1
  rw [Bv, Int.min_eq_left (by unfold qE; omega)]
  exact OU h0 h
theorem MB {j : Int} (h0 : j < 0) : jg l p j true = -1 := by
  rw [Bv, show (min j (qE l p) + 1).toNat = 0 from by omega]; rfl
theorem Zy {j : Int} (h0 : 0 ≤ j) (h : ¬ Tz l j p = true) : jg l p j false = jg l p (j + 1) false := by
  rw [Bz, Bz, Int.max_eq_left h0, Int.max_eq_left (show 0 ≤ j + 1 by omega)]
  by_cases hm : j ≤ qE l p
  · exact OV h0 hm (by rwa [TA h0] at h)
  · rw [CS hm, CS (by omega)]
theorem Qd {j : Int} (h0 : 0 ≤ j) (h : Tz l j p = true) : jg l p j false = j := by
  rw [TA h0] at h
  have := (AP.1 h).1
  rw [Bz, Int.max_eq_left h0]
  exact KY h0 (by unfold qE; omega) h
theorem Qe {j : Int} (h0 : (l.length : Int) < j) : jg l p j false = -1 := by
  rw [Bz, Int.max_eq_left (by omega)]
  exact CS (by unfold qE; omega)
theorem VG {j : Int} (h0 : (l.length : Int) < j) : jg l p j true = jg l p (l.length : Int) true := by
  rw [Bv, Bv, Int.min_eq_right (by unfold qE; omega), Int.min_eq_right (by unfold qE; omega)]
theorem TB {j : Int} (h0 : j < 0) : jg l p j false = jg l p 0 false := by
  rw [Bz, Bz, Int.max_eq_right (by omega)]; rfl
end
end Go.Proofs.YtgofgnlkpeghcaaGreatDoor
end
