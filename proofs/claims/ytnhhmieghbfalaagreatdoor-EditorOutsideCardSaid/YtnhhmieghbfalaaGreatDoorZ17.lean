import Derived.Test.YtnhhmieghbfalaaGreatDoorZ4
import Derived.Test.YtnhhmieghbfalaaGreatDoorZ16
set_option linter.unusedSimpArgs false
set_option linter.unusedVariables false
/- Texts of mine, joined, their names in short: EdE EdU. -/
section
namespace Go.Proofs.YtnhhmieghbfalaaGreatDoor
open Go.RowKit
open _root_.Go.Proofs.Tryz
theorem IC (s : aX) (on : Bool) : (s.dH on).c.run = s.c.run := by unfold aX.dH; split <;> rfl
theorem Tn (s : aX) (on : Bool) : (s.dH on).cls = s.cls := by unfold aX.dH; split <;> rfl
theorem pW {s s1 : aX} {on run : Bool} (h1 : s1 = s.lT) (hon : (s.typed && s.c.run) = on) (hrun : (s.typed && (!s.put.isEmpty || s.c.run)) = run) (h2 : (s1.dH on).cls ≠ 2) :
    s.nY = { s1.dH on with c := { (s1.dH on).c with run := run, last := (s1.dH on).cls, fr := 0, to := 0 } } := by
  subst h1 hon hrun
  have hc : (s.lT.dH (s.typed && s.c.run)).cls = s.cls := by rw [Tn]; unfold aX.lT; split <;> rfl
  unfold aX.nY
  rw [hc] at h2 ⊢
  dsimp only
  rw [if_pos h2]
theorem oG {s s1 : aX} {on run : Bool} (h1 : s1 = s.lT) (hon : (s.typed && s.c.run) = on) (hrun : (s.typed && (!s.put.isEmpty || s.c.run)) = run) (h2 : (s1.dH on).cls = 2) :
    s.nY = { s1.dH on with c := { (s1.dH on).c with run := run, last := (s1.dH on).cls } } := by
  subst h1 hon hrun
  have hc : (s.lT.dH (s.typed && s.c.run)).cls = s.cls := by rw [Tn]; unfold aX.lT; split <;> rfl
  unfold aX.nY
  rw [hc] at h2 ⊢
  dsimp only
  rw [if_neg (by omega)]
theorem CV {s : aX} (h : ru s) : ru s.lT := by
  obtain ⟨h1, h2, h3, h4, h5, h6⟩ := h
  unfold aX.lT
  split
  · exact ⟨h1, fun h => Bool.noConfusion h, h3, h4, h5, h6⟩
  · exact ⟨h1, fun h => Bool.noConfusion h, ⟨by show (-1 : Int) ≤ -1; decide, by show (-1 : Int) ≤ 1000000; decide⟩, h4, h5, h6⟩
theorem yR {l : List jH} : l.isEmpty = decide (l.length = 0) := by cases l <;> rfl
section
variable {w0 w : World} {F : HP} {e p : Nat} {s : aX} {x : Int}
theorem Y6 (hin : s.inn = true) (H : V w0 w (gQ e s • F)) : iK prog 9 #[.pointer (some ⟨e, 0, none⟩), .int .i64 0] w fun v w' => v = .int .i64 0 ∧ V w0 w' (gQ e s.nY • F) := by
  have hpe : s.wB = 0 := by unfold aX.wB; rw [if_pos hin]
  refine nO func9 ntmps9 ?_
  refine kG O (aI (bT O (fH O qF (jY H) ?_)))
  rintro _ _ ⟨rfl, rfl⟩
  refine iU O (bT O (aT (fF O O) (jo O (fun h => by exfalso; (try simp only [aG] at h); exact h hpe) (fun h1 => ?_))))
  (try simp only [aG] at h1)
  refine gX (aI ?_)
  obtain ⟨vC, wF, wG, xC, wH, wI, wJ, wK, vF, rW, rX, rY, rZ, su, sD, sH, sJ, sK, sN, sO, gB, dF, kK, gG⟩ := (H).Gs
  refine aF (kY O O (bg 16 aj O aN O (aH (ig 16 gG aN) ?_)))
  rintro _ w3 H3
  refine uV (bT O (dM O (bg 31 aj O aN O (dQ bn O (H3).get.2 O (aT (jG O) (nS O (fun h2 => ?_) (fun h2 => ?_)))))))
  · (try simp only [aG] at h2)
    have har : s.argues = false := by simpa using h2
    have hs1 : ({ s.zM with inn := false } : aX) = s.lT := by unfold aX.lT; rw [if_neg (by simp [har])]
    refine dB (dB (mQ O O (iR (DZ (aF (ku O O (kY O O (bg 13 aj O aN O (aH (ig 13 H3 aN) ?_)))))))))
    rintro _ w4 H4
    refine dM O (bg 14 aj O aN O (aH (ig 14 H4 aN) ?_))
    rintro _ w5 H5
    refine dM O (bg 15 aj O ah O (aH (ig 15 H5 ah) ?_))
    rintro _ w6 H6
    refine uV (bT O (aT (fF O O) (iR (Kq O (fun h3 => ?_)))))
    (try simp only [aG] at h3)
    refine gX (aI ?_)
    have Lh := H6.drew
    have oq := V.kp (Lh.f11.f11.f11.f11.f11.f11.f11.f11.f11.f11.f11)
    refine tH [3, 9, 14] oq O (fM 0 O oq O (jF 1 O oq O (eP 2 O oq 28 aj O ah O (iD 3 O oq (fun W hW => jk ay O ((Kp.h hW)).get.2 O) (iE 4 O oq (fun _ => fA O O) ?_)))))
    refine rO 5 O O (by kernel_rfl) (by kernel_rfl) oq (iO O) (fun h4 => ?_) (fun h4 => ?_)
    · (try simp only [aG] at h4)
      have hc3 : s.cls = 3 := h4
      refine bQ 6 O O O (by kernel_rfl) (by kernel_rfl) oq (fun _ => oh O) (iO O) ?_
      refine bQ 7 O O O (by kernel_rfl) (by kernel_rfl) oq (fun _ => XL O) (iO O) ?_
      refine bQ 8 O O O (by kernel_rfl) (by kernel_rfl) oq (fun _ => xH 32 aj O O aN (by decide) O rfl) (iO O) ?_
      refine jW 9 O O O (by kernel_rfl) (by kernel_rfl) oq (by decide) (fun W hW => fB (dG bn O) O (iP ((Kp.h hW)).get.2 O)) (iO O) ?_
      refine iE 10 O oq (fun _ => oP O O) (fM 11 O oq O (jF 12 O oq O (eP 13 O oq 33 aj O bU O (iD 14 O oq (fun W hW => jk aV O ((Kp.h hW)).get.2 O) (iE 15 O oq (fun _ => fV ((Lh.f9).aJ) aV O) (iE 16 O oq (fun _ => fZ O O) (iE 17 O oq (fun _ => eH O) (iE 18 O oq (fun _ => eH O) (oH (aZ (bT O (cO O (nS O (fun h5 => ?_) (fun h5 => ?_))))))))))))))
      · (try simp only [aG] at h5)
        have hwh : s.whole = true := h5
        have hty : s.typed = true := by unfold aX.typed; rw [hc3, hwh]; rfl
        refine bJ (cO O (bJ (dM O (bJ (bg 0 aj O aU O (bJ (bg 10 aK O aN O (bJ (dQ bn O (Lh).get.2 O (mQ O O ?_))))))))))
        have hwo := GZ (Lh.f11)
        have Wx := Lh.f11.right
        have HW0 := V.LY (c := s.was) (u := [rW, rX, rY, rZ, su, sD, sH, sJ, sK, sN, sO]) Wx hwo
        obtain ⟨s1, yH, HS1⟩ : ∃ s1, s1 = s.lT ∧ V w0 (w6.drew) (gQ e s1 • F) := ⟨_, hs1, V.iC (hs1 ▸ CV gB) dF HW0.f11.f11.f11.f11.f11.f11.f11.f11.f11.f11⟩
        have hr1 : s1.c.run = s.c.run := by rw [yH]; unfold aX.lT; split <;> rfl
        refine fH O func48 (tq HS1) ?_
        rintro _ w8 H8
        obtain ⟨on, hon, HZ⟩ : ∃ on, (s.typed && s.c.run) = on ∧ V w0 w8 (gQ e (s1.dH on) • F) := ⟨_, by rw [hty]; rfl, H8⟩
        refine uV ?_
        obtain ⟨vC, wF, wG, xC, wH, wI, wJ, wK, vF, rW, rX, rY, rZ, su, sD, sH, sJ, sK, sN, sO, gB, dF, kK, gG⟩ := (HZ).Gs
        refine aF (ku O O (nS O (fun h6 => ?_) (fun h6 => ?_)))
        · (try simp only [aG] at h6)
          have hw2 : s.whole = true := h6
          refine bJ (cO O (bJ (nS O (fun h7 => ?_) (fun h7 => ?_))))
          · (try simp only [aG] at h7)
            have hrun : (s.typed && (!s.put.isEmpty || s.c.run)) = true := by first | exact absurd (hw2.symm.trans hwh) (by decide) | (rw [yR, decide_eq_false (show ¬ s.put.length = 0 by omega), hty]; rfl)
            refine dB (dB (dB (dB (dB (bJ (mQ O O (mQ O O (dM O (bg 0 aj O aU O (bg 10 aK O aN O (aH (ig 10 gG aN) ?_)))))))))))
            rintro _ w10 rU
            refine qG O (kY O O (bg 28 aj O ah O (dQ ay O (rU).get.2 O (dM O (bg 0 aj O aU O (bg 6 aK O ah O (aH (ig 6 rU ah) ?_)))))))
            rintro _ Ii rE
            refine uV (bT O (dM O (bg 28 aj O ah O (dQ ay O (rE).get.2 O (aT (fF O O) (jo O (fun h8 => ?_) (fun h8 => ?_)))))))
            · (try simp only [aG] at h8)
              have CW := pW yH hon hrun h8
              refine aF (ku O O (dM O (bg 0 aj O aU O (bg 7 aK O ah O (aH (ig 7 rE ah) ?_)))))
              rintro _ w12 uP
              refine dM O (bg 0 aj O aU O (bg 8 aK O ah O (aH (ig 8 uP ah) ?_)))
              rintro _ P7 AZ
              refine iR (jE O (dO jy O ?_))
              refine ⟨O, ?_⟩
              first
                | exact absurd (hw2.symm.trans hwh) (by decide)
                | exact absurd (hwh.symm.trans hw2) (by decide)
                | (rw [CW]; exact V.iC gB dF AZ.f11.f11.f11.f11.f11.f11.f11.f11.f11.f11.f11)
            · (try simp only [aG] at h8)
              have CW := oG yH hon hrun h8
              refine gX (jE O (dO jy O ?_))
              refine ⟨O, ?_⟩
              first
                | exact absurd (hw2.symm.trans hwh) (by decide)
                | exact absurd (hwh.symm.trans hw2) (by decide)
                | (rw [CW]; exact V.iC gB dF rE.f11.f11.f11.f11.f11.f11.f11.f11.f11.f11.f11)
          · (try simp only [aG] at h7)
            have hrun : (s.typed && (!s.put.isEmpty || s.c.run)) = (s1.dH on).c.run := by first | exact absurd (hw2.symm.trans hwh) (by decide) | (rw [yR, decide_eq_true (show s.put.length = 0 by omega), hty, IC, hr1]; rfl)
            refine bJ (cO O (bJ (dM O (bJ (bg 0 aj O aU O (bJ (bg 10 aK O aN O (bJ (dQ bn O (gG).get.2 O (bJ (kP O O (mQ O O (dM O (bg 0 aj O aU O (bg 10 aK O aN O (aH (ig 10 gG aN) ?_))))))))))))))))
            rintro _ O9 BJ
            refine qG O (kY O O (bg 28 aj O ah O (dQ ay O (BJ).get.2 O (dM O (bg 0 aj O aU O (bg 6 aK O ah O (aH (ig 6 BJ ah) ?_)))))))
            rintro _ Ry CJ
            refine uV (bT O (dM O (bg 28 aj O ah O (dQ ay O (CJ).get.2 O (aT (fF O O) (jo O (fun h9 => ?_) (fun h9 => ?_)))))))
            · (try simp only [aG] at h9)
              have CW := pW yH hon hrun h9
              refine aF (ku O O (dM O (bg 0 aj O aU O (bg 7 aK O ah O (aH (ig 7 CJ ah) ?_)))))
              rintro _ w16 yG
              refine dM O (bg 0 aj O aU O (bg 8 aK O ah O (aH (ig 8 yG ah) ?_)))
              rintro _ ZI DL
              refine iR (jE O (dO jy O ?_))
              refine ⟨O, ?_⟩
              first
                | exact absurd (hw2.symm.trans hwh) (by decide)
                | exact absurd (hwh.symm.trans hw2) (by decide)
                | (rw [CW]; exact V.iC gB dF DL.f11.f11.f11.f11.f11.f11.f11.f11.f11.f11.f11)
            · (try simp only [aG] at h9)
              have CW := oG yH hon hrun h9
              refine gX (jE O (dO jy O ?_))
              refine ⟨O, ?_⟩
              first
                | exact absurd (hw2.symm.trans hwh) (by decide)
                | exact absurd (hwh.symm.trans hw2) (by decide)
                | (rw [CW]; exact V.iC gB dF CJ.f11.f11.f11.f11.f11.f11.f11.f11.f11.f11.f11)
        · (try simp only [aG] at h6)
          have hw2 : s.whole = false := by simpa using h6
          have hrun : (s.typed && (!s.put.isEmpty || s.c.run)) = false := by first | exact absurd (hwh.symm.trans hw2) (by decide) | (rw [hty]; rfl)
          refine dB (dB (yX (yX (yX (yX (yX (dB (kP O O (dM O (bg 0 aj O aU O (bg 10 aK O aN O (aH (ig 10 gG aN) ?_))))))))))))
          rintro _ U5 DN
          refine qG O (kY O O (bg 28 aj O ah O (dQ ay O (DN).get.2 O (dM O (bg 0 aj O aU O (bg 6 aK O ah O (aH (ig 6 DN ah) ?_)))))))
          rintro _ X9 Df
          refine uV (bT O (dM O (bg 28 aj O ah O (dQ ay O (Df).get.2 O (aT (fF O O) (jo O (fun h10 => ?_) (fun h10 => ?_)))))))
          · (try simp only [aG] at h10)
            have CW := pW yH hon hrun h10
            refine aF (ku O O (dM O (bg 0 aj O aU O (bg 7 aK O ah O (aH (ig 7 Df ah) ?_)))))
            rintro _ ZJ DR
            refine dM O (bg 0 aj O aU O (bg 8 aK O ah O (aH (ig 8 DR ah) ?_)))
            rintro _ Ya xZ
            refine iR (jE O (dO jy O ?_))
            refine ⟨O, ?_⟩
            first
              | exact absurd (hw2.symm.trans hwh) (by decide)
              | exact absurd (hwh.symm.trans hw2) (by decide)
              | (rw [CW]; exact V.iC gB dF xZ.f11.f11.f11.f11.f11.f11.f11.f11.f11.f11.f11)
          · (try simp only [aG] at h10)
            have CW := oG yH hon hrun h10
            refine gX (jE O (dO jy O ?_))
            refine ⟨O, ?_⟩
            first
              | exact absurd (hw2.symm.trans hwh) (by decide)
              | exact absurd (hwh.symm.trans hw2) (by decide)
              | (rw [CW]; exact V.iC gB dF Df.f11.f11.f11.f11.f11.f11.f11.f11.f11.f11.f11)
      · (try simp only [aG] at h5)
        have hwh : s.whole = false := by simpa using h5
        have hty : s.typed = false := by unfold aX.typed; rw [hc3, hwh]; rfl
        have hrun : (s.typed && (!s.put.isEmpty || s.c.run)) = false := by rw [hty]; rfl
        refine dB (dB (dB (dB (dB (kP O O ?_)))))
        have hwo := GZ (Lh.f11)
        have SK := Lh.f11.right
        have HW0 := V.LY (c := s.was) (u := [rW, rX, rY, rZ, su, sD, sH, sJ, sK, sN, sO]) SK hwo
        obtain ⟨s1, yH, HS1⟩ : ∃ s1, s1 = s.lT ∧ V w0 (w6.drew) (gQ e s1 • F) := ⟨_, hs1, V.iC (hs1 ▸ CV gB) dF HW0.f11.f11.f11.f11.f11.f11.f11.f11.f11.f11⟩
        have hr1 : s1.c.run = s.c.run := by rw [yH]; unfold aX.lT; split <;> rfl
        refine fH O func48 (tq HS1) ?_
        rintro _ Yb BM
        obtain ⟨on, hon, HZ⟩ : ∃ on, (s.typed && s.c.run) = on ∧ V w0 Yb (gQ e (s1.dH on) • F) := ⟨_, by rw [hty]; rfl, BM⟩
        refine uV ?_
        obtain ⟨vC, wF, wG, xC, wH, wI, wJ, wK, vF, rW, rX, rY, rZ, su, sD, sH, sJ, sK, sN, sO, gB, dF, kK, gG⟩ := (HZ).Gs
        refine aF (ku O O (nS O (fun h11 => ?_) (fun h11 => ?_)))
        · (try simp only [aG] at h11)
          have hw2 : s.whole = true := h11
          refine bJ (cO O (bJ (nS O (fun h12 => ?_) (fun h12 => ?_))))
          · (try simp only [aG] at h12)
            have hrun : (s.typed && (!s.put.isEmpty || s.c.run)) = true := by first | exact absurd (hw2.symm.trans hwh) (by decide) | (rw [yR, decide_eq_false (show ¬ s.put.length = 0 by omega), hty]; rfl)
            refine dB (dB (dB (dB (dB (bJ (mQ O O (mQ O O (dM O (bg 0 aj O aU O (bg 10 aK O aN O (aH (ig 10 gG aN) ?_)))))))))))
            rintro _ w25 Jo
            refine qG O (kY O O (bg 28 aj O ah O (dQ ay O (Jo).get.2 O (dM O (bg 0 aj O aU O (bg 6 aK O ah O (aH (ig 6 Jo ah) ?_)))))))
            rintro _ w26 FK
            refine uV (bT O (dM O (bg 28 aj O ah O (dQ ay O (FK).get.2 O (aT (fF O O) (jo O (fun h13 => ?_) (fun h13 => ?_)))))))
            · (try simp only [aG] at h13)
              have CW := pW yH hon hrun h13
              refine aF (ku O O (dM O (bg 0 aj O aU O (bg 7 aK O ah O (aH (ig 7 FK ah) ?_)))))
              rintro _ w27 KT
              refine dM O (bg 0 aj O aU O (bg 8 aK O ah O (aH (ig 8 KT ah) ?_)))
              rintro _ w28 Rz
              refine iR (jE O (dO jy O ?_))
              refine ⟨O, ?_⟩
              first
                | exact absurd (hw2.symm.trans hwh) (by decide)
                | exact absurd (hwh.symm.trans hw2) (by decide)
                | (rw [CW]; exact V.iC gB dF Rz.f11.f11.f11.f11.f11.f11.f11.f11.f11.f11.f11)
            · (try simp only [aG] at h13)
              have CW := oG yH hon hrun h13
              refine gX (jE O (dO jy O ?_))
              refine ⟨O, ?_⟩
              first
                | exact absurd (hw2.symm.trans hwh) (by decide)
                | exact absurd (hwh.symm.trans hw2) (by decide)
                | (rw [CW]; exact V.iC gB dF FK.f11.f11.f11.f11.f11.f11.f11.f11.f11.f11.f11)
          · (try simp only [aG] at h12)
            have hrun : (s.typed && (!s.put.isEmpty || s.c.run)) = (s1.dH on).c.run := by first | exact absurd (hw2.symm.trans hwh) (by decide) | (rw [yR, decide_eq_true (show s.put.length = 0 by omega), hty, IC, hr1]; rfl)
            refine bJ (cO O (bJ (dM O (bJ (bg 0 aj O aU O (bJ (bg 10 aK O aN O (bJ (dQ bn O (gG).get.2 O (bJ (kP O O (mQ O O (dM O (bg 0 aj O aU O (bg 10 aK O aN O (aH (ig 10 gG aN) ?_))))))))))))))))
            rintro _ w29 N9
            refine qG O (kY O O (bg 28 aj O ah O (dQ ay O (N9).get.2 O (dM O (bg 0 aj O aU O (bg 6 aK O ah O (aH (ig 6 N9 ah) ?_)))))))
            rintro _ w30 P9
            refine uV (bT O (dM O (bg 28 aj O ah O (dQ ay O (P9).get.2 O (aT (fF O O) (jo O (fun h14 => ?_) (fun h14 => ?_)))))))
            · (try simp only [aG] at h14)
              have CW := pW yH hon hrun h14
              refine aF (ku O O (dM O (bg 0 aj O aU O (bg 7 aK O ah O (aH (ig 7 P9 ah) ?_)))))
              rintro _ w31 TW
              refine dM O (bg 0 aj O aU O (bg 8 aK O ah O (aH (ig 8 TW ah) ?_)))
              rintro _ w32 TY
              refine iR (jE O (dO jy O ?_))
              refine ⟨O, ?_⟩
              first
                | exact absurd (hw2.symm.trans hwh) (by decide)
                | exact absurd (hwh.symm.trans hw2) (by decide)
                | (rw [CW]; exact V.iC gB dF TY.f11.f11.f11.f11.f11.f11.f11.f11.f11.f11.f11)
            · (try simp only [aG] at h14)
              have CW := oG yH hon hrun h14
              refine gX (jE O (dO jy O ?_))
              refine ⟨O, ?_⟩
              first
                | exact absurd (hw2.symm.trans hwh) (by decide)
                | exact absurd (hwh.symm.trans hw2) (by decide)
                | (rw [CW]; exact V.iC gB dF P9.f11.f11.f11.f11.f11.f11.f11.f11.f11.f11.f11)
        · (try simp only [aG] at h11)
          have hw2 : s.whole = false := by simpa using h11
          have hrun : (s.typed && (!s.put.isEmpty || s.c.run)) = false := by first | exact absurd (hwh.symm.trans hw2) (by decide) | (rw [hty]; rfl)
          refine dB (dB (yX (yX (yX (yX (yX (dB (kP O O (dM O (bg 0 aj O aU O (bg 10 aK O aN O (aH (ig 10 gG aN) ?_))))))))))))
          rintro _ w33 ZK
          refine qG O (kY O O (bg 28 aj O ah O (dQ ay O (ZK).get.2 O (dM O (bg 0 aj O aU O (bg 6 aK O ah O (aH (ig 6 ZK ah) ?_)))))))
          rintro _ w34 Yy
          refine uV (bT O (dM O (bg 28 aj O ah O (dQ ay O (Yy).get.2 O (aT (fF O O) (jo O (fun h15 => ?_) (fun h15 => ?_)))))))
          · (try simp only [aG] at h15)
            have CW := pW yH hon hrun h15
            refine aF (ku O O (dM O (bg 0 aj O aU O (bg 7 aK O ah O (aH (ig 7 Yy ah) ?_)))))
            rintro _ w35 H35
            refine dM O (bg 0 aj O aU O (bg 8 aK O ah O (aH (ig 8 H35 ah) ?_)))
            rintro _ w36 H36
            refine iR (jE O (dO jy O ?_))
            refine ⟨O, ?_⟩
            first
              | exact absurd (hw2.symm.trans hwh) (by decide)
              | exact absurd (hwh.symm.trans hw2) (by decide)
              | (rw [CW]; exact V.iC gB dF H36.f11.f11.f11.f11.f11.f11.f11.f11.f11.f11.f11)
          · (try simp only [aG] at h15)
            have CW := oG yH hon hrun h15
            refine gX (jE O (dO jy O ?_))
            refine ⟨O, ?_⟩
            first
              | exact absurd (hw2.symm.trans hwh) (by decide)
              | exact absurd (hwh.symm.trans hw2) (by decide)
              | (rw [CW]; exact V.iC gB dF Yy.f11.f11.f11.f11.f11.f11.f11.f11.f11.f11.f11)
    · (try simp only [aG] at h4)
      have hty : s.typed = false := by unfold aX.typed; rw [beq_false_of_ne h4]; rfl
      have hrun : (s.typed && (!s.put.isEmpty || s.c.run)) = false := by rw [hty]; rfl
      refine jB 6 O O O O (by kernel_rfl) (by kernel_rfl) oq (iO O) ?_
      refine jB 7 O O O O (by kernel_rfl) (by kernel_rfl) oq (iO O) ?_
      refine jB 8 O O O O (by kernel_rfl) (by kernel_rfl) oq (iO O) ?_
      refine jB 9 O O O O (by kernel_rfl) (by kernel_rfl) oq (iO O) ?_
      refine iE 10 O oq (fun _ => y5 O O) (fM 11 O oq O (jF 12 O oq O (eP 13 O oq 33 aj O bU O (iD 14 O oq (fun W hW => jk aV O ((Kp.h hW)).get.2 O) (iE 15 O oq (fun _ => fV ((Lh.f9).aJ) aV O) (iE 16 O oq (fun _ => fZ O O) (iE 17 O oq (fun _ => eH O) (iE 18 O oq (fun _ => eH O) (oH (aZ (bT O (ku O O (dB (dB (dB (dB (dB (kP O O ?_))))))))))))))))))
      have hwo := GZ (Lh.f11)
      have ah9 := Lh.f11.right
      have HW0 := V.LY (c := s.was) (u := [rW, rX, rY, rZ, su, sD, sH, sJ, sK, sN, sO]) ah9 hwo
      obtain ⟨s1, yH, HS1⟩ : ∃ s1, s1 = s.lT ∧ V w0 (w6.drew) (gQ e s1 • F) := ⟨_, hs1, V.iC (hs1 ▸ CV gB) dF HW0.f11.f11.f11.f11.f11.f11.f11.f11.f11.f11⟩
      have hr1 : s1.c.run = s.c.run := by rw [yH]; unfold aX.lT; split <;> rfl
      refine fH O func48 (tq HS1) ?_
      rintro _ w38 Ve
      obtain ⟨on, hon, HZ⟩ : ∃ on, (s.typed && s.c.run) = on ∧ V w0 w38 (gQ e (s1.dH on) • F) := ⟨_, by rw [hty]; rfl, Ve⟩
      refine uV ?_
      obtain ⟨vC, wF, wG, xC, wH, wI, wJ, wK, vF, rW, rX, rY, rZ, su, sD, sH, sJ, sK, sN, sO, gB, dF, kK, gG⟩ := (HZ).Gs
      refine aF (ku O O (cO O (dB (dB (yX (yX (yX (yX (yX (dB (kP O O (dM O (bg 0 aj O aU O (bg 10 aK O aN O (aH (ig 10 gG aN) ?_)))))))))))))))
      rintro _ w40 H40
      refine qG O (kY O O (bg 28 aj O ah O (dQ ay O (H40).get.2 O (dM O (bg 0 aj O aU O (bg 6 aK O ah O (aH (ig 6 H40 ah) ?_)))))))
      rintro _ w41 H41
      refine uV (bT O (dM O (bg 28 aj O ah O (dQ ay O (H41).get.2 O (aT (fF O O) (jo O (fun h16 => ?_) (fun h16 => ?_)))))))
      · (try simp only [aG] at h16)
        have CW := pW yH hon hrun h16
        refine aF (ku O O (dM O (bg 0 aj O aU O (bg 7 aK O ah O (aH (ig 7 H41 ah) ?_)))))
        rintro _ w42 H42
        refine dM O (bg 0 aj O aU O (bg 8 aK O ah O (aH (ig 8 H42 ah) ?_)))
        rintro _ w43 H43
        refine iR (jE O (dO jy O ?_))
        refine ⟨O, ?_⟩
        first
          | exact absurd (hw2.symm.trans hwh) (by decide)
          | exact absurd (hwh.symm.trans hw2) (by decide)
          | (rw [CW]; exact V.iC gB dF H43.f11.f11.f11.f11.f11.f11.f11.f11.f11.f11.f11)
      · (try simp only [aG] at h16)
        have CW := oG yH hon hrun h16
        refine gX (jE O (dO jy O ?_))
        refine ⟨O, ?_⟩
        first
          | exact absurd (hw2.symm.trans hwh) (by decide)
          | exact absurd (hwh.symm.trans hw2) (by decide)
          | (rw [CW]; exact V.iC gB dF H41.f11.f11.f11.f11.f11.f11.f11.f11.f11.f11.f11)
  · (try simp only [aG] at h2)
    have har : s.argues = true := by simpa using h2
    have hs1 : ({ s with inn := false } : aX) = s.lT := by unfold aX.lT; rw [if_pos har]
    refine bJ (cO O (bJ (aT (fF O O) (kP O O (iR (Kq O (fun h17 => ?_)))))))
    (try simp only [aG] at h17)
    refine gX (aI (bT O (aT (fF O O) (iR (Kq O (fun h18 => ?_))))))
    (try simp only [aG] at h18)
    refine gX (aI ?_)
    have Gj := H3.drew
    have lJ := V.kp (Gj.f11.f11.f11.f11.f11.f11.f11.f11.f11.f11.f11)
    refine tH [3, 9, 14] lJ O (fM 0 O lJ O (jF 1 O lJ O (eP 2 O lJ 28 aj O ah O (iD 3 O lJ (fun W hW => jk ay O ((Kp.h hW)).get.2 O) (iE 4 O lJ (fun _ => fA O O) ?_)))))
    refine rO 5 O O (by kernel_rfl) (by kernel_rfl) lJ (iO O) (fun h19 => ?_) (fun h19 => ?_)
    · (try simp only [aG] at h19)
      have hc3 : s.cls = 3 := h19
      refine bQ 6 O O O (by kernel_rfl) (by kernel_rfl) lJ (fun _ => oh O) (iO O) ?_
      refine bQ 7 O O O (by kernel_rfl) (by kernel_rfl) lJ (fun _ => XL O) (iO O) ?_
      refine bQ 8 O O O (by kernel_rfl) (by kernel_rfl) lJ (fun _ => xH 32 aj O O aN (by decide) O rfl) (iO O) ?_
      refine jW 9 O O O (by kernel_rfl) (by kernel_rfl) lJ (by decide) (fun W hW => fB (dG bn O) O (iP ((Kp.h hW)).get.2 O)) (iO O) ?_
      refine iE 10 O lJ (fun _ => oP O O) (fM 11 O lJ O (jF 12 O lJ O (eP 13 O lJ 33 aj O bU O (iD 14 O lJ (fun W hW => jk aV O ((Kp.h hW)).get.2 O) (iE 15 O lJ (fun _ => fV ((Gj.f9).aJ) aV O) (iE 16 O lJ (fun _ => fZ O O) (iE 17 O lJ (fun _ => eH O) (iE 18 O lJ (fun _ => eH O) (oH (aZ (bT O (cO O (nS O (fun h20 => ?_) (fun h20 => ?_))))))))))))))
      · (try simp only [aG] at h20)
        have hwh : s.whole = true := h20
        have hty : s.typed = true := by unfold aX.typed; rw [hc3, hwh]; rfl
        refine bJ (cO O (bJ (dM O (bJ (bg 0 aj O aU O (bJ (bg 10 aK O aN O (bJ (dQ bn O (Gj).get.2 O (mQ O O ?_))))))))))
        have hwo := GZ (Gj.f11)
        have alk := Gj.f11.right
        have HW0 := V.LY (c := s.was) (u := [rW, rX, rY, rZ, su, sD, sH, sJ, sK, sN, sO]) alk hwo
        obtain ⟨s1, yH, HS1⟩ : ∃ s1, s1 = s.lT ∧ V w0 (w3.drew) (gQ e s1 • F) := ⟨_, hs1, V.iC (hs1 ▸ CV gB) dF HW0.f11.f11.f11.f11.f11.f11.f11.f11.f11.f11⟩
        have hr1 : s1.c.run = s.c.run := by rw [yH]; unfold aX.lT; split <;> rfl
        refine fH O func48 (tq HS1) ?_
        rintro _ w45 Ut
        obtain ⟨on, hon, HZ⟩ : ∃ on, (s.typed && s.c.run) = on ∧ V w0 w45 (gQ e (s1.dH on) • F) := ⟨_, by rw [hty]; rfl, Ut⟩
        refine uV ?_
        obtain ⟨vC, wF, wG, xC, wH, wI, wJ, wK, vF, rW, rX, rY, rZ, su, sD, sH, sJ, sK, sN, sO, gB, dF, kK, gG⟩ := (HZ).Gs
        refine aF (ku O O (nS O (fun h21 => ?_) (fun h21 => ?_)))
        · (try simp only [aG] at h21)
          have hw2 : s.whole = true := h21
          refine bJ (cO O (bJ (nS O (fun h22 => ?_) (fun h22 => ?_))))
          · (try simp only [aG] at h22)
            have hrun : (s.typed && (!s.put.isEmpty || s.c.run)) = true := by first | exact absurd (hw2.symm.trans hwh) (by decide) | (rw [yR, decide_eq_false (show ¬ s.put.length = 0 by omega), hty]; rfl)
            refine dB (dB (dB (dB (dB (bJ (mQ O O (mQ O O (dM O (bg 0 aj O aU O (bg 10 aK O aN O (aH (ig 10 gG aN) ?_)))))))))))
            rintro _ w47 H47
            refine qG O (kY O O (bg 28 aj O ah O (dQ ay O (H47).get.2 O (dM O (bg 0 aj O aU O (bg 6 aK O ah O (aH (ig 6 H47 ah) ?_)))))))
            rintro _ w48 H48
            refine uV (bT O (dM O (bg 28 aj O ah O (dQ ay O (H48).get.2 O (aT (fF O O) (jo O (fun h23 => ?_) (fun h23 => ?_)))))))
            · (try simp only [aG] at h23)
              have CW := pW yH hon hrun h23
              refine aF (ku O O (dM O (bg 0 aj O aU O (bg 7 aK O ah O (aH (ig 7 H48 ah) ?_)))))
              rintro _ w49 H49
              refine dM O (bg 0 aj O aU O (bg 8 aK O ah O (aH (ig 8 H49 ah) ?_)))
              rintro _ w50 H50
              refine iR (jE O (dO jy O ?_))
              refine ⟨O, ?_⟩
              first
                | exact absurd (hw2.symm.trans hwh) (by decide)
                | exact absurd (hwh.symm.trans hw2) (by decide)
                | (rw [CW]; exact V.iC gB dF H50.f11.f11.f11.f11.f11.f11.f11.f11.f11.f11.f11)
            · (try simp only [aG] at h23)
              have CW := oG yH hon hrun h23
              refine gX (jE O (dO jy O ?_))
              refine ⟨O, ?_⟩
              first
                | exact absurd (hw2.symm.trans hwh) (by decide)
                | exact absurd (hwh.symm.trans hw2) (by decide)
                | (rw [CW]; exact V.iC gB dF H48.f11.f11.f11.f11.f11.f11.f11.f11.f11.f11.f11)
          · (try simp only [aG] at h22)
            have hrun : (s.typed && (!s.put.isEmpty || s.c.run)) = (s1.dH on).c.run := by first | exact absurd (hw2.symm.trans hwh) (by decide) | (rw [yR, decide_eq_true (show s.put.length = 0 by omega), hty, IC, hr1]; rfl)
            refine bJ (cO O (bJ (dM O (bJ (bg 0 aj O aU O (bJ (bg 10 aK O aN O (bJ (dQ bn O (gG).get.2 O (bJ (kP O O (mQ O O (dM O (bg 0 aj O aU O (bg 10 aK O aN O (aH (ig 10 gG aN) ?_))))))))))))))))
            rintro _ w51 H51
            refine qG O (kY O O (bg 28 aj O ah O (dQ ay O (H51).get.2 O (dM O (bg 0 aj O aU O (bg 6 aK O ah O (aH (ig 6 H51 ah) ?_)))))))
            rintro _ w52 H52
            refine uV (bT O (dM O (bg 28 aj O ah O (dQ ay O (H52).get.2 O (aT (fF O O) (jo O (fun h24 => ?_) (fun h24 => ?_)))))))
            · (try simp only [aG] at h24)
              have CW := pW yH hon hrun h24
              refine aF (ku O O (dM O (bg 0 aj O aU O (bg 7 aK O ah O (aH (ig 7 H52 ah) ?_)))))
              rintro _ w53 H53
              refine dM O (bg 0 aj O aU O (bg 8 aK O ah O (aH (ig 8 H53 ah) ?_)))
              rintro _ w54 H54
              refine iR (jE O (dO jy O ?_))
              refine ⟨O, ?_⟩
              first
                | exact absurd (hw2.symm.trans hwh) (by decide)
                | exact absurd (hwh.symm.trans hw2) (by decide)
                | (rw [CW]; exact V.iC gB dF H54.f11.f11.f11.f11.f11.f11.f11.f11.f11.f11.f11)
            · (try simp only [aG] at h24)
              have CW := oG yH hon hrun h24
              refine gX (jE O (dO jy O ?_))
              refine ⟨O, ?_⟩
              first
                | exact absurd (hw2.symm.trans hwh) (by decide)
                | exact absurd (hwh.symm.trans hw2) (by decide)
                | (rw [CW]; exact V.iC gB dF H52.f11.f11.f11.f11.f11.f11.f11.f11.f11.f11.f11)
        · (try simp only [aG] at h21)
          have hw2 : s.whole = false := by simpa using h21
          have hrun : (s.typed && (!s.put.isEmpty || s.c.run)) = false := by first | exact absurd (hwh.symm.trans hw2) (by decide) | (rw [hty]; rfl)
          refine dB (dB (yX (yX (yX (yX (yX (dB (kP O O (dM O (bg 0 aj O aU O (bg 10 aK O aN O (aH (ig 10 gG aN) ?_))))))))))))
          rintro _ w55 H55
          refine qG O (kY O O (bg 28 aj O ah O (dQ ay O (H55).get.2 O (dM O (bg 0 aj O aU O (bg 6 aK O ah O (aH (ig 6 H55 ah) ?_)))))))
          rintro _ w56 H56
          refine uV (bT O (dM O (bg 28 aj O ah O (dQ ay O (H56).get.2 O (aT (fF O O) (jo O (fun h25 => ?_) (fun h25 => ?_)))))))
          · (try simp only [aG] at h25)
            have CW := pW yH hon hrun h25
            refine aF (ku O O (dM O (bg 0 aj O aU O (bg 7 aK O ah O (aH (ig 7 H56 ah) ?_)))))
            rintro _ w57 H57
            refine dM O (bg 0 aj O aU O (bg 8 aK O ah O (aH (ig 8 H57 ah) ?_)))
            rintro _ w58 H58
            refine iR (jE O (dO jy O ?_))
            refine ⟨O, ?_⟩
            first
              | exact absurd (hw2.symm.trans hwh) (by decide)
              | exact absurd (hwh.symm.trans hw2) (by decide)
              | (rw [CW]; exact V.iC gB dF H58.f11.f11.f11.f11.f11.f11.f11.f11.f11.f11.f11)
          · (try simp only [aG] at h25)
            have CW := oG yH hon hrun h25
            refine gX (jE O (dO jy O ?_))
            refine ⟨O, ?_⟩
            first
              | exact absurd (hw2.symm.trans hwh) (by decide)
              | exact absurd (hwh.symm.trans hw2) (by decide)
              | (rw [CW]; exact V.iC gB dF H56.f11.f11.f11.f11.f11.f11.f11.f11.f11.f11.f11)
      · (try simp only [aG] at h20)
        have hwh : s.whole = false := by simpa using h20
        have hty : s.typed = false := by unfold aX.typed; rw [hc3, hwh]; rfl
        have hrun : (s.typed && (!s.put.isEmpty || s.c.run)) = false := by rw [hty]; rfl
        refine dB (dB (dB (dB (dB (kP O O ?_)))))
        have hwo := GZ (Gj.f11)
        have alm := Gj.f11.right
        have HW0 := V.LY (c := s.was) (u := [rW, rX, rY, rZ, su, sD, sH, sJ, sK, sN, sO]) alm hwo
        obtain ⟨s1, yH, HS1⟩ : ∃ s1, s1 = s.lT ∧ V w0 (w3.drew) (gQ e s1 • F) := ⟨_, hs1, V.iC (hs1 ▸ CV gB) dF HW0.f11.f11.f11.f11.f11.f11.f11.f11.f11.f11⟩
        have hr1 : s1.c.run = s.c.run := by rw [yH]; unfold aX.lT; split <;> rfl
        refine fH O func48 (tq HS1) ?_
        rintro _ w60 H60
        obtain ⟨on, hon, HZ⟩ : ∃ on, (s.typed && s.c.run) = on ∧ V w0 w60 (gQ e (s1.dH on) • F) := ⟨_, by rw [hty]; rfl, H60⟩
        refine uV ?_
        obtain ⟨vC, wF, wG, xC, wH, wI, wJ, wK, vF, rW, rX, rY, rZ, su, sD, sH, sJ, sK, sN, sO, gB, dF, kK, gG⟩ := (HZ).Gs
        refine aF (ku O O (nS O (fun h26 => ?_) (fun h26 => ?_)))
        · (try simp only [aG] at h26)
          have hw2 : s.whole = true := h26
          refine bJ (cO O (bJ (nS O (fun h27 => ?_) (fun h27 => ?_))))
          · (try simp only [aG] at h27)
            have hrun : (s.typed && (!s.put.isEmpty || s.c.run)) = true := by first | exact absurd (hw2.symm.trans hwh) (by decide) | (rw [yR, decide_eq_false (show ¬ s.put.length = 0 by omega), hty]; rfl)
            refine dB (dB (dB (dB (dB (bJ (mQ O O (mQ O O (dM O (bg 0 aj O aU O (bg 10 aK O aN O (aH (ig 10 gG aN) ?_)))))))))))
            rintro _ w62 H62
            refine qG O (kY O O (bg 28 aj O ah O (dQ ay O (H62).get.2 O (dM O (bg 0 aj O aU O (bg 6 aK O ah O (aH (ig 6 H62 ah) ?_)))))))
            rintro _ w63 H63
            refine uV (bT O (dM O (bg 28 aj O ah O (dQ ay O (H63).get.2 O (aT (fF O O) (jo O (fun h28 => ?_) (fun h28 => ?_)))))))
            · (try simp only [aG] at h28)
              have CW := pW yH hon hrun h28
              refine aF (ku O O (dM O (bg 0 aj O aU O (bg 7 aK O ah O (aH (ig 7 H63 ah) ?_)))))
              rintro _ w64 H64
              refine dM O (bg 0 aj O aU O (bg 8 aK O ah O (aH (ig 8 H64 ah) ?_)))
              rintro _ w65 H65
              refine iR (jE O (dO jy O ?_))
              refine ⟨O, ?_⟩
              first
                | exact absurd (hw2.symm.trans hwh) (by decide)
                | exact absurd (hwh.symm.trans hw2) (by decide)
                | (rw [CW]; exact V.iC gB dF H65.f11.f11.f11.f11.f11.f11.f11.f11.f11.f11.f11)
            · (try simp only [aG] at h28)
              have CW := oG yH hon hrun h28
              refine gX (jE O (dO jy O ?_))
              refine ⟨O, ?_⟩
              first
                | exact absurd (hw2.symm.trans hwh) (by decide)
                | exact absurd (hwh.symm.trans hw2) (by decide)
                | (rw [CW]; exact V.iC gB dF H63.f11.f11.f11.f11.f11.f11.f11.f11.f11.f11.f11)
          · (try simp only [aG] at h27)
            have hrun : (s.typed && (!s.put.isEmpty || s.c.run)) = (s1.dH on).c.run := by first | exact absurd (hw2.symm.trans hwh) (by decide) | (rw [yR, decide_eq_true (show s.put.length = 0 by omega), hty, IC, hr1]; rfl)
            refine bJ (cO O (bJ (dM O (bJ (bg 0 aj O aU O (bJ (bg 10 aK O aN O (bJ (dQ bn O (gG).get.2 O (bJ (kP O O (mQ O O (dM O (bg 0 aj O aU O (bg 10 aK O aN O (aH (ig 10 gG aN) ?_))))))))))))))))
            rintro _ w66 H66
            refine qG O (kY O O (bg 28 aj O ah O (dQ ay O (H66).get.2 O (dM O (bg 0 aj O aU O (bg 6 aK O ah O (aH (ig 6 H66 ah) ?_)))))))
            rintro _ w67 H67
            refine uV (bT O (dM O (bg 28 aj O ah O (dQ ay O (H67).get.2 O (aT (fF O O) (jo O (fun h29 => ?_) (fun h29 => ?_)))))))
            · (try simp only [aG] at h29)
              have CW := pW yH hon hrun h29
              refine aF (ku O O (dM O (bg 0 aj O aU O (bg 7 aK O ah O (aH (ig 7 H67 ah) ?_)))))
              rintro _ w68 H68
              refine dM O (bg 0 aj O aU O (bg 8 aK O ah O (aH (ig 8 H68 ah) ?_)))
              rintro _ w69 H69
              refine iR (jE O (dO jy O ?_))
              refine ⟨O, ?_⟩
              first
                | exact absurd (hw2.symm.trans hwh) (by decide)
                | exact absurd (hwh.symm.trans hw2) (by decide)
                | (rw [CW]; exact V.iC gB dF H69.f11.f11.f11.f11.f11.f11.f11.f11.f11.f11.f11)
            · (try simp only [aG] at h29)
              have CW := oG yH hon hrun h29
              refine gX (jE O (dO jy O ?_))
              refine ⟨O, ?_⟩
              first
                | exact absurd (hw2.symm.trans hwh) (by decide)
                | exact absurd (hwh.symm.trans hw2) (by decide)
                | (rw [CW]; exact V.iC gB dF H67.f11.f11.f11.f11.f11.f11.f11.f11.f11.f11.f11)
        · (try simp only [aG] at h26)
          have hw2 : s.whole = false := by simpa using h26
          have hrun : (s.typed && (!s.put.isEmpty || s.c.run)) = false := by first | exact absurd (hwh.symm.trans hw2) (by decide) | (rw [hty]; rfl)
          refine dB (dB (yX (yX (yX (yX (yX (dB (kP O O (dM O (bg 0 aj O aU O (bg 10 aK O aN O (aH (ig 10 gG aN) ?_))))))))))))
          rintro _ w70 H70
          refine qG O (kY O O (bg 28 aj O ah O (dQ ay O (H70).get.2 O (dM O (bg 0 aj O aU O (bg 6 aK O ah O (aH (ig 6 H70 ah) ?_)))))))
          rintro _ w71 H71
          refine uV (bT O (dM O (bg 28 aj O ah O (dQ ay O (H71).get.2 O (aT (fF O O) (jo O (fun h30 => ?_) (fun h30 => ?_)))))))
          · (try simp only [aG] at h30)
            have CW := pW yH hon hrun h30
            refine aF (ku O O (dM O (bg 0 aj O aU O (bg 7 aK O ah O (aH (ig 7 H71 ah) ?_)))))
            rintro _ w72 H72
            refine dM O (bg 0 aj O aU O (bg 8 aK O ah O (aH (ig 8 H72 ah) ?_)))
            rintro _ w73 H73
            refine iR (jE O (dO jy O ?_))
            refine ⟨O, ?_⟩
            first
              | exact absurd (hw2.symm.trans hwh) (by decide)
              | exact absurd (hwh.symm.trans hw2) (by decide)
              | (rw [CW]; exact V.iC gB dF H73.f11.f11.f11.f11.f11.f11.f11.f11.f11.f11.f11)
          · (try simp only [aG] at h30)
            have CW := oG yH hon hrun h30
            refine gX (jE O (dO jy O ?_))
            refine ⟨O, ?_⟩
            first
              | exact absurd (hw2.symm.trans hwh) (by decide)
              | exact absurd (hwh.symm.trans hw2) (by decide)
              | (rw [CW]; exact V.iC gB dF H71.f11.f11.f11.f11.f11.f11.f11.f11.f11.f11.f11)
    · (try simp only [aG] at h19)
      have hty : s.typed = false := by unfold aX.typed; rw [beq_false_of_ne h19]; rfl
      have hrun : (s.typed && (!s.put.isEmpty || s.c.run)) = false := by rw [hty]; rfl
      refine jB 6 O O O O (by kernel_rfl) (by kernel_rfl) lJ (iO O) ?_
      refine jB 7 O O O O (by kernel_rfl) (by kernel_rfl) lJ (iO O) ?_
      refine jB 8 O O O O (by kernel_rfl) (by kernel_rfl) lJ (iO O) ?_
      refine jB 9 O O O O (by kernel_rfl) (by kernel_rfl) lJ (iO O) ?_
      refine iE 10 O lJ (fun _ => y5 O O) (fM 11 O lJ O (jF 12 O lJ O (eP 13 O lJ 33 aj O bU O (iD 14 O lJ (fun W hW => jk aV O ((Kp.h hW)).get.2 O) (iE 15 O lJ (fun _ => fV ((Gj.f9).aJ) aV O) (iE 16 O lJ (fun _ => fZ O O) (iE 17 O lJ (fun _ => eH O) (iE 18 O lJ (fun _ => eH O) (oH (aZ (bT O (ku O O (dB (dB (dB (dB (dB (kP O O ?_))))))))))))))))))
      have hwo := GZ (Gj.f11)
      have aln := Gj.f11.right
      have HW0 := V.LY (c := s.was) (u := [rW, rX, rY, rZ, su, sD, sH, sJ, sK, sN, sO]) aln hwo
      obtain ⟨s1, yH, HS1⟩ : ∃ s1, s1 = s.lT ∧ V w0 (w3.drew) (gQ e s1 • F) := ⟨_, hs1, V.iC (hs1 ▸ CV gB) dF HW0.f11.f11.f11.f11.f11.f11.f11.f11.f11.f11⟩
      have hr1 : s1.c.run = s.c.run := by rw [yH]; unfold aX.lT; split <;> rfl
      refine fH O func48 (tq HS1) ?_
      rintro _ w75 H75
      obtain ⟨on, hon, HZ⟩ : ∃ on, (s.typed && s.c.run) = on ∧ V w0 w75 (gQ e (s1.dH on) • F) := ⟨_, by rw [hty]; rfl, H75⟩
      refine uV ?_
      obtain ⟨vC, wF, wG, xC, wH, wI, wJ, wK, vF, rW, rX, rY, rZ, su, sD, sH, sJ, sK, sN, sO, gB, dF, kK, gG⟩ := (HZ).Gs
      refine aF (ku O O (cO O (dB (dB (yX (yX (yX (yX (yX (dB (kP O O (dM O (bg 0 aj O aU O (bg 10 aK O aN O (aH (ig 10 gG aN) ?_)))))))))))))))
      rintro _ w77 H77
      refine qG O (kY O O (bg 28 aj O ah O (dQ ay O (H77).get.2 O (dM O (bg 0 aj O aU O (bg 6 aK O ah O (aH (ig 6 H77 ah) ?_)))))))
      rintro _ w78 H78
      refine uV (bT O (dM O (bg 28 aj O ah O (dQ ay O (H78).get.2 O (aT (fF O O) (jo O (fun h31 => ?_) (fun h31 => ?_)))))))
      · (try simp only [aG] at h31)
        have CW := pW yH hon hrun h31
        refine aF (ku O O (dM O (bg 0 aj O aU O (bg 7 aK O ah O (aH (ig 7 H78 ah) ?_)))))
        rintro _ w79 H79
        refine dM O (bg 0 aj O aU O (bg 8 aK O ah O (aH (ig 8 H79 ah) ?_)))
        rintro _ w80 H80
        refine iR (jE O (dO jy O ?_))
        refine ⟨O, ?_⟩
        first
          | exact absurd (hw2.symm.trans hwh) (by decide)
          | exact absurd (hwh.symm.trans hw2) (by decide)
          | (rw [CW]; exact V.iC gB dF H80.f11.f11.f11.f11.f11.f11.f11.f11.f11.f11.f11)
      · (try simp only [aG] at h31)
        have CW := oG yH hon hrun h31
        refine gX (jE O (dO jy O ?_))
        refine ⟨O, ?_⟩
        first
          | exact absurd (hw2.symm.trans hwh) (by decide)
          | exact absurd (hwh.symm.trans hw2) (by decide)
          | (rw [CW]; exact V.iC gB dF H78.f11.f11.f11.f11.f11.f11.f11.f11.f11.f11.f11)
theorem Kz {s : aX} {x : Int} (hin : s.inn = true) (hx : x ≠ 0) : s.nZ x = s.DV ∧ s.Gg x = x := by
  unfold aX.nZ aX.Gg
  rw [if_pos hin, if_neg hx, if_pos hin]; exact ⟨rfl, rfl⟩
theorem aaI {s : aX} (h : ru s) (hin : s.inn = true) : ru s.DV := by
  obtain ⟨h1, h2, h3⟩ := h.2.1 hin
  exact ⟨h1, fun h => Bool.noConfusion h, ⟨by show (-1 : Int) ≤ -1; decide, by show (-1 : Int) ≤ 1000000; decide⟩, by simp [aX.DV], h2, h3⟩
theorem aaJ (hin : s.inn = true) (hx : x ≠ 0) (H : V w0 w (gQ e s • F)) : iK prog 9 #[.pointer (some ⟨e, 0, none⟩), .int .i64 x] w fun v w' => v = .int .i64 x ∧ V w0 w' (gQ e s.DV • F) := by
 have hpe : s.wB = 0 := by unfold aX.wB; rw [if_pos hin]
 refine nO func9 ntmps9 ?_
 refine kG O (aI (bT O (fH O qF (jY H) ?_)))
 rintro _ _ ⟨rfl, rfl⟩
 refine iU O (bT O (aT (fF O O) (jo O (fun h => by exfalso; (try simp only [aG] at h); exact h hpe) (fun h1 => ?_))))
 (try simp only [aG] at h1)
 refine gX (aI ?_)
 obtain ⟨vC, wF, wG, xC, wH, wI, wJ, wK, vF, rW, rX, rY, rZ, su, sD, sH, sJ, sK, sN, sO, gB, dF, kK, gG⟩ := (H).Gs
 have HI := gG
 rw [hin] at HI
 obtain ⟨qb, qr, qw, qt, qm, hu, HW⟩ := (HI.f11).was
 simp only [YI, List.cons.injEq, and_true] at hu
 obtain ⟨rfl, rfl, rfl, rfl, rfl, rfl, rfl, rfl, rfl, rfl, rfl⟩ := hu
 refine aF (kY O O (bg 16 aj O aN O (aH (ig 16 HW.f6 aN) ?_)))
 rintro _ w3 H3
 refine uV (bT O (dM O (bg 31 aj O aN O (dQ bn O (H3).get.2 O (aT (jG O) (nS O (fun h2 => ?_) (fun h2 => ?_)))))))
 ·(try simp only [aG] at h2)
  refine dB (dB (mQ O O (iR (DZ (aF (ku O O (kY O O (bg 13 aj O aN O (aH (ig 13 H3 aN) ?_)))))))))
  rintro _ w4 H4
  refine dM O (bg 14 aj O aN O (aH (ig 14 H4 aN) ?_))
  rintro _ w5 H5
  refine dM O (bg 15 aj O ah O (aH (ig 15 H5 ah) ?_))
  rintro _ w6 H6
  refine uV (bT O (aT (fF O O) (jo O (fun h3 => ?_) (fun h => by exfalso; (try simp only [aG] at h); exact hx h))))
  (try simp only [aG] at h3)
  refine bT O (kY O O (bg 17 aj O aU O (aT (yj 17 (xs := [_, _, _, _, _, _, _, _, _, _, _]) aK O aU O O (H6).get.2 O) (dM O (bg 0 aj O aU O (aH (dR 0 (l' := [_, _, _, _, _, _, _, _, _, _, _, _, _, _, _, _, _, _, _, _, _, _, _, _, _, _, _, _, _, _, _, _, _, _]) (us := [_, _, _, _, _, _, _, _, _, _, _]) H6 aU O O O (aP (aP (aP (aP (aP (aP (aP (aP (aP (aP (aP bW))))))))))) O O) ?_))))))
  rintro _ w7 H7
  refine qG O (dM O (bg 12 aj O sizeOf83 O (dQ underlying83 O (H7).get.2 O (fH O func47 (Ns H7.f13) ?_))))
  rintro _ w8 ⟨rfl, H8⟩
  refine qG O (ku O O (kY O O (bg 0 aj O aU O (bg 6 aK O ah O (aH (ig 6 H8.f2 ah) ?_)))))
  rintro _ w9 H9
  refine dM O (bg 0 aj O aU O (bg 7 aK O ah O (aH (ig 7 H9 ah) ?_)))
  rintro _ w10 rU
  refine dM O (bg 0 aj O aU O (bg 8 aK O ah O (aH (ig 8 rU ah) ?_)))
  rintro _ Ii rE
  refine dM O (bg 33 aj O bU O (aH (ig 33 rE bU) ?_))
  rintro _ w12 uP
  refine qG O (iJ O (aC (dO jy O ?_)))
  exact ⟨O, V.aaC (s := s.DV) (aaI gB hin) O O uP.f8.right.f8.right.f8.right.f8.right.f8.right.f9.right.f9.right.f2.f8.f8.f8.f8.f8.f8.f8⟩
 ·(try simp only [aG] at h2)
  refine bJ (cO O (bJ (aT (fF O O) (kP O O (jo O (fun h4 => ?_) (fun h => by exfalso; (try simp only [aG] at h); exact hx h))))))
  (try simp only [aG] at h4)
  refine aF (ku O O (kY O O (bg 13 aj O aN O (aH (ig 13 H3 aN) ?_))))
  rintro _ P7 AZ
  refine dM O (bg 14 aj O aN O (aH (ig 14 AZ aN) ?_))
  rintro _ O9 BJ
  refine dM O (bg 15 aj O ah O (aH (ig 15 BJ ah) ?_))
  rintro _ Ry CJ
  refine uV (bT O (aT (fF O O) (jo O (fun h5 => ?_) (fun h => by exfalso; (try simp only [aG] at h); exact hx h))))
  (try simp only [aG] at h5)
  refine bT O (kY O O (bg 17 aj O aU O (aT (yj 17 (xs := [_, _, _, _, _, _, _, _, _, _, _]) aK O aU O O (CJ).get.2 O) (dM O (bg 0 aj O aU O (aH (dR 0 (l' := [_, _, _, _, _, _, _, _, _, _, _, _, _, _, _, _, _, _, _, _, _, _, _, _, _, _, _, _, _, _, _, _, _, _]) (us := [_, _, _, _, _, _, _, _, _, _, _]) CJ aU O O O (aP (aP (aP (aP (aP (aP (aP (aP (aP (aP (aP bW))))))))))) O O) ?_))))))
  rintro _ w16 yG
  refine qG O (dM O (bg 12 aj O sizeOf83 O (dQ underlying83 O (yG).get.2 O (fH O func47 (Ns yG.f13) ?_))))
  rintro _ ZI ⟨rfl, DL⟩
  refine qG O (ku O O (kY O O (bg 0 aj O aU O (bg 6 aK O ah O (aH (ig 6 DL.f2 ah) ?_)))))
  rintro _ U5 DN
  refine dM O (bg 0 aj O aU O (bg 7 aK O ah O (aH (ig 7 DN ah) ?_)))
  rintro _ X9 Df
  refine dM O (bg 0 aj O aU O (bg 8 aK O ah O (aH (ig 8 Df ah) ?_)))
  rintro _ ZJ DR
  refine dM O (bg 33 aj O bU O (aH (ig 33 DR bU) ?_))
  rintro _ Ya xZ
  refine qG O (iJ O (aC (dO jy O ?_)))
  exact ⟨O, V.aaC (s := s.DV) (aaI gB hin) O O xZ.f8.right.f8.right.f8.right.f8.right.f8.right.f9.right.f9.right.f2.f8.f8.f8.f8.f8.f8.f8⟩
theorem E8 (H : V w0 w (gQ e s • F)) : iK prog 9 #[.pointer (some ⟨e, 0, none⟩), .int .i64 x] w fun v w' => v = .int .i64 (s.Gg x) ∧ V w0 w' (gQ e (s.nZ x) • F) := by
  by_cases hin : s.inn = true
  · by_cases hx : x = 0
    · subst hx
      rw [show s.nZ 0 = s.nY from by unfold aX.nZ; rw [if_pos hin, if_pos rfl], show s.Gg 0 = 0 from by unfold aX.Gg; rw [if_pos hin]]
      exact Y6 hin H
    · rw [(Kz hin hx).1, (Kz hin hx).2]
      exact aaJ hin hx H
  · have hin' : s.inn = false := by simpa using hin
    have hpe : s.wB = 1 := by unfold aX.wB; rw [if_neg hin]
    rw [show s.nZ x = s from by unfold aX.nZ; rw [if_neg hin], show s.Gg x = 1 from by unfold aX.Gg; rw [if_neg hin]]
    refine nO func9 ntmps9 ?_
    refine kG O (aI (bT O (fH O qF (jY H) ?_)))
    rintro _ _ ⟨rfl, rfl⟩
    refine iU O (bT O (aT (fF O O) (jo O (fun h1 => ?_) (fun h => by exfalso; (try simp only [aG] at h); rw [hpe] at h; exact absurd h (by decide)))))
    (try simp only [aG] at h1)
    refine bT O (iJ O (aC (dO jy O ?_)))
    rw [hpe]
    exact ⟨O, H⟩
end
theorem acN (G : List (List jH)) : oW G [] = if G = [] then 6 else 0 := by unfold oW; cases G <;> simp
theorem aaK {G : List (List jH)} (h : G ≠ []) : abH G [] = (G.getLastD []).reverse.map xP := by
  unfold abH rF
  rw [if_neg (by cases G <;> simp_all), if_pos rfl]
theorem WY {s : aX} (h : ru s) {G : List (List jH)} (h1 : iH G s.put ≤ iH s.here s.put) (h2 : ∀ g ∈ G, g ∈ s.here) : ru (s.lY G) := by
  obtain ⟨a1, a2, a3, a4, a5, a6⟩ := h
  refine ⟨a1, a2, a3, a4, ?_, ?_⟩
  · show iH (um s.c.un s.c.place G s.c.place) s.put ≤ 16384
    rw [jv]; omega
  · intro k g hg
    have hg' : g ∈ um s.c.un s.c.place G k := hg
    by_cases hk : k = s.c.place
    · subst hk; rw [jv] at hg'; exact a6 _ g (h2 g hg')
    · rw [zi _ _ hk] at hg'; exact a6 k g hg'
theorem OG (G : List (List jH)) (N : List jH) : iH G.dropLast N ≤ iH G N := by
  by_cases h : G = []
  · subst h; exact Nat.le_refl _
  · have := Ej h
    unfold iH; omega
theorem acO (G : List (List jH)) (N : List jH) : iH [] N ≤ iH G N := by unfold iH; simp
theorem aaL {s : aX} : s.lY s.here = s := by unfold aX.lY aX.here; rw [abI]
theorem OH (b : List Int × Int × Int) (l : List jH) (x : jH) : aX.apps b (l ++ [x]) = aX.ahK (aX.apps b l) x := by unfold aX.apps; rw [List.foldl_append]; rfl
section
variable {w0 w : World} {F : HP} {e p : Nat} {s : aX} {x : Int}
theorem Y7 (H : V w0 w (gQ e s • F)) : iK prog 104 #[.pointer (some ⟨e, 0, none⟩)] w fun v w' => v = .int .i64 s.oW ∧ V w0 w' (gQ e s.o7 • F) := by
 refine jl func104 ntmps104 ?_
 refine kG O (aI (bT O (fH O qF (jY H) ?_)))
 rintro _ _ ⟨rfl, rfl⟩
 refine iU O (bT O (aT (fF O O) (jo O (fun h1 => ?_) (fun h1 => ?_))))
 ·(try simp only [aG] at h1)
  obtain ⟨hin, hpe⟩ := uX h1
  refine bT O (iJ O (aC (dO results104 O ?_)))
  rw [hpe]
  exact ⟨by simp [aX.oW, aX.o7, hin], by rw [show s.o7 = s from by simp [aX.oW, aX.o7, hin]]; exact H⟩
 ·(try simp only [aG] at h1)
  have hin := qK h1
  refine gX (bT O (fH O func48 (tq H) ?_))
  rintro _ w2 H2
  obtain ⟨t, ht, HT⟩ : ∃ t, s.dH false = t ∧ V w0 w2 (gQ e t • F) := ⟨_, rfl, H2⟩
  obtain ⟨vC, wF, wG, xC, wH, wI, wJ, wK, vF, rW, rX, rY, rZ, su, sD, sH, sJ, sK, sN, sO, gB, dF, kK, gG⟩ := (HT).Gs
  refine qG O (fH O func111 (AO gG.f6.f5.f3) ?_)
  rintro _ w4 ⟨lp4, rfl, H4⟩
  refine fH O func114 (Gf H4) ?_
  rintro _ w5 ⟨u5, fs5, rfl, ahI, H5⟩
  obtain ⟨h9a, h9b, h9c⟩ := OE (t.c.un t.c.place)
  have HX := H5
  rw [h9a, h9b, h9c] at HX
  rw [acN]
  obtain ⟨uu, rfl⟩ : ∃ q, q = u5 := ⟨_, rfl⟩
  obtain ⟨fs, rfl⟩ : ∃ q, q = fs5 := ⟨_, rfl⟩
  have hfs := ahI
  have LP := HX.f2.f2
  have Ih := LP
  have YW := Ih.f3.f4
  have QC := V.CQ YW
  refine cO O (xY O O (xY O O (lg O (vI O (bT O (aT (fF O O) (jo O (fun h2 => ?_) (fun h2 => ?_))))))))
  ·(try simp only [aG] at h2)
   have h0 : t.here = [] := by by_cases hx : t.here = []; exact hx; exact absurd (if_neg hx) h2
   refine bT O (iJ O (aC (dO results104 O ?_)))
   have hE : s.oW = 6 := by unfold aX.oW; rw [if_pos hin, ht, if_pos h0]
   have hS : s.o7 = t.lY t.here.dropLast := by unfold aX.o7; rw [if_pos hin]; dsimp only; rw [ht, if_pos h0, h0]; exact (h0 ▸ aaL).symm
   exact ⟨by rw [hE]; show Value.int _ (if t.c.un t.c.place = [] then 6 else 0) = _; rw [if_pos (show t.c.un t.c.place = [] from h0)], by rw [hS]; exact V.iC (s := t.lY t.here.dropLast) (WY gB (OG _ _) (fun g hg => List.dropLast_subset _ hg)) dF QC.f2.right.f2.right.f11.f11.f11.f11.f11.f6.f11.f9.f11.f11.f11⟩
  ·(try simp only [aG] at h2)
   have h0 : ¬ t.here = [] := fun hx => by rw [if_pos (show t.c.un t.c.place = [] from hx)] at h2; exact absurd h2 (by decide)
   refine gX (aI (aI ?_))
   have aeF : fs.map gJ.says = (t.here.getLastD []).reverse.map xP := hfs.trans (aaK h0)
   have hfl : fs.length ≤ 16384 := by
    have h9 := congrArg List.length aeF
    rw [List.length_map, List.length_map, List.length_reverse] at h9
    have h8 := Ej h0
    have h7 : iH t.here t.put ≤ 16384 := gB.2.2.2.2.1
    unfold iH at h7
    omega
   refine aF (cO O (aT (fV ((QC.f2).aJ) aV O) (cO O (iR (bK ?_)))))
   obtain ⟨R10, ahW, ahX⟩ := V.ado (QC.f4.f4.f4.f6)
   refine jh [(0, _), (24, _), (25, _)] (fun (i : Nat) => [(26, .int .i64 (i : Int))]) (fun (i : Nat) W => i ≤ fs.length ∧ V w0 W (jC vC (aX.apps (t.c.L, t.c.pt, t.c.mark) ((fs.take i).map gJ.says)).1 (aX.apps (t.c.L, t.c.pt, t.c.mark) ((fs.take i).map gJ.says)).2.1 (aX.apps (t.c.L, t.c.pt, t.c.mark) ((fs.take i).map gJ.says)).2.2 • Row 143 3 uu fs.length (fs.flatMap gJ.enc) • oK fs • gU e (.cells (.pointer (some ⟨vC, 0, none⟩) :: .pointer (some ⟨wF, 0, none⟩) :: .pointer (some ⟨wG, 0, none⟩) :: .map (some wH) :: .int .i64 t.c.mode :: .bool t.c.over :: .int .i64 t.c.last :: .int .i64 t.c.fr :: .int .i64 t.c.to :: .int .i64 t.c.res :: .bool t.c.run :: .pointer (some ⟨wI, 0, none⟩) :: .pointer (some ⟨wJ, 0, none⟩) :: .bool t.given :: .bool t.minus :: .int .i64 t.arg :: .bool t.inn :: rW :: rX :: rY :: rZ :: su :: sD :: sH :: sJ :: sK :: sN :: sO :: .int .i64 t.cls :: .bool t.lS :: .bool t.jc :: .bool t.argues :: .bool t.whole :: wK :: []).toArray 85 (0, 0)) • R10)) (fun (i : Nat) => fs.length - i) (0) DK rJ ⟨by omega, ahX⟩ ?_
   rintro i Ii ⟨hi, HL⟩
   dsimp only [List.cons_append, List.nil_append]
   refine kQ (aT (fJ O O) (uV (dw O (fun h3 => ?_) (fun h3 => ?_))))
   ·(try simp only [aG] at h3)
    refine gX (aI (bK (kQ ?_)))
    obtain ⟨buu, ouu, cuu, euu⟩ := Rd.qX ((HL.f2).aJ) (by omega)
    cases euu
    refine aT (dP aV bM O O (by omega)) (aT (mF (ys := [_, _, _]) ((HL.f2).aJ) (by omega) aQ O bM O (mY gJ.Ah (by omega) default) O) ?_)
    have hkl : i < fs.length := by omega
    refine jT (iI (l := [_, _, _]) HL cZ O) ?_
    rintro _ w12 ⟨b12, rfl, uP⟩
    refine aH (dR 0 (l' := [_, _, _]) (us := [_, _, _]) uP bM O O O (aP (bD (by first | rfl | exact Rd.one (((uP.f4).qE hkl).1)) (bD (by first | rfl | exact Rd.one (((uP.f4).qE hkl).2)) bW))) O O) ?_
    rintro _ P7 AZ
    refine iR ?_
    have aeG := AZ.drew
    have IE := V.kp (aeG.f5.f5.f5.f5.f5)
    refine tH [4, 5] IE O (fM 0 O IE O (jF 1 O IE O (eP 2 O IE 0 aj O aU O (eP 3 O IE 0 aK O kM O (iD 4 O IE (fun W hW => jk iL O ((Kp.h hW).f5).get.2 O) (iD 5 O IE (fun W hW => dU aQ O bM O O ((Kp.h hW)).get.2) (lC 6 O (qW O func158 (KU aeG.f2 (fun W HW => ((HW.f3).qE hkl).1) (fun W HW => ((HW.f3).qE hkl).2))) ?_)))))))
    rintro _ O9 ⟨rfl, BJ⟩
    have JD := V.kp (BJ.f5.f5.f5.f5.f5)
    refine dX JD (by kernel_rfl) ?_
    refine oH (aS (aZ (aF (aT (gY O O (by omega)) (cO O (dJ ?_))))))
    refine fG (i + 1) ?_ ?_ ?_ ?_
    ·exact rJ
    ·exact DK
    ·(try dsimp only)
     first | done | exact ⟨by omega, by rw [Hf hkl, OH]; exact BJ.f2.right.f4.f4.f4.f4⟩
    ·(try dsimp only); omega
   ·(try simp only [aG] at h3)
    refine iZ (bC ?_)
    have hil : i = fs.length := by omega
    have HB := HL
    rw [hil, List.take_length] at HB
    subst ahW
    refine bC (dK (aZ (bT O (kY O O (bg 32 aj O aN O (aH (ig 32 HB.f4 aN) ?_))))))
    rintro _ Ry CJ
    refine dM O (bg 0 aj O aU O (bg 10 aK O aN O (aH (ig 10 CJ aN) ?_)))
    rintro _ w16 yG
    refine iR (jE O (dO results104 O ?_))
    rw [aeF] at yG
    have hE : s.oW = 0 := by unfold aX.oW; rw [if_pos hin, ht, if_neg h0]
    have hS : s.o7 = ((t.lY t.here.dropLast).Dx ((t.here.getLastD []).reverse.map xP)).wC := by unfold aX.o7; rw [if_pos hin]; dsimp only; rw [ht, if_neg h0]
    exact ⟨by rw [hE], by rw [hS]; exact V.iC (s := ((t.lY t.here.dropLast).Dx ((t.here.getLastD []).reverse.map xP)).wC) (WY gB (OG _ _) (fun g hg => List.dropLast_subset _ hg)) dF yG.f3.right.f3.right.f11.f11.f11.f11.f11.f8.f11.f10.f11.f11.f11⟩
theorem aaM (H : V w0 w (gQ e s • F)) : iK prog 106 #[.pointer (some ⟨e, 0, none⟩)] w fun v w' => v = .int .i64 s.oW ∧ V w0 w' (gQ e s.GN • F) := by
 refine jl func106 ntmps106 ?_
 refine kG O (aI (bT O (fH O qF (jY H) ?_)))
 rintro _ _ ⟨rfl, rfl⟩
 refine iU O (bT O (aT (fF O O) (jo O (fun h1 => ?_) (fun h1 => ?_))))
 ·(try simp only [aG] at h1)
  obtain ⟨hin, hpe⟩ := uX h1
  refine bT O (iJ O (aC (dO results106 O ?_)))
  rw [hpe]
  exact ⟨by simp [aX.oW, aX.GN, hin], by rw [show s.GN = s from by simp [aX.oW, aX.GN, hin]]; exact H⟩
 ·(try simp only [aG] at h1)
  have hin := qK h1
  refine gX (bT O (fH O func48 (tq H) ?_))
  rintro _ w2 H2
  obtain ⟨t, ht, HT⟩ : ∃ t, s.dH false = t ∧ V w0 w2 (gQ e t • F) := ⟨_, rfl, H2⟩
  obtain ⟨vC, wF, wG, xC, wH, wI, wJ, wK, vF, rW, rX, rY, rZ, su, sD, sH, sJ, sK, sN, sO, gB, dF, kK, gG⟩ := (HT).Gs
  refine uV (bT O (fH O func111 (AO gG.f6.f5.f3) ?_))
  rintro _ w4 ⟨lp4, rfl, H4⟩
  refine fH O func142 (Nk H4) ?_
  rintro _ w5 ⟨rfl, H5⟩
  have LP := H5.f2
  have Ih := V.Nr LP
  refine aT (fA O O) (jo O (fun h2 => ?_) (fun h2 => ?_))
  ·(try simp only [aG] at h2)
   have h0 : t.here = [] := by simp at h2; exact h2
   refine jE O (aC (dO results106 O ?_))
   have hE : s.oW = 6 := by unfold aX.oW; rw [if_pos hin, ht, if_pos h0]
   have hS : s.GN = t := by unfold aX.GN; rw [if_pos hin]; dsimp only; rw [ht, if_pos h0]
   exact ⟨by rw [hE], by rw [hS]; exact V.iC gB dF Ih.f11.f11.f11.f11.f11.f6.f11.f9.f11.f11.f11⟩
  ·(try simp only [aG] at h2)
   have h0 : ¬ t.here = [] := fun hx => by rw [show t.c.un t.c.place = [] from hx] at h2; simp at h2
   refine gX (aI (bT O (fH O func111 (AO Ih.f3.f3) ?_)))
   rintro _ w8 ⟨lp8, rfl, H8⟩
   refine fH O func160 (Qg H8) ?_
   rintro u9 w9 ⟨fs9, ahU, H9⟩
   obtain ⟨uu, rfl⟩ : ∃ q, q = u9 := ⟨_, rfl⟩
   obtain ⟨fs, rfl⟩ : ∃ q, q = fs9 := ⟨_, rfl⟩
   have hfs := ahU
   have Iy := H9.f2.f2
   have GK := Iy
   have WS := GK.f3.f4
   have Uu := V.CQ WS
   have aeF : fs.map gJ.says = t.here.flatten.reverse.map xP := by rw [hfs]; unfold ahH rF; rw [if_pos rfl]; rfl
   have hfl : fs.length ≤ 16384 := by
    have h9 := congrArg List.length aeF
    rw [List.length_map, List.length_map, List.length_reverse, List.length_flatten] at h9
    have h7 : iH t.here t.put ≤ 16384 := gB.2.2.2.2.1
    unfold iH at h7
    omega
   refine aT (fV ((Uu.f2).aJ) aV O) (cO O (iR (bK ?_)))
   obtain ⟨R14, alo, alp⟩ := V.ado (Uu.f4.f4.f4.f6)
   refine jh [(0, _), (19, _), (20, _)] (fun (i : Nat) => [(21, .int .i64 (i : Int))]) (fun (i : Nat) W => i ≤ fs.length ∧ V w0 W (jC vC (aX.apps (t.c.L, t.c.pt, t.c.mark) ((fs.take i).map gJ.says)).1 (aX.apps (t.c.L, t.c.pt, t.c.mark) ((fs.take i).map gJ.says)).2.1 (aX.apps (t.c.L, t.c.pt, t.c.mark) ((fs.take i).map gJ.says)).2.2 • Row 143 3 uu fs.length (fs.flatMap gJ.enc) • oK fs • gU e (.cells (.pointer (some ⟨vC, 0, none⟩) :: .pointer (some ⟨wF, 0, none⟩) :: .pointer (some ⟨wG, 0, none⟩) :: .map (some wH) :: .int .i64 t.c.mode :: .bool t.c.over :: .int .i64 t.c.last :: .int .i64 t.c.fr :: .int .i64 t.c.to :: .int .i64 t.c.res :: .bool t.c.run :: .pointer (some ⟨wI, 0, none⟩) :: .pointer (some ⟨wJ, 0, none⟩) :: .bool t.given :: .bool t.minus :: .int .i64 t.arg :: .bool t.inn :: rW :: rX :: rY :: rZ :: su :: sD :: sH :: sJ :: sK :: sN :: sO :: .int .i64 t.cls :: .bool t.lS :: .bool t.jc :: .bool t.argues :: .bool t.whole :: wK :: []).toArray 85 (0, 0)) • R14)) (fun (i : Nat) => fs.length - i) (0) DK rJ ⟨by omega, alp⟩ ?_
   rintro i Ry ⟨hi, HL⟩
   dsimp only [List.cons_append, List.nil_append]
   refine kQ (aT (fJ O O) (uV (dw O (fun h3 => ?_) (fun h3 => ?_))))
   ·(try simp only [aG] at h3)
    refine gX (aI (bK (kQ ?_)))
    obtain ⟨buu, ouu, cuu, euu⟩ := Rd.qX ((HL.f2).aJ) (by omega)
    cases euu
    refine aT (dP aV bM O O (by omega)) (aT (mF (ys := [_, _, _]) ((HL.f2).aJ) (by omega) aQ O bM O (mY gJ.Ah (by omega) default) O) ?_)
    have hkl : i < fs.length := by omega
    refine jT (iI (l := [_, _, _]) HL cZ O) ?_
    rintro _ w16 ⟨b16, rfl, yG⟩
    refine aH (dR 0 (l' := [_, _, _]) (us := [_, _, _]) yG bM O O O (aP (bD (by first | rfl | exact Rd.one (((yG.f4).qE hkl).1)) (bD (by first | rfl | exact Rd.one (((yG.f4).qE hkl).2)) bW))) O O) ?_
    rintro _ ZI DL
    refine iR ?_
    have aeH := DL.drew
    have IG := V.kp (aeH.f5.f5.f5.f5.f5)
    refine tH [4, 5] IG O (fM 0 O IG O (jF 1 O IG O (eP 2 O IG 0 aj O aU O (eP 3 O IG 0 aK O kM O (iD 4 O IG (fun W hW => jk iL O ((Kp.h hW).f5).get.2 O) (iD 5 O IG (fun W hW => dU aQ O bM O O ((Kp.h hW)).get.2) (lC 6 O (qW O func158 (KU aeH.f2 (fun W HW => ((HW.f3).qE hkl).1) (fun W HW => ((HW.f3).qE hkl).2))) ?_)))))))
    rintro _ U5 ⟨rfl, DN⟩
    have Bz := V.kp (DN.f5.f5.f5.f5.f5)
    refine dX Bz (by kernel_rfl) ?_
    refine oH (aS (aZ (aF (aT (gY O O (by omega)) (cO O (dJ ?_))))))
    refine fG (i + 1) ?_ ?_ ?_ ?_
    ·exact rJ
    ·exact DK
    ·(try dsimp only)
     first | done | exact ⟨by omega, by rw [Hf hkl, OH]; exact DN.f2.right.f4.f4.f4.f4⟩
    ·(try dsimp only); omega
   ·(try simp only [aG] at h3)
    refine iZ (bC ?_)
    have hil : i = fs.length := by omega
    have HB := HL
    rw [hil, List.take_length] at HB
    subst alo
    refine bC (dK (aZ (bT O (kY O O (bg 32 aj O aN O (aH (ig 32 HB.f4 aN) ?_))))))
    rintro _ X9 Df
    refine dM O (bg 0 aj O aU O (bg 10 aK O aN O (aH (ig 10 Df aN) ?_)))
    rintro _ ZJ DR
    refine iR (jE O (dO results106 O ?_))
    rw [aeF] at DR
    have hE : s.oW = 0 := by unfold aX.oW; rw [if_pos hin, ht, if_neg h0]
    have hS : s.GN = ((t.lY []).Dx (t.here.flatten.reverse.map xP)).wC := by unfold aX.GN; rw [if_pos hin]; dsimp only; rw [ht, if_neg h0]
    exact ⟨by rw [hE], by rw [hS]; exact V.iC (s := ((t.lY []).Dx (t.here.flatten.reverse.map xP)).wC) (WY gB (acO _ _) (fun g hg => by cases hg)) dF DR.f3.right.f3.right.f11.f11.f11.f11.f11.f8.f11.f10.f11.f11.f11⟩
end
end Go.Proofs.YtnhhmieghbfalaaGreatDoor
end
