import Derived.Test.YtpdeedplgmbopaaGreatDoorZ4
import Derived.Test.YtpdeedplgmbopaaGreatDoorZ13
import Derived.Test.YtpdeedplgmbopaaGreatDoorZ6
set_option linter.unusedSimpArgs false
set_option linter.unusedVariables false
/- Texts of mine, joined, their names in short: EdE EdU Owns EdS. -/
section
namespace Go.Proofs.YtpdeedplgmbopaaGreatDoor
open Go.RowKit
open _root_.Go.Proofs.Tryz
theorem y8 (s : dG) (on : Bool) : (s.gG on).c.run = s.c.run := by unfold dG.gG; split <;> rfl
theorem He (s : dG) (on : Bool) : (s.gG on).cls = s.cls := by unfold dG.gG; split <;> rfl
theorem jP {s s1 : dG} {on run : Bool} (h1 : s1 = s.jU) (hon : (s.typed && s.c.run) = on) (hrun : (s.typed && (!s.put.isEmpty || s.c.run)) = run) (h2 : (s1.gG on).cls ≠ 2) :
    s.oM = { s1.gG on with c := { (s1.gG on).c with run := run, last := (s1.gG on).cls, fr := 0, to := 0 } } := by
  subst h1 hon hrun
  have hc : (s.jU.gG (s.typed && s.c.run)).cls = s.cls := by rw [He]; unfold dG.jU; split <;> rfl
  unfold dG.oM
  rw [hc] at h2 ⊢
  dsimp only
  rw [if_pos h2]
theorem jg {s s1 : dG} {on run : Bool} (h1 : s1 = s.jU) (hon : (s.typed && s.c.run) = on) (hrun : (s.typed && (!s.put.isEmpty || s.c.run)) = run) (h2 : (s1.gG on).cls = 2) :
    s.oM = { s1.gG on with c := { (s1.gG on).c with run := run, last := (s1.gG on).cls } } := by
  subst h1 hon hrun
  have hc : (s.jU.gG (s.typed && s.c.run)).cls = s.cls := by rw [He]; unfold dG.jU; split <;> rfl
  unfold dG.oM
  rw [hc] at h2 ⊢
  dsimp only
  rw [if_neg (by omega)]
theorem sU {s : dG} (h : lT s) : lT s.jU := by
  obtain ⟨h1, h2, h3, h4, h5, h6⟩ := h
  unfold dG.jU
  split
  · exact ⟨h1, fun h => Bool.noConfusion h, h3, h4, h5, h6⟩
  · exact ⟨h1, fun h => Bool.noConfusion h, ⟨by show (-1 : Int) ≤ -1; decide, by show (-1 : Int) ≤ 1000000; decide⟩, h4, h5, h6⟩
theorem oI {l : List iT} : l.isEmpty = decide (l.length = 0) := by cases l <;> rfl
section
variable {w0 w : World} {F : HP} {e p : Nat} {s : dG} {x : Int}
theorem NR (hin : s.inn = true) (H : V w0 w (gB e s • F)) : gJ prog 31 #[.pointer (some ⟨e, 0, none⟩), .int .i64 0] w fun v w' => v = .int .i64 0 ∧ V w0 w' (gB e s.oM • F) := by
  have hpe : s.yB = 0 := by unfold dG.yB; rw [if_pos hin]
  refine nT func31 ntmps31 ?_
  refine jr O (aP (bT O (dY O func81 (uh H) ?_)))
  rintro _ _ ⟨rfl, rfl⟩
  refine gI O (bT O (aV (iU O O) (je O (fun h => by exfalso; (try simp only [Z] at h); exact h hpe) (fun h1 => ?_))))
  (try simp only [Z] at h1)
  refine gq (aP ?_)
  obtain ⟨xQ, xR, xU, xW, xX, xY, xZ, yc, uN, su, sD, sF, sG, sH, sJ, sK, sN, sO, sQ, sS, iw, dF, lu, iI⟩ := (H).Gu
  refine aC (nD O O (bD 16 ah O aO O (aH (eF 16 iI aO) ?_)))
  rintro _ w3 H3
  refine pK (bT O (dJ O (bD 31 ah O aO O (fZ bK O (H3).get.2 O (aV (kT O) (jF O (fun h2 => ?_) (fun h2 => ?_)))))))
  · (try simp only [Z] at h2)
    have har : s.argues = false := by simpa using h2
    have hs1 : ({ s.zW with inn := false } : dG) = s.jU := by unfold dG.jU; rw [if_neg (by simp [har])]
    refine bJ (bJ (jE O O (iJ (Il (aC (jG O O (nD O O (bD 13 ah O aO O (aH (eF 13 H3 aO) ?_)))))))))
    rintro _ w4 H4
    refine dJ O (bD 14 ah O aO O (aH (eF 14 H4 aO) ?_))
    rintro _ w5 H5
    refine dJ O (bD 15 ah O aj O (aH (eF 15 H5 aj) ?_))
    rintro _ w6 H6
    refine pK (bT O (aV (iU O O) (iJ (Jp O (fun h3 => ?_)))))
    (try simp only [Z] at h3)
    refine gq (aP ?_)
    have Bv := H6.drew
    have jc := V.kp (Bv.f11.f11.f11.f11.f11.f11.f11.f11.f11.f11.f11)
    refine yw [3, 9, 14] jc O (jB 0 O jc O (kJ 1 O jc O (gU 2 O jc 28 ah O aj O (jT 3 O jc (fun W hW => kC aK O ((Kp.h hW)).get.2 O) (ji 4 O jc (fun _ => dR O O) ?_)))))
    refine vZ 5 O O (by kernel_rfl) (by kernel_rfl) jc (jW O) (fun h4 => ?_) (fun h4 => ?_)
    · (try simp only [Z] at h4)
      have hc3 : s.cls = 3 := h4
      refine dI 6 O O O (by kernel_rfl) (by kernel_rfl) jc (fun _ => pY O) (jW O) ?_
      refine dI 7 O O O (by kernel_rfl) (by kernel_rfl) jc (fun _ => LK O) (jW O) ?_
      refine dI 8 O O O (by kernel_rfl) (by kernel_rfl) jc (fun _ => CG 32 ah O O aO (by decide) O rfl) (jW O) ?_
      refine tJ 9 O O O (by kernel_rfl) (by kernel_rfl) jc (by decide) (fun W hW => eG (bY bK O) O (jd ((Kp.h hW)).get.2 O)) (jW O) ?_
      refine ji 10 O jc (fun _ => tC O O) (jB 11 O jc O (kJ 12 O jc O (gU 13 O jc 33 ah O bH O (jT 14 O jc (fun W hW => kC aU O ((Kp.h hW)).get.2 O) (ji 15 O jc (fun _ => jw ((Bv.f9).aS) aU O) (ji 16 O jc (fun _ => iV O O) (ji 17 O jc (fun _ => dN O) (ji 18 O jc (fun _ => dN O) (qU (aX (bT O (bP O (jF O (fun h5 => ?_) (fun h5 => ?_))))))))))))))
      · (try simp only [Z] at h5)
        have hwh : s.whole = true := h5
        have hty : s.typed = true := by unfold dG.typed; rw [hc3, hwh]; rfl
        refine bC (bP O (bC (dJ O (bC (bD 0 ah O aQ O (bC (bD 10 aG O aO O (bC (fZ bK O (Bv).get.2 O (jE O O ?_))))))))))
        have hwo := wO (Bv.f11)
        have ZY := Bv.f11.right
        have HW0 := V.BR (c := s.was) (u := [su, sD, sF, sG, sH, sJ, sK, sN, sO, sQ, sS]) ZY hwo
        obtain ⟨s1, oh, V8⟩ : ∃ s1, s1 = s.jU ∧ V w0 (w6.drew) (gB e s1 • F) := ⟨_, hs1, V.iF (hs1 ▸ sU iw) dF HW0.f11.f11.f11.f11.f11.f11.f11.f11.f11.f11⟩
        have hr1 : s1.c.run = s.c.run := by rw [oh]; unfold dG.jU; split <;> rfl
        refine dY O func84 (pV V8) ?_
        rintro _ w8 H8
        obtain ⟨on, hon, HZ⟩ : ∃ on, (s.typed && s.c.run) = on ∧ V w0 w8 (gB e (s1.gG on) • F) := ⟨_, by rw [hty]; rfl, H8⟩
        refine pK ?_
        obtain ⟨xQ, xR, xU, xW, xX, xY, xZ, yc, uN, su, sD, sF, sG, sH, sJ, sK, sN, sO, sQ, sS, iw, dF, lu, iI⟩ := (HZ).Gu
        refine aC (jG O O (jF O (fun h6 => ?_) (fun h6 => ?_)))
        · (try simp only [Z] at h6)
          have hw2 : s.whole = true := h6
          refine bC (bP O (bC (jF O (fun h7 => ?_) (fun h7 => ?_))))
          · (try simp only [Z] at h7)
            have hrun : (s.typed && (!s.put.isEmpty || s.c.run)) = true := by first | exact absurd (hw2.symm.trans hwh) (by decide) | (rw [oI, decide_eq_false (show ¬ s.put.length = 0 by omega), hty]; rfl)
            refine bJ (bJ (bJ (bJ (bJ (bC (jE O O (jE O O (dJ O (bD 0 ah O aQ O (bD 10 aG O aO O (aH (eF 10 iI aO) ?_)))))))))))
            rintro _ w10 ql
            refine qR O (nD O O (bD 28 ah O aj O (fZ aK O (ql).get.2 O (dJ O (bD 0 ah O aQ O (bD 6 aG O aj O (aH (eF 6 ql aj) ?_)))))))
            rintro _ EH rF
            refine pK (bT O (dJ O (bD 28 ah O aj O (fZ aK O (rF).get.2 O (aV (iU O O) (je O (fun h8 => ?_) (fun h8 => ?_)))))))
            · (try simp only [Z] at h8)
              have sV := jP oh hon hrun h8
              refine aC (jG O O (dJ O (bD 0 ah O aQ O (bD 7 aG O aj O (aH (eF 7 rF aj) ?_)))))
              rintro _ w12 uI
              refine dJ O (bD 0 ah O aQ O (bD 8 aG O aj O (aH (eF 8 uI aj) ?_)))
              rintro _ Pj xk
              refine iJ (jL O (dH dP O ?_))
              refine ⟨O, ?_⟩
              first
                | exact absurd (hw2.symm.trans hwh) (by decide)
                | exact absurd (hwh.symm.trans hw2) (by decide)
                | (rw [sV]; exact V.iF iw dF xk.f11.f11.f11.f11.f11.f11.f11.f11.f11.f11.f11)
            · (try simp only [Z] at h8)
              have sV := jg oh hon hrun h8
              refine gq (jL O (dH dP O ?_))
              refine ⟨O, ?_⟩
              first
                | exact absurd (hw2.symm.trans hwh) (by decide)
                | exact absurd (hwh.symm.trans hw2) (by decide)
                | (rw [sV]; exact V.iF iw dF rF.f11.f11.f11.f11.f11.f11.f11.f11.f11.f11.f11)
          · (try simp only [Z] at h7)
            have hrun : (s.typed && (!s.put.isEmpty || s.c.run)) = (s1.gG on).c.run := by first | exact absurd (hw2.symm.trans hwh) (by decide) | (rw [oI, decide_eq_true (show s.put.length = 0 by omega), hty, y8, hr1]; rfl)
            refine bC (bP O (bC (dJ O (bC (bD 0 ah O aQ O (bC (bD 10 aG O aO O (bC (fZ bK O (iI).get.2 O (bC (iL O O (jE O O (dJ O (bD 0 ah O aQ O (bD 10 aG O aO O (aH (eF 10 iI aO) ?_))))))))))))))))
            rintro _ RZ Ar
            refine qR O (nD O O (bD 28 ah O aj O (fZ aK O (Ar).get.2 O (dJ O (bD 0 ah O aQ O (bD 6 aG O aj O (aH (eF 6 Ar aj) ?_)))))))
            rintro _ Sz yT
            refine pK (bT O (dJ O (bD 28 ah O aj O (fZ aK O (yT).get.2 O (aV (iU O O) (je O (fun h9 => ?_) (fun h9 => ?_)))))))
            · (try simp only [Z] at h9)
              have sV := jP oh hon hrun h9
              refine aC (jG O O (dJ O (bD 0 ah O aQ O (bD 7 aG O aj O (aH (eF 7 yT aj) ?_)))))
              rintro _ w16 yO
              refine dJ O (bD 0 ah O aQ O (bD 8 aG O aj O (aH (eF 8 yO aj) ?_)))
              rintro _ Za Io
              refine iJ (jL O (dH dP O ?_))
              refine ⟨O, ?_⟩
              first
                | exact absurd (hw2.symm.trans hwh) (by decide)
                | exact absurd (hwh.symm.trans hw2) (by decide)
                | (rw [sV]; exact V.iF iw dF Io.f11.f11.f11.f11.f11.f11.f11.f11.f11.f11.f11)
            · (try simp only [Z] at h9)
              have sV := jg oh hon hrun h9
              refine gq (jL O (dH dP O ?_))
              refine ⟨O, ?_⟩
              first
                | exact absurd (hw2.symm.trans hwh) (by decide)
                | exact absurd (hwh.symm.trans hw2) (by decide)
                | (rw [sV]; exact V.iF iw dF yT.f11.f11.f11.f11.f11.f11.f11.f11.f11.f11.f11)
        · (try simp only [Z] at h6)
          have hw2 : s.whole = false := by simpa using h6
          have hrun : (s.typed && (!s.put.isEmpty || s.c.run)) = false := by first | exact absurd (hwh.symm.trans hw2) (by decide) | (rw [hty]; rfl)
          refine bJ (bJ (mW (mW (mW (mW (mW (bJ (iL O O (dJ O (bD 0 ah O aQ O (bD 10 aG O aO O (aH (eF 10 iI aO) ?_))))))))))))
          rintro _ XF CV
          refine qR O (nD O O (bD 28 ah O aj O (fZ aK O (CV).get.2 O (dJ O (bD 0 ah O aQ O (bD 6 aG O aj O (aH (eF 6 CV aj) ?_)))))))
          rintro _ w19 D8
          refine pK (bT O (dJ O (bD 28 ah O aj O (fZ aK O (D8).get.2 O (aV (iU O O) (je O (fun h10 => ?_) (fun h10 => ?_)))))))
          · (try simp only [Z] at h10)
            have sV := jP oh hon hrun h10
            refine aC (jG O O (dJ O (bD 0 ah O aQ O (bD 7 aG O aj O (aH (eF 7 D8 aj) ?_)))))
            rintro _ w20 OX
            refine dJ O (bD 0 ah O aQ O (bD 8 aG O aj O (aH (eF 8 OX aj) ?_)))
            rintro _ w21 IC
            refine iJ (jL O (dH dP O ?_))
            refine ⟨O, ?_⟩
            first
              | exact absurd (hw2.symm.trans hwh) (by decide)
              | exact absurd (hwh.symm.trans hw2) (by decide)
              | (rw [sV]; exact V.iF iw dF IC.f11.f11.f11.f11.f11.f11.f11.f11.f11.f11.f11)
          · (try simp only [Z] at h10)
            have sV := jg oh hon hrun h10
            refine gq (jL O (dH dP O ?_))
            refine ⟨O, ?_⟩
            first
              | exact absurd (hw2.symm.trans hwh) (by decide)
              | exact absurd (hwh.symm.trans hw2) (by decide)
              | (rw [sV]; exact V.iF iw dF D8.f11.f11.f11.f11.f11.f11.f11.f11.f11.f11.f11)
      · (try simp only [Z] at h5)
        have hwh : s.whole = false := by simpa using h5
        have hty : s.typed = false := by unfold dG.typed; rw [hc3, hwh]; rfl
        have hrun : (s.typed && (!s.put.isEmpty || s.c.run)) = false := by rw [hty]; rfl
        refine bJ (bJ (bJ (bJ (bJ (iL O O ?_)))))
        have hwo := wO (Bv.f11)
        have Vj := Bv.f11.right
        have HW0 := V.BR (c := s.was) (u := [su, sD, sF, sG, sH, sJ, sK, sN, sO, sQ, sS]) Vj hwo
        obtain ⟨s1, oh, V8⟩ : ∃ s1, s1 = s.jU ∧ V w0 (w6.drew) (gB e s1 • F) := ⟨_, hs1, V.iF (hs1 ▸ sU iw) dF HW0.f11.f11.f11.f11.f11.f11.f11.f11.f11.f11⟩
        have hr1 : s1.c.run = s.c.run := by rw [oh]; unfold dG.jU; split <;> rfl
        refine dY O func84 (pV V8) ?_
        rintro _ w23 IE
        obtain ⟨on, hon, HZ⟩ : ∃ on, (s.typed && s.c.run) = on ∧ V w0 w23 (gB e (s1.gG on) • F) := ⟨_, by rw [hty]; rfl, IE⟩
        refine pK ?_
        obtain ⟨xQ, xR, xU, xW, xX, xY, xZ, yc, uN, su, sD, sF, sG, sH, sJ, sK, sN, sO, sQ, sS, iw, dF, lu, iI⟩ := (HZ).Gu
        refine aC (jG O O (jF O (fun h11 => ?_) (fun h11 => ?_)))
        · (try simp only [Z] at h11)
          have hw2 : s.whole = true := h11
          refine bC (bP O (bC (jF O (fun h12 => ?_) (fun h12 => ?_))))
          · (try simp only [Z] at h12)
            have hrun : (s.typed && (!s.put.isEmpty || s.c.run)) = true := by first | exact absurd (hw2.symm.trans hwh) (by decide) | (rw [oI, decide_eq_false (show ¬ s.put.length = 0 by omega), hty]; rfl)
            refine bJ (bJ (bJ (bJ (bJ (bC (jE O O (jE O O (dJ O (bD 0 ah O aQ O (bD 10 aG O aO O (aH (eF 10 iI aO) ?_)))))))))))
            rintro _ w25 Ub
            refine qR O (nD O O (bD 28 ah O aj O (fZ aK O (Ub).get.2 O (dJ O (bD 0 ah O aQ O (bD 6 aG O aj O (aH (eF 6 Ub aj) ?_)))))))
            rintro _ w26 VO
            refine pK (bT O (dJ O (bD 28 ah O aj O (fZ aK O (VO).get.2 O (aV (iU O O) (je O (fun h13 => ?_) (fun h13 => ?_)))))))
            · (try simp only [Z] at h13)
              have sV := jP oh hon hrun h13
              refine aC (jG O O (dJ O (bD 0 ah O aQ O (bD 7 aG O aj O (aH (eF 7 VO aj) ?_)))))
              rintro _ w27 NG
              refine dJ O (bD 0 ah O aQ O (bD 8 aG O aj O (aH (eF 8 NG aj) ?_)))
              rintro _ w28 H28
              refine iJ (jL O (dH dP O ?_))
              refine ⟨O, ?_⟩
              first
                | exact absurd (hw2.symm.trans hwh) (by decide)
                | exact absurd (hwh.symm.trans hw2) (by decide)
                | (rw [sV]; exact V.iF iw dF H28.f11.f11.f11.f11.f11.f11.f11.f11.f11.f11.f11)
            · (try simp only [Z] at h13)
              have sV := jg oh hon hrun h13
              refine gq (jL O (dH dP O ?_))
              refine ⟨O, ?_⟩
              first
                | exact absurd (hw2.symm.trans hwh) (by decide)
                | exact absurd (hwh.symm.trans hw2) (by decide)
                | (rw [sV]; exact V.iF iw dF VO.f11.f11.f11.f11.f11.f11.f11.f11.f11.f11.f11)
          · (try simp only [Z] at h12)
            have hrun : (s.typed && (!s.put.isEmpty || s.c.run)) = (s1.gG on).c.run := by first | exact absurd (hw2.symm.trans hwh) (by decide) | (rw [oI, decide_eq_true (show s.put.length = 0 by omega), hty, y8, hr1]; rfl)
            refine bC (bP O (bC (dJ O (bC (bD 0 ah O aQ O (bC (bD 10 aG O aO O (bC (fZ bK O (iI).get.2 O (bC (iL O O (jE O O (dJ O (bD 0 ah O aQ O (bD 10 aG O aO O (aH (eF 10 iI aO) ?_))))))))))))))))
            rintro _ w29 Yg
            refine qR O (nD O O (bD 28 ah O aj O (fZ aK O (Yg).get.2 O (dJ O (bD 0 ah O aQ O (bD 6 aG O aj O (aH (eF 6 Yg aj) ?_)))))))
            rintro _ w30 Vl
            refine pK (bT O (dJ O (bD 28 ah O aj O (fZ aK O (Vl).get.2 O (aV (iU O O) (je O (fun h14 => ?_) (fun h14 => ?_)))))))
            · (try simp only [Z] at h14)
              have sV := jP oh hon hrun h14
              refine aC (jG O O (dJ O (bD 0 ah O aQ O (bD 7 aG O aj O (aH (eF 7 Vl aj) ?_)))))
              rintro _ w31 SL
              refine dJ O (bD 0 ah O aQ O (bD 8 aG O aj O (aH (eF 8 SL aj) ?_)))
              rintro _ w32 NH
              refine iJ (jL O (dH dP O ?_))
              refine ⟨O, ?_⟩
              first
                | exact absurd (hw2.symm.trans hwh) (by decide)
                | exact absurd (hwh.symm.trans hw2) (by decide)
                | (rw [sV]; exact V.iF iw dF NH.f11.f11.f11.f11.f11.f11.f11.f11.f11.f11.f11)
            · (try simp only [Z] at h14)
              have sV := jg oh hon hrun h14
              refine gq (jL O (dH dP O ?_))
              refine ⟨O, ?_⟩
              first
                | exact absurd (hw2.symm.trans hwh) (by decide)
                | exact absurd (hwh.symm.trans hw2) (by decide)
                | (rw [sV]; exact V.iF iw dF Vl.f11.f11.f11.f11.f11.f11.f11.f11.f11.f11.f11)
        · (try simp only [Z] at h11)
          have hw2 : s.whole = false := by simpa using h11
          have hrun : (s.typed && (!s.put.isEmpty || s.c.run)) = false := by first | exact absurd (hwh.symm.trans hw2) (by decide) | (rw [hty]; rfl)
          refine bJ (bJ (mW (mW (mW (mW (mW (bJ (iL O O (dJ O (bD 0 ah O aQ O (bD 10 aG O aO O (aH (eF 10 iI aO) ?_))))))))))))
          rintro _ w33 Xk
          refine qR O (nD O O (bD 28 ah O aj O (fZ aK O (Xk).get.2 O (dJ O (bD 0 ah O aQ O (bD 6 aG O aj O (aH (eF 6 Xk aj) ?_)))))))
          rintro _ w34 VQ
          refine pK (bT O (dJ O (bD 28 ah O aj O (fZ aK O (VQ).get.2 O (aV (iU O O) (je O (fun h15 => ?_) (fun h15 => ?_)))))))
          · (try simp only [Z] at h15)
            have sV := jP oh hon hrun h15
            refine aC (jG O O (dJ O (bD 0 ah O aQ O (bD 7 aG O aj O (aH (eF 7 VQ aj) ?_)))))
            rintro _ w35 H35
            refine dJ O (bD 0 ah O aQ O (bD 8 aG O aj O (aH (eF 8 H35 aj) ?_)))
            rintro _ w36 H36
            refine iJ (jL O (dH dP O ?_))
            refine ⟨O, ?_⟩
            first
              | exact absurd (hw2.symm.trans hwh) (by decide)
              | exact absurd (hwh.symm.trans hw2) (by decide)
              | (rw [sV]; exact V.iF iw dF H36.f11.f11.f11.f11.f11.f11.f11.f11.f11.f11.f11)
          · (try simp only [Z] at h15)
            have sV := jg oh hon hrun h15
            refine gq (jL O (dH dP O ?_))
            refine ⟨O, ?_⟩
            first
              | exact absurd (hw2.symm.trans hwh) (by decide)
              | exact absurd (hwh.symm.trans hw2) (by decide)
              | (rw [sV]; exact V.iF iw dF VQ.f11.f11.f11.f11.f11.f11.f11.f11.f11.f11.f11)
    · (try simp only [Z] at h4)
      have hty : s.typed = false := by unfold dG.typed; rw [beq_false_of_ne h4]; rfl
      have hrun : (s.typed && (!s.put.isEmpty || s.c.run)) = false := by rw [hty]; rfl
      refine vY 6 O O O O (by kernel_rfl) (by kernel_rfl) jc (jW O) ?_
      refine vY 7 O O O O (by kernel_rfl) (by kernel_rfl) jc (jW O) ?_
      refine vY 8 O O O O (by kernel_rfl) (by kernel_rfl) jc (jW O) ?_
      refine vY 9 O O O O (by kernel_rfl) (by kernel_rfl) jc (jW O) ?_
      refine ji 10 O jc (fun _ => Cm O O) (jB 11 O jc O (kJ 12 O jc O (gU 13 O jc 33 ah O bH O (jT 14 O jc (fun W hW => kC aU O ((Kp.h hW)).get.2 O) (ji 15 O jc (fun _ => jw ((Bv.f9).aS) aU O) (ji 16 O jc (fun _ => iV O O) (ji 17 O jc (fun _ => dN O) (ji 18 O jc (fun _ => dN O) (qU (aX (bT O (jG O O (bJ (bJ (bJ (bJ (bJ (iL O O ?_))))))))))))))))))
      have hwo := wO (Bv.f11)
      have aaE := Bv.f11.right
      have HW0 := V.BR (c := s.was) (u := [su, sD, sF, sG, sH, sJ, sK, sN, sO, sQ, sS]) aaE hwo
      obtain ⟨s1, oh, V8⟩ : ∃ s1, s1 = s.jU ∧ V w0 (w6.drew) (gB e s1 • F) := ⟨_, hs1, V.iF (hs1 ▸ sU iw) dF HW0.f11.f11.f11.f11.f11.f11.f11.f11.f11.f11⟩
      have hr1 : s1.c.run = s.c.run := by rw [oh]; unfold dG.jU; split <;> rfl
      refine dY O func84 (pV V8) ?_
      rintro _ w38 P7
      obtain ⟨on, hon, HZ⟩ : ∃ on, (s.typed && s.c.run) = on ∧ V w0 w38 (gB e (s1.gG on) • F) := ⟨_, by rw [hty]; rfl, P7⟩
      refine pK ?_
      obtain ⟨xQ, xR, xU, xW, xX, xY, xZ, yc, uN, su, sD, sF, sG, sH, sJ, sK, sN, sO, sQ, sS, iw, dF, lu, iI⟩ := (HZ).Gu
      refine aC (jG O O (bP O (bJ (bJ (mW (mW (mW (mW (mW (bJ (iL O O (dJ O (bD 0 ah O aQ O (bD 10 aG O aO O (aH (eF 10 iI aO) ?_)))))))))))))))
      rintro _ w40 H40
      refine qR O (nD O O (bD 28 ah O aj O (fZ aK O (H40).get.2 O (dJ O (bD 0 ah O aQ O (bD 6 aG O aj O (aH (eF 6 H40 aj) ?_)))))))
      rintro _ w41 Yb
      refine pK (bT O (dJ O (bD 28 ah O aj O (fZ aK O (Yb).get.2 O (aV (iU O O) (je O (fun h16 => ?_) (fun h16 => ?_)))))))
      · (try simp only [Z] at h16)
        have sV := jP oh hon hrun h16
        refine aC (jG O O (dJ O (bD 0 ah O aQ O (bD 7 aG O aj O (aH (eF 7 Yb aj) ?_)))))
        rintro _ w42 H42
        refine dJ O (bD 0 ah O aQ O (bD 8 aG O aj O (aH (eF 8 H42 aj) ?_)))
        rintro _ w43 H43
        refine iJ (jL O (dH dP O ?_))
        refine ⟨O, ?_⟩
        first
          | exact absurd (hw2.symm.trans hwh) (by decide)
          | exact absurd (hwh.symm.trans hw2) (by decide)
          | (rw [sV]; exact V.iF iw dF H43.f11.f11.f11.f11.f11.f11.f11.f11.f11.f11.f11)
      · (try simp only [Z] at h16)
        have sV := jg oh hon hrun h16
        refine gq (jL O (dH dP O ?_))
        refine ⟨O, ?_⟩
        first
          | exact absurd (hw2.symm.trans hwh) (by decide)
          | exact absurd (hwh.symm.trans hw2) (by decide)
          | (rw [sV]; exact V.iF iw dF Yb.f11.f11.f11.f11.f11.f11.f11.f11.f11.f11.f11)
  · (try simp only [Z] at h2)
    have har : s.argues = true := by simpa using h2
    have hs1 : ({ s with inn := false } : dG) = s.jU := by unfold dG.jU; rw [if_pos har]
    refine bC (bP O (bC (aV (iU O O) (iL O O (iJ (Jp O (fun h17 => ?_)))))))
    (try simp only [Z] at h17)
    refine gq (aP (bT O (aV (iU O O) (iJ (Jp O (fun h18 => ?_))))))
    (try simp only [Z] at h18)
    refine gq (aP ?_)
    have yh := H3.drew
    have gQ := V.kp (yh.f11.f11.f11.f11.f11.f11.f11.f11.f11.f11.f11)
    refine yw [3, 9, 14] gQ O (jB 0 O gQ O (kJ 1 O gQ O (gU 2 O gQ 28 ah O aj O (jT 3 O gQ (fun W hW => kC aK O ((Kp.h hW)).get.2 O) (ji 4 O gQ (fun _ => dR O O) ?_)))))
    refine vZ 5 O O (by kernel_rfl) (by kernel_rfl) gQ (jW O) (fun h19 => ?_) (fun h19 => ?_)
    · (try simp only [Z] at h19)
      have hc3 : s.cls = 3 := h19
      refine dI 6 O O O (by kernel_rfl) (by kernel_rfl) gQ (fun _ => pY O) (jW O) ?_
      refine dI 7 O O O (by kernel_rfl) (by kernel_rfl) gQ (fun _ => LK O) (jW O) ?_
      refine dI 8 O O O (by kernel_rfl) (by kernel_rfl) gQ (fun _ => CG 32 ah O O aO (by decide) O rfl) (jW O) ?_
      refine tJ 9 O O O (by kernel_rfl) (by kernel_rfl) gQ (by decide) (fun W hW => eG (bY bK O) O (jd ((Kp.h hW)).get.2 O)) (jW O) ?_
      refine ji 10 O gQ (fun _ => tC O O) (jB 11 O gQ O (kJ 12 O gQ O (gU 13 O gQ 33 ah O bH O (jT 14 O gQ (fun W hW => kC aU O ((Kp.h hW)).get.2 O) (ji 15 O gQ (fun _ => jw ((yh.f9).aS) aU O) (ji 16 O gQ (fun _ => iV O O) (ji 17 O gQ (fun _ => dN O) (ji 18 O gQ (fun _ => dN O) (qU (aX (bT O (bP O (jF O (fun h20 => ?_) (fun h20 => ?_))))))))))))))
      · (try simp only [Z] at h20)
        have hwh : s.whole = true := h20
        have hty : s.typed = true := by unfold dG.typed; rw [hc3, hwh]; rfl
        refine bC (bP O (bC (dJ O (bC (bD 0 ah O aQ O (bC (bD 10 aG O aO O (bC (fZ bK O (yh).get.2 O (jE O O ?_))))))))))
        have hwo := wO (yh.f11)
        have ad5 := yh.f11.right
        have HW0 := V.BR (c := s.was) (u := [su, sD, sF, sG, sH, sJ, sK, sN, sO, sQ, sS]) ad5 hwo
        obtain ⟨s1, oh, V8⟩ : ∃ s1, s1 = s.jU ∧ V w0 (w3.drew) (gB e s1 • F) := ⟨_, hs1, V.iF (hs1 ▸ sU iw) dF HW0.f11.f11.f11.f11.f11.f11.f11.f11.f11.f11⟩
        have hr1 : s1.c.run = s.c.run := by rw [oh]; unfold dG.jU; split <;> rfl
        refine dY O func84 (pV V8) ?_
        rintro _ w45 OD
        obtain ⟨on, hon, HZ⟩ : ∃ on, (s.typed && s.c.run) = on ∧ V w0 w45 (gB e (s1.gG on) • F) := ⟨_, by rw [hty]; rfl, OD⟩
        refine pK ?_
        obtain ⟨xQ, xR, xU, xW, xX, xY, xZ, yc, uN, su, sD, sF, sG, sH, sJ, sK, sN, sO, sQ, sS, iw, dF, lu, iI⟩ := (HZ).Gu
        refine aC (jG O O (jF O (fun h21 => ?_) (fun h21 => ?_)))
        · (try simp only [Z] at h21)
          have hw2 : s.whole = true := h21
          refine bC (bP O (bC (jF O (fun h22 => ?_) (fun h22 => ?_))))
          · (try simp only [Z] at h22)
            have hrun : (s.typed && (!s.put.isEmpty || s.c.run)) = true := by first | exact absurd (hw2.symm.trans hwh) (by decide) | (rw [oI, decide_eq_false (show ¬ s.put.length = 0 by omega), hty]; rfl)
            refine bJ (bJ (bJ (bJ (bJ (bC (jE O O (jE O O (dJ O (bD 0 ah O aQ O (bD 10 aG O aO O (aH (eF 10 iI aO) ?_)))))))))))
            rintro _ w47 H47
            refine qR O (nD O O (bD 28 ah O aj O (fZ aK O (H47).get.2 O (dJ O (bD 0 ah O aQ O (bD 6 aG O aj O (aH (eF 6 H47 aj) ?_)))))))
            rintro _ w48 H48
            refine pK (bT O (dJ O (bD 28 ah O aj O (fZ aK O (H48).get.2 O (aV (iU O O) (je O (fun h23 => ?_) (fun h23 => ?_)))))))
            · (try simp only [Z] at h23)
              have sV := jP oh hon hrun h23
              refine aC (jG O O (dJ O (bD 0 ah O aQ O (bD 7 aG O aj O (aH (eF 7 H48 aj) ?_)))))
              rintro _ w49 H49
              refine dJ O (bD 0 ah O aQ O (bD 8 aG O aj O (aH (eF 8 H49 aj) ?_)))
              rintro _ w50 H50
              refine iJ (jL O (dH dP O ?_))
              refine ⟨O, ?_⟩
              first
                | exact absurd (hw2.symm.trans hwh) (by decide)
                | exact absurd (hwh.symm.trans hw2) (by decide)
                | (rw [sV]; exact V.iF iw dF H50.f11.f11.f11.f11.f11.f11.f11.f11.f11.f11.f11)
            · (try simp only [Z] at h23)
              have sV := jg oh hon hrun h23
              refine gq (jL O (dH dP O ?_))
              refine ⟨O, ?_⟩
              first
                | exact absurd (hw2.symm.trans hwh) (by decide)
                | exact absurd (hwh.symm.trans hw2) (by decide)
                | (rw [sV]; exact V.iF iw dF H48.f11.f11.f11.f11.f11.f11.f11.f11.f11.f11.f11)
          · (try simp only [Z] at h22)
            have hrun : (s.typed && (!s.put.isEmpty || s.c.run)) = (s1.gG on).c.run := by first | exact absurd (hw2.symm.trans hwh) (by decide) | (rw [oI, decide_eq_true (show s.put.length = 0 by omega), hty, y8, hr1]; rfl)
            refine bC (bP O (bC (dJ O (bC (bD 0 ah O aQ O (bC (bD 10 aG O aO O (bC (fZ bK O (iI).get.2 O (bC (iL O O (jE O O (dJ O (bD 0 ah O aQ O (bD 10 aG O aO O (aH (eF 10 iI aO) ?_))))))))))))))))
            rintro _ w51 H51
            refine qR O (nD O O (bD 28 ah O aj O (fZ aK O (H51).get.2 O (dJ O (bD 0 ah O aQ O (bD 6 aG O aj O (aH (eF 6 H51 aj) ?_)))))))
            rintro _ w52 Zh
            refine pK (bT O (dJ O (bD 28 ah O aj O (fZ aK O (Zh).get.2 O (aV (iU O O) (je O (fun h24 => ?_) (fun h24 => ?_)))))))
            · (try simp only [Z] at h24)
              have sV := jP oh hon hrun h24
              refine aC (jG O O (dJ O (bD 0 ah O aQ O (bD 7 aG O aj O (aH (eF 7 Zh aj) ?_)))))
              rintro _ w53 H53
              refine dJ O (bD 0 ah O aQ O (bD 8 aG O aj O (aH (eF 8 H53 aj) ?_)))
              rintro _ w54 H54
              refine iJ (jL O (dH dP O ?_))
              refine ⟨O, ?_⟩
              first
                | exact absurd (hw2.symm.trans hwh) (by decide)
                | exact absurd (hwh.symm.trans hw2) (by decide)
                | (rw [sV]; exact V.iF iw dF H54.f11.f11.f11.f11.f11.f11.f11.f11.f11.f11.f11)
            · (try simp only [Z] at h24)
              have sV := jg oh hon hrun h24
              refine gq (jL O (dH dP O ?_))
              refine ⟨O, ?_⟩
              first
                | exact absurd (hw2.symm.trans hwh) (by decide)
                | exact absurd (hwh.symm.trans hw2) (by decide)
                | (rw [sV]; exact V.iF iw dF Zh.f11.f11.f11.f11.f11.f11.f11.f11.f11.f11.f11)
        · (try simp only [Z] at h21)
          have hw2 : s.whole = false := by simpa using h21
          have hrun : (s.typed && (!s.put.isEmpty || s.c.run)) = false := by first | exact absurd (hwh.symm.trans hw2) (by decide) | (rw [hty]; rfl)
          refine bJ (bJ (mW (mW (mW (mW (mW (bJ (iL O O (dJ O (bD 0 ah O aQ O (bD 10 aG O aO O (aH (eF 10 iI aO) ?_))))))))))))
          rintro _ w55 H55
          refine qR O (nD O O (bD 28 ah O aj O (fZ aK O (H55).get.2 O (dJ O (bD 0 ah O aQ O (bD 6 aG O aj O (aH (eF 6 H55 aj) ?_)))))))
          rintro _ w56 H56
          refine pK (bT O (dJ O (bD 28 ah O aj O (fZ aK O (H56).get.2 O (aV (iU O O) (je O (fun h25 => ?_) (fun h25 => ?_)))))))
          · (try simp only [Z] at h25)
            have sV := jP oh hon hrun h25
            refine aC (jG O O (dJ O (bD 0 ah O aQ O (bD 7 aG O aj O (aH (eF 7 H56 aj) ?_)))))
            rintro _ w57 H57
            refine dJ O (bD 0 ah O aQ O (bD 8 aG O aj O (aH (eF 8 H57 aj) ?_)))
            rintro _ w58 Yc
            refine iJ (jL O (dH dP O ?_))
            refine ⟨O, ?_⟩
            first
              | exact absurd (hw2.symm.trans hwh) (by decide)
              | exact absurd (hwh.symm.trans hw2) (by decide)
              | (rw [sV]; exact V.iF iw dF Yc.f11.f11.f11.f11.f11.f11.f11.f11.f11.f11.f11)
          · (try simp only [Z] at h25)
            have sV := jg oh hon hrun h25
            refine gq (jL O (dH dP O ?_))
            refine ⟨O, ?_⟩
            first
              | exact absurd (hw2.symm.trans hwh) (by decide)
              | exact absurd (hwh.symm.trans hw2) (by decide)
              | (rw [sV]; exact V.iF iw dF H56.f11.f11.f11.f11.f11.f11.f11.f11.f11.f11.f11)
      · (try simp only [Z] at h20)
        have hwh : s.whole = false := by simpa using h20
        have hty : s.typed = false := by unfold dG.typed; rw [hc3, hwh]; rfl
        have hrun : (s.typed && (!s.put.isEmpty || s.c.run)) = false := by rw [hty]; rfl
        refine bJ (bJ (bJ (bJ (bJ (iL O O ?_)))))
        have hwo := wO (yh.f11)
        have ad6 := yh.f11.right
        have HW0 := V.BR (c := s.was) (u := [su, sD, sF, sG, sH, sJ, sK, sN, sO, sQ, sS]) ad6 hwo
        obtain ⟨s1, oh, V8⟩ : ∃ s1, s1 = s.jU ∧ V w0 (w3.drew) (gB e s1 • F) := ⟨_, hs1, V.iF (hs1 ▸ sU iw) dF HW0.f11.f11.f11.f11.f11.f11.f11.f11.f11.f11⟩
        have hr1 : s1.c.run = s.c.run := by rw [oh]; unfold dG.jU; split <;> rfl
        refine dY O func84 (pV V8) ?_
        rintro _ w60 H60
        obtain ⟨on, hon, HZ⟩ : ∃ on, (s.typed && s.c.run) = on ∧ V w0 w60 (gB e (s1.gG on) • F) := ⟨_, by rw [hty]; rfl, H60⟩
        refine pK ?_
        obtain ⟨xQ, xR, xU, xW, xX, xY, xZ, yc, uN, su, sD, sF, sG, sH, sJ, sK, sN, sO, sQ, sS, iw, dF, lu, iI⟩ := (HZ).Gu
        refine aC (jG O O (jF O (fun h26 => ?_) (fun h26 => ?_)))
        · (try simp only [Z] at h26)
          have hw2 : s.whole = true := h26
          refine bC (bP O (bC (jF O (fun h27 => ?_) (fun h27 => ?_))))
          · (try simp only [Z] at h27)
            have hrun : (s.typed && (!s.put.isEmpty || s.c.run)) = true := by first | exact absurd (hw2.symm.trans hwh) (by decide) | (rw [oI, decide_eq_false (show ¬ s.put.length = 0 by omega), hty]; rfl)
            refine bJ (bJ (bJ (bJ (bJ (bC (jE O O (jE O O (dJ O (bD 0 ah O aQ O (bD 10 aG O aO O (aH (eF 10 iI aO) ?_)))))))))))
            rintro _ w62 H62
            refine qR O (nD O O (bD 28 ah O aj O (fZ aK O (H62).get.2 O (dJ O (bD 0 ah O aQ O (bD 6 aG O aj O (aH (eF 6 H62 aj) ?_)))))))
            rintro _ w63 H63
            refine pK (bT O (dJ O (bD 28 ah O aj O (fZ aK O (H63).get.2 O (aV (iU O O) (je O (fun h28 => ?_) (fun h28 => ?_)))))))
            · (try simp only [Z] at h28)
              have sV := jP oh hon hrun h28
              refine aC (jG O O (dJ O (bD 0 ah O aQ O (bD 7 aG O aj O (aH (eF 7 H63 aj) ?_)))))
              rintro _ w64 H64
              refine dJ O (bD 0 ah O aQ O (bD 8 aG O aj O (aH (eF 8 H64 aj) ?_)))
              rintro _ w65 H65
              refine iJ (jL O (dH dP O ?_))
              refine ⟨O, ?_⟩
              first
                | exact absurd (hw2.symm.trans hwh) (by decide)
                | exact absurd (hwh.symm.trans hw2) (by decide)
                | (rw [sV]; exact V.iF iw dF H65.f11.f11.f11.f11.f11.f11.f11.f11.f11.f11.f11)
            · (try simp only [Z] at h28)
              have sV := jg oh hon hrun h28
              refine gq (jL O (dH dP O ?_))
              refine ⟨O, ?_⟩
              first
                | exact absurd (hw2.symm.trans hwh) (by decide)
                | exact absurd (hwh.symm.trans hw2) (by decide)
                | (rw [sV]; exact V.iF iw dF H63.f11.f11.f11.f11.f11.f11.f11.f11.f11.f11.f11)
          · (try simp only [Z] at h27)
            have hrun : (s.typed && (!s.put.isEmpty || s.c.run)) = (s1.gG on).c.run := by first | exact absurd (hw2.symm.trans hwh) (by decide) | (rw [oI, decide_eq_true (show s.put.length = 0 by omega), hty, y8, hr1]; rfl)
            refine bC (bP O (bC (dJ O (bC (bD 0 ah O aQ O (bC (bD 10 aG O aO O (bC (fZ bK O (iI).get.2 O (bC (iL O O (jE O O (dJ O (bD 0 ah O aQ O (bD 10 aG O aO O (aH (eF 10 iI aO) ?_))))))))))))))))
            rintro _ w66 H66
            refine qR O (nD O O (bD 28 ah O aj O (fZ aK O (H66).get.2 O (dJ O (bD 0 ah O aQ O (bD 6 aG O aj O (aH (eF 6 H66 aj) ?_)))))))
            rintro _ w67 H67
            refine pK (bT O (dJ O (bD 28 ah O aj O (fZ aK O (H67).get.2 O (aV (iU O O) (je O (fun h29 => ?_) (fun h29 => ?_)))))))
            · (try simp only [Z] at h29)
              have sV := jP oh hon hrun h29
              refine aC (jG O O (dJ O (bD 0 ah O aQ O (bD 7 aG O aj O (aH (eF 7 H67 aj) ?_)))))
              rintro _ w68 H68
              refine dJ O (bD 0 ah O aQ O (bD 8 aG O aj O (aH (eF 8 H68 aj) ?_)))
              rintro _ w69 H69
              refine iJ (jL O (dH dP O ?_))
              refine ⟨O, ?_⟩
              first
                | exact absurd (hw2.symm.trans hwh) (by decide)
                | exact absurd (hwh.symm.trans hw2) (by decide)
                | (rw [sV]; exact V.iF iw dF H69.f11.f11.f11.f11.f11.f11.f11.f11.f11.f11.f11)
            · (try simp only [Z] at h29)
              have sV := jg oh hon hrun h29
              refine gq (jL O (dH dP O ?_))
              refine ⟨O, ?_⟩
              first
                | exact absurd (hw2.symm.trans hwh) (by decide)
                | exact absurd (hwh.symm.trans hw2) (by decide)
                | (rw [sV]; exact V.iF iw dF H67.f11.f11.f11.f11.f11.f11.f11.f11.f11.f11.f11)
        · (try simp only [Z] at h26)
          have hw2 : s.whole = false := by simpa using h26
          have hrun : (s.typed && (!s.put.isEmpty || s.c.run)) = false := by first | exact absurd (hwh.symm.trans hw2) (by decide) | (rw [hty]; rfl)
          refine bJ (bJ (mW (mW (mW (mW (mW (bJ (iL O O (dJ O (bD 0 ah O aQ O (bD 10 aG O aO O (aH (eF 10 iI aO) ?_))))))))))))
          rintro _ w70 H70
          refine qR O (nD O O (bD 28 ah O aj O (fZ aK O (H70).get.2 O (dJ O (bD 0 ah O aQ O (bD 6 aG O aj O (aH (eF 6 H70 aj) ?_)))))))
          rintro _ w71 H71
          refine pK (bT O (dJ O (bD 28 ah O aj O (fZ aK O (H71).get.2 O (aV (iU O O) (je O (fun h30 => ?_) (fun h30 => ?_)))))))
          · (try simp only [Z] at h30)
            have sV := jP oh hon hrun h30
            refine aC (jG O O (dJ O (bD 0 ah O aQ O (bD 7 aG O aj O (aH (eF 7 H71 aj) ?_)))))
            rintro _ w72 H72
            refine dJ O (bD 0 ah O aQ O (bD 8 aG O aj O (aH (eF 8 H72 aj) ?_)))
            rintro _ w73 H73
            refine iJ (jL O (dH dP O ?_))
            refine ⟨O, ?_⟩
            first
              | exact absurd (hw2.symm.trans hwh) (by decide)
              | exact absurd (hwh.symm.trans hw2) (by decide)
              | (rw [sV]; exact V.iF iw dF H73.f11.f11.f11.f11.f11.f11.f11.f11.f11.f11.f11)
          · (try simp only [Z] at h30)
            have sV := jg oh hon hrun h30
            refine gq (jL O (dH dP O ?_))
            refine ⟨O, ?_⟩
            first
              | exact absurd (hw2.symm.trans hwh) (by decide)
              | exact absurd (hwh.symm.trans hw2) (by decide)
              | (rw [sV]; exact V.iF iw dF H71.f11.f11.f11.f11.f11.f11.f11.f11.f11.f11.f11)
    · (try simp only [Z] at h19)
      have hty : s.typed = false := by unfold dG.typed; rw [beq_false_of_ne h19]; rfl
      have hrun : (s.typed && (!s.put.isEmpty || s.c.run)) = false := by rw [hty]; rfl
      refine vY 6 O O O O (by kernel_rfl) (by kernel_rfl) gQ (jW O) ?_
      refine vY 7 O O O O (by kernel_rfl) (by kernel_rfl) gQ (jW O) ?_
      refine vY 8 O O O O (by kernel_rfl) (by kernel_rfl) gQ (jW O) ?_
      refine vY 9 O O O O (by kernel_rfl) (by kernel_rfl) gQ (jW O) ?_
      refine ji 10 O gQ (fun _ => Cm O O) (jB 11 O gQ O (kJ 12 O gQ O (gU 13 O gQ 33 ah O bH O (jT 14 O gQ (fun W hW => kC aU O ((Kp.h hW)).get.2 O) (ji 15 O gQ (fun _ => jw ((yh.f9).aS) aU O) (ji 16 O gQ (fun _ => iV O O) (ji 17 O gQ (fun _ => dN O) (ji 18 O gQ (fun _ => dN O) (qU (aX (bT O (jG O O (bJ (bJ (bJ (bJ (bJ (iL O O ?_))))))))))))))))))
      have hwo := wO (yh.f11)
      have ad7 := yh.f11.right
      have HW0 := V.BR (c := s.was) (u := [su, sD, sF, sG, sH, sJ, sK, sN, sO, sQ, sS]) ad7 hwo
      obtain ⟨s1, oh, V8⟩ : ∃ s1, s1 = s.jU ∧ V w0 (w3.drew) (gB e s1 • F) := ⟨_, hs1, V.iF (hs1 ▸ sU iw) dF HW0.f11.f11.f11.f11.f11.f11.f11.f11.f11.f11⟩
      have hr1 : s1.c.run = s.c.run := by rw [oh]; unfold dG.jU; split <;> rfl
      refine dY O func84 (pV V8) ?_
      rintro _ w75 H75
      obtain ⟨on, hon, HZ⟩ : ∃ on, (s.typed && s.c.run) = on ∧ V w0 w75 (gB e (s1.gG on) • F) := ⟨_, by rw [hty]; rfl, H75⟩
      refine pK ?_
      obtain ⟨xQ, xR, xU, xW, xX, xY, xZ, yc, uN, su, sD, sF, sG, sH, sJ, sK, sN, sO, sQ, sS, iw, dF, lu, iI⟩ := (HZ).Gu
      refine aC (jG O O (bP O (bJ (bJ (mW (mW (mW (mW (mW (bJ (iL O O (dJ O (bD 0 ah O aQ O (bD 10 aG O aO O (aH (eF 10 iI aO) ?_)))))))))))))))
      rintro _ w77 H77
      refine qR O (nD O O (bD 28 ah O aj O (fZ aK O (H77).get.2 O (dJ O (bD 0 ah O aQ O (bD 6 aG O aj O (aH (eF 6 H77 aj) ?_)))))))
      rintro _ w78 H78
      refine pK (bT O (dJ O (bD 28 ah O aj O (fZ aK O (H78).get.2 O (aV (iU O O) (je O (fun h31 => ?_) (fun h31 => ?_)))))))
      · (try simp only [Z] at h31)
        have sV := jP oh hon hrun h31
        refine aC (jG O O (dJ O (bD 0 ah O aQ O (bD 7 aG O aj O (aH (eF 7 H78 aj) ?_)))))
        rintro _ w79 H79
        refine dJ O (bD 0 ah O aQ O (bD 8 aG O aj O (aH (eF 8 H79 aj) ?_)))
        rintro _ w80 H80
        refine iJ (jL O (dH dP O ?_))
        refine ⟨O, ?_⟩
        first
          | exact absurd (hw2.symm.trans hwh) (by decide)
          | exact absurd (hwh.symm.trans hw2) (by decide)
          | (rw [sV]; exact V.iF iw dF H80.f11.f11.f11.f11.f11.f11.f11.f11.f11.f11.f11)
      · (try simp only [Z] at h31)
        have sV := jg oh hon hrun h31
        refine gq (jL O (dH dP O ?_))
        refine ⟨O, ?_⟩
        first
          | exact absurd (hw2.symm.trans hwh) (by decide)
          | exact absurd (hwh.symm.trans hw2) (by decide)
          | (rw [sV]; exact V.iF iw dF H78.f11.f11.f11.f11.f11.f11.f11.f11.f11.f11.f11)
theorem AL {s : dG} {x : Int} (hin : s.inn = true) (hx : x ≠ 0) : s.BK x = s.xM ∧ s.zU x = x := by
  unfold dG.BK dG.zU
  rw [if_pos hin, if_neg hx, if_pos hin]; exact ⟨rfl, rfl⟩
theorem Qb {s : dG} (h : lT s) (hin : s.inn = true) : lT s.xM := by
  obtain ⟨h1, h2, h3⟩ := h.2.1 hin
  exact ⟨h1, fun h => Bool.noConfusion h, ⟨by show (-1 : Int) ≤ -1; decide, by show (-1 : Int) ≤ 1000000; decide⟩, by simp [dG.xM], h2, h3⟩
theorem Qc (hin : s.inn = true) (hx : x ≠ 0) (H : V w0 w (gB e s • F)) : gJ prog 31 #[.pointer (some ⟨e, 0, none⟩), .int .i64 x] w fun v w' => v = .int .i64 x ∧ V w0 w' (gB e s.xM • F) := by
 have hpe : s.yB = 0 := by unfold dG.yB; rw [if_pos hin]
 refine nT func31 ntmps31 ?_
 refine jr O (aP (bT O (dY O func81 (uh H) ?_)))
 rintro _ _ ⟨rfl, rfl⟩
 refine gI O (bT O (aV (iU O O) (je O (fun h => by exfalso; (try simp only [Z] at h); exact h hpe) (fun h1 => ?_))))
 (try simp only [Z] at h1)
 refine gq (aP ?_)
 obtain ⟨xQ, xR, xU, xW, xX, xY, xZ, yc, uN, su, sD, sF, sG, sH, sJ, sK, sN, sO, sQ, sS, iw, dF, lu, iI⟩ := (H).Gu
 have HI := iI
 rw [hin] at HI
 obtain ⟨qb, qr, qw, qt, qm, hu, HW⟩ := (HI.f11).was
 simp only [Nc, List.cons.injEq, and_true] at hu
 obtain ⟨rfl, rfl, rfl, rfl, rfl, rfl, rfl, rfl, rfl, rfl, rfl⟩ := hu
 refine aC (nD O O (bD 16 ah O aO O (aH (eF 16 HW.f6 aO) ?_)))
 rintro _ w3 H3
 refine pK (bT O (dJ O (bD 31 ah O aO O (fZ bK O (H3).get.2 O (aV (kT O) (jF O (fun h2 => ?_) (fun h2 => ?_)))))))
 ·(try simp only [Z] at h2)
  refine bJ (bJ (jE O O (iJ (Il (aC (jG O O (nD O O (bD 13 ah O aO O (aH (eF 13 H3 aO) ?_)))))))))
  rintro _ w4 H4
  refine dJ O (bD 14 ah O aO O (aH (eF 14 H4 aO) ?_))
  rintro _ w5 H5
  refine dJ O (bD 15 ah O aj O (aH (eF 15 H5 aj) ?_))
  rintro _ w6 H6
  refine pK (bT O (aV (iU O O) (je O (fun h3 => ?_) (fun h => by exfalso; (try simp only [Z] at h); exact hx h))))
  (try simp only [Z] at h3)
  refine bT O (nD O O (bD 17 ah O aQ O (aV (nU 17 (xs := [_, _, _, _, _, _, _, _, _, _, _]) aG O aQ O O (H6).get.2 O) (dJ O (bD 0 ah O aQ O (aH (bU 0 (l' := [_, _, _, _, _, _, _, _, _, _, _, _, _, _, _, _, _, _, _, _, _, _, _, _, _, _, _, _, _, _, _, _, _, _]) (us := [_, _, _, _, _, _, _, _, _, _, _]) H6 aQ O O O (aA (aA (aA (aA (aA (aA (aA (aA (aA (aA (aA bF))))))))))) O O) ?_))))))
  rintro _ w7 H7
  refine qR O (dJ O (bD 12 ah O sizeOf79 O (fZ underlying79 O (H7).get.2 O (dY O func83 (Dt H7.f13) ?_))))
  rintro _ w8 ⟨rfl, H8⟩
  refine qR O (jG O O (nD O O (bD 0 ah O aQ O (bD 6 aG O aj O (aH (eF 6 H8.f2 aj) ?_)))))
  rintro _ w9 H9
  refine dJ O (bD 0 ah O aQ O (bD 7 aG O aj O (aH (eF 7 H9 aj) ?_)))
  rintro _ w10 ql
  refine dJ O (bD 0 ah O aQ O (bD 8 aG O aj O (aH (eF 8 ql aj) ?_)))
  rintro _ EH rF
  refine dJ O (bD 33 ah O bH O (aH (eF 33 rF bH) ?_))
  rintro _ w12 uI
  refine qR O (fC O (aF (dH dP O ?_)))
  exact ⟨O, V.P8 (s := s.xM) (Qb iw hin) O O uI.f8.right.f8.right.f8.right.f8.right.f8.right.f9.right.f9.right.f2.f8.f8.f8.f8.f8.f8.f8⟩
 ·(try simp only [Z] at h2)
  refine bC (bP O (bC (aV (iU O O) (iL O O (je O (fun h4 => ?_) (fun h => by exfalso; (try simp only [Z] at h); exact hx h))))))
  (try simp only [Z] at h4)
  refine aC (jG O O (nD O O (bD 13 ah O aO O (aH (eF 13 H3 aO) ?_))))
  rintro _ Pj xk
  refine dJ O (bD 14 ah O aO O (aH (eF 14 xk aO) ?_))
  rintro _ RZ Ar
  refine dJ O (bD 15 ah O aj O (aH (eF 15 Ar aj) ?_))
  rintro _ Sz yT
  refine pK (bT O (aV (iU O O) (je O (fun h5 => ?_) (fun h => by exfalso; (try simp only [Z] at h); exact hx h))))
  (try simp only [Z] at h5)
  refine bT O (nD O O (bD 17 ah O aQ O (aV (nU 17 (xs := [_, _, _, _, _, _, _, _, _, _, _]) aG O aQ O O (yT).get.2 O) (dJ O (bD 0 ah O aQ O (aH (bU 0 (l' := [_, _, _, _, _, _, _, _, _, _, _, _, _, _, _, _, _, _, _, _, _, _, _, _, _, _, _, _, _, _, _, _, _, _]) (us := [_, _, _, _, _, _, _, _, _, _, _]) yT aQ O O O (aA (aA (aA (aA (aA (aA (aA (aA (aA (aA (aA bF))))))))))) O O) ?_))))))
  rintro _ w16 yO
  refine qR O (dJ O (bD 12 ah O sizeOf79 O (fZ underlying79 O (yO).get.2 O (dY O func83 (Dt yO.f13) ?_))))
  rintro _ Za ⟨rfl, Io⟩
  refine qR O (jG O O (nD O O (bD 0 ah O aQ O (bD 6 aG O aj O (aH (eF 6 Io.f2 aj) ?_)))))
  rintro _ XF CV
  refine dJ O (bD 0 ah O aQ O (bD 7 aG O aj O (aH (eF 7 CV aj) ?_)))
  rintro _ w19 D8
  refine dJ O (bD 0 ah O aQ O (bD 8 aG O aj O (aH (eF 8 D8 aj) ?_)))
  rintro _ w20 OX
  refine dJ O (bD 33 ah O bH O (aH (eF 33 OX bH) ?_))
  rintro _ w21 IC
  refine qR O (fC O (aF (dH dP O ?_)))
  exact ⟨O, V.P8 (s := s.xM) (Qb iw hin) O O IC.f8.right.f8.right.f8.right.f8.right.f8.right.f9.right.f9.right.f2.f8.f8.f8.f8.f8.f8.f8⟩
theorem Cb (H : V w0 w (gB e s • F)) : gJ prog 31 #[.pointer (some ⟨e, 0, none⟩), .int .i64 x] w fun v w' => v = .int .i64 (s.zU x) ∧ V w0 w' (gB e (s.BK x) • F) := by
  by_cases hin : s.inn = true
  · by_cases hx : x = 0
    · subst hx
      rw [show s.BK 0 = s.oM from by unfold dG.BK; rw [if_pos hin, if_pos rfl], show s.zU 0 = 0 from by unfold dG.zU; rw [if_pos hin]]
      exact NR hin H
    · rw [(AL hin hx).1, (AL hin hx).2]
      exact Qc hin hx H
  · have hin' : s.inn = false := by simpa using hin
    have hpe : s.yB = 1 := by unfold dG.yB; rw [if_neg hin]
    rw [show s.BK x = s from by unfold dG.BK; rw [if_neg hin], show s.zU x = 1 from by unfold dG.zU; rw [if_neg hin]]
    refine nT func31 ntmps31 ?_
    refine jr O (aP (bT O (dY O func81 (uh H) ?_)))
    rintro _ _ ⟨rfl, rfl⟩
    refine gI O (bT O (aV (iU O O) (je O (fun h1 => ?_) (fun h => by exfalso; (try simp only [Z] at h); rw [hpe] at h; exact absurd h (by decide)))))
    (try simp only [Z] at h1)
    refine bT O (fC O (aF (dH dP O ?_)))
    rw [hpe]
    exact ⟨O, H⟩
end
end Go.Proofs.YtpdeedplgmbopaaGreatDoor
end
section
namespace Go.Proofs.YtpdeedplgmbopaaGreatDoor
open Go.RowKit
theorem aaF {s : dG} (h : lT s) {G : List (List iT)} (h1 : iE G s.put ≤ iE s.here s.put) (h2 : ∀ g ∈ G, g ∈ s.here) : lT (s.wE G) := by
  obtain ⟨a1, a2, a3, a4, a5, a6⟩ := h
  refine ⟨a1, a2, a3, a4, ?_, ?_⟩
  · show iE (wU s.c.un s.c.place G s.c.place) s.put ≤ 16384
    rw [nO]; omega
  · intro k g hg
    have hg' : g ∈ wU s.c.un s.c.place G k := hg
    by_cases hk : k = s.c.place
    · subst hk; rw [nO] at hg'; exact a6 _ g (h2 g hg')
    · rw [tX _ _ hk] at hg'; exact a6 k g hg'
section
variable {w0 w : World} {F : HP} {e p : Nat} {s : dG} {x : Int}
end
def E8 (e : TypeId) (k : IntKind) : List Value → List (List Int) → HP
  | [], [] => emp
  | v :: vs, l :: ls => kW e k v l • E8 e k vs ls
  | _, _ => fact False
section
variable {w0 w : World} {F : HP} {e : TypeId} {k : IntKind} {v : Value} {l : List Int}
theorem V.V9 (H : V w0 w F) : V w0 w (E8 e k [] [] • F) := H.JW
theorem AO : ∀ (vs : List Value) (ls : List (List Int)), (E8 e k vs ls • kW e k v l) = E8 e k (vs ++ [v]) (ls ++ [l])
  | [], [] => by show (emp • kW e k v l) = (kW e k v l • emp); rw [vO]
  | u :: vs, m :: ls => by
    show ((kW e k u m • E8 e k vs ls) • kW e k v l) = (kW e k u m • E8 e k (vs ++ [v]) (ls ++ [l]))
    rw [bW, AO vs ls]
  | [], m :: ls => by
    apply HP.ext; funext I h; apply propext
    constructor
    · intro hp; exact absurd ((zF _ _ _ _).1 hp).1 id
    · intro hp
      cases ls with
      | nil => exact absurd (show False by obtain ⟨_, _, _, _, _, hb⟩ := hp; exact hb.1) id
      | cons x y => exact absurd (show False by obtain ⟨_, _, _, _, _, hb⟩ := hp; exact hb.1) id
  | u :: vs, [] => by
    apply HP.ext; funext I h; apply propext
    constructor
    · intro hp; exact absurd ((zF _ _ _ _).1 hp).1 id
    · intro hp
      cases vs with
      | nil => exact absurd (show False by obtain ⟨_, _, _, _, _, hb⟩ := hp; exact hb.1) id
      | cons x y => exact absurd (show False by obtain ⟨_, _, _, _, _, hb⟩ := hp; exact hb.1) id
theorem V.AO {vs : List Value} {ls : List (List Int)} (H : V w0 w (E8 e k vs ls • kW e k v l • F)) : V w0 w (E8 e k (vs ++ [v]) (ls ++ [l]) • F) := H.deep.of_eq (by rw [Go.Proofs.YtpdeedplgmbopaaGreatDoor.AO])
end
end Go.Proofs.YtpdeedplgmbopaaGreatDoor
end
section
namespace Go.Proofs.YtpdeedplgmbopaaGreatDoor
open Go.RowKit
open _root_.Go.Proofs.Tryz
section
variable {w0 w : World} {F : HP} {e p ph pw pt pr pm : Nat} {s : dG} {k x place : Int} {hl : List pR} {base most : Int} {tx : Int → Option ByteArray} {v : Value}
theorem NS (H : V w0 w (gK p hl base most • F)) : gJ prog 157 #[.pointer (some ⟨p, 0, none⟩), .int .i64 k] w fun v w' =>
  v = .tuple #[.agg #[.string (MO hl k).1, .int .i64 (MO hl k).2], .bool (decide (0 ≤ k ∧ k < hl.length))] ∧ V w0 w' (gK p hl base most • F) := by
 have hb : hl.length ≤ 4096 := by obtain ⟨v, h, _⟩ := H.hist; exact h.1
 refine nT func157 ntmps157 ?_
 refine iH (jv (fJ (l := [_, _]) H zeroValue218 O) ?_)
 rintro _ w1 ⟨b1, rfl, H1⟩
 refine wu O (bT O (aV (gY O O) (jF O (fun h1 => ?_) (fun h1 => ?_))))
 ·(try simp only [Z] at h1)
  refine bJ (bJ (bJ (bJ (jE O O (iJ (Il (iH (aV (dS (zl := [.string .empty, .int .i64 0]) (pl := [(0, 1), (1, 1)]) [_, _] kP zeroValue218 O (fun w => by kernel_rfl) O (.zero (zs := [.string .empty]) O (.zero (zs := [.int .i64 0]) O .nil)) O) (aH (bU 0 (l' := [_, _]) (us := [_, _]) H1 sizeOf218 O O O (aA (aA bF)) O O) ?_)))))))))
  rintro _ w2 H2
  refine fC O (aF ?_)
  refine pX (.inl O) (Um results157 O O kP O (by rw [Qd]; rfl) (H2).get.2) ?_
  exact ⟨by unfold MO; rw [if_neg (by omega), decide_eq_false (by omega)], H2.right⟩
 ·(try simp only [Z] at h1)
  refine bC (bP O (bC (bP O (bC (dY O func117 (nX H1.f2) ?_)))))
  rintro _ w3 ⟨rfl, H3⟩
  refine bC (aV (ku O O) (iL O O (je O (fun h2 => ?_) (fun h2 => ?_))))
  ·(try simp only [Z] at h2)
   refine iH (aV (dS (zl := [.string .empty, .int .i64 0]) (pl := [(0, 1), (1, 1)]) [_, _] kP zeroValue218 O (fun w => by kernel_rfl) O (.zero (zs := [.string .empty]) O (.zero (zs := [.int .i64 0]) O .nil)) O) (aH (bU 0 (l' := [_, _]) (us := [_, _]) H3.f2 sizeOf218 O O O (aA (aA bF)) O O) ?_))
   rintro _ w4 H4
   refine fC O (aF ?_)
   refine pX (.inl O) (Um results157 O O kP O (by rw [Qd]; rfl) (H4).get.2) ?_
   exact ⟨by unfold MO; rw [if_neg (by omega), decide_eq_false (by omega)], H4.right⟩
  ·(try simp only [Z] at h2)
   refine gq (aP ?_)
   obtain ⟨m, rfl⟩ := Int.eq_ofNat_of_zero_le (show 0 ≤ k by omega)
   obtain ⟨Pz, AY, zD⟩ := (H3).hist
   refine aC (nD O O (bD 0 kL O sizeOf151 O (bD 0 kM O sizeOf149 O (fZ fD O (zD).get.2 O (bP O ?_)))))
   obtain ⟨abW, abX, abY, Vt⟩ := Rd.pJ ((zD.f2).aS) (by omega)
   cases Vt
   refine aV (dD fD sizeOf218 O O (by omega)) (aV (qL (ys := [_, _]) ((zD.f2).aS) (by omega) kP O sizeOf218 O (rY Ju (by omega) default) O) (aH (bU 0 (l' := [_, _]) (us := [_, _]) zD.f3 sizeOf218 O O O (aA (aA bF)) O O) ?_))
   rintro _ w6 H6
   refine fC O ?_
   refine pX (.inl O) (Um results157 O O kP O (by rw [Qd]; rfl) (H6).get.2) ?_
   have Ho8 := H6.f3.f3
   have Yh := V.Dj AY Ho8
   exact ⟨by unfold MO; rw [if_pos (by omega), decide_eq_true (by omega)]; rfl, Yh.f2.right⟩
theorem Dx {x0 x1 x2 x3 x4 x5 x6 x7 x8 x9 x10 x12 uS x14 x15 x16 x17 x18 x19 x20 x21 vJ x23 x24 x25 wz x27 x28 x29 x30 x31 x32 wZ : Value} (H : V w0 w (dL e (.cells (x0 :: x1 :: x2 :: x3 :: x4 :: x5 :: x6 :: x7 :: x8 :: x9 :: x10 :: .pointer (some ⟨ph, 0, none⟩) :: x12 :: uS :: x14 :: x15 :: x16 :: x17 :: x18 :: x19 :: x20 :: x21 :: vJ :: x23 :: x24 :: x25 :: wz :: x27 :: x28 :: x29 :: x30 :: x31 :: x32 :: wZ :: []).toArray 82 (0, 0)) • gK ph hl base most • F)) : gJ prog 119 #[.pointer (some ⟨e, 0, none⟩), .int .i64 k] w fun v w' =>
    v = .string (yX hl k) ∧ V w0 w' (dL e (.cells (x0 :: x1 :: x2 :: x3 :: x4 :: x5 :: x6 :: x7 :: x8 :: x9 :: x10 :: .pointer (some ⟨ph, 0, none⟩) :: x12 :: uS :: x14 :: x15 :: x16 :: x17 :: x18 :: x19 :: x20 :: x21 :: vJ :: x23 :: x24 :: x25 :: wz :: x27 :: x28 :: x29 :: x30 :: x31 :: x32 :: wZ :: []).toArray 82 (0, 0)) • gK ph hl base most • F) := by
  refine nT func119 ntmps119 ?_
  refine jr O (bT O (dJ O (bD 11 ah O sizeOf78 O (fZ jM O (H).get.2 O (bP O (dY O func157 (NS H.f2) ?_))))))
  rintro _ w1 ⟨rfl, H1⟩
  refine bP O (qQ O O (qQ O O (jv (fJ (l := [_, _]) H1 zeroValue218 O) ?_)))
  rintro _ w2 ⟨b2, rfl, H2⟩
  refine aH (bU 0 (l' := [_, _]) (us := [_, _]) H2 sizeOf218 O O O (aA (aA bF)) O O) ?_
  rintro _ w3 H3
  refine gI O (iH (bD 0 kP O oD O (fZ kG O (H3).get.2 O (fC O (dH results119 O ?_)))))
  exact ⟨O, H3.right.f2⟩
theorem Tj {t : ByteArray} (h : tx k = some t) : (rP tx k).getD (.string .empty) = .string t ∧ (rP tx k).isSome = true := by unfold rP; rw [h]; exact ⟨rfl, rfl⟩
theorem EM : (rP tx k).isSome = (tx k).isSome := by unfold rP; cases tx k <;> rfl
theorem yj {x0 x1 x3 x4 x5 x6 x7 x8 x9 x10 x12 uS x14 x15 x16 x17 x18 x19 x20 x21 vJ x23 x24 x25 wz x27 x28 x29 x30 x31 x32 wZ : Value} (H : V w0 w (dL e (.cells (x0 :: x1 :: .pointer (some ⟨pw, 0, none⟩) :: x3 :: x4 :: x5 :: x6 :: x7 :: x8 :: x9 :: x10 :: .pointer (some ⟨ph, 0, none⟩) :: x12 :: uS :: x14 :: x15 :: x16 :: x17 :: x18 :: x19 :: x20 :: x21 :: vJ :: x23 :: x24 :: x25 :: wz :: x27 :: x28 :: x29 :: x30 :: x31 :: x32 :: wZ :: []).toArray 82 (0, 0)) • dL pw (.cells #[v, .map (some pt)] 122 (0, 0)) • fG qI pt (rP tx) • gK ph hl base most • F)) :
    gJ prog 118 #[.pointer (some ⟨e, 0, none⟩), .int .i64 k] w fun v' w' =>
    v' = .string (jl hl tx k) ∧ V w0 w' (dL e (.cells (x0 :: x1 :: .pointer (some ⟨pw, 0, none⟩) :: x3 :: x4 :: x5 :: x6 :: x7 :: x8 :: x9 :: x10 :: .pointer (some ⟨ph, 0, none⟩) :: x12 :: uS :: x14 :: x15 :: x16 :: x17 :: x18 :: x19 :: x20 :: x21 :: vJ :: x23 :: x24 :: x25 :: wz :: x27 :: x28 :: x29 :: x30 :: x31 :: x32 :: wZ :: []).toArray 82 (0, 0)) • dL pw (.cells #[v, .map (some pt)] 122 (0, 0)) • fG qI pt (rP tx) • gK ph hl base most • F) := by
  refine nT func118 ntmps118 ?_
  refine jr O (aP (bT O (dJ O (bD 0 ah O aQ O (bD 2 aG O sizeOf74 O (fZ kE O (H).get.2 O (dJ O (bD 1 eX O sizeOf120 O (fZ underlying120 O (H.f2).get.2 O (bP O (aV (zX (H.f3) underlying120 aK zeroValue9 O O) (bP O (qQ O O (qQ O O (fV O (gI O (bT O (je O (fun h1 => ?_) (fun h1 => ?_)))))))))))))))))))
  · (try simp only [Z] at h1)
    obtain ⟨tt, htt⟩ := Option.isSome_iff_exists.1 (EM (tx := tx) ▸ h1)
    refine bT O (fC O (aF (dH results118 O ?_)))
    exact ⟨by unfold jl; rw [htt]; show (rP tx k).getD (.string .empty) = _; rw [(Tj htt).1]; rfl, H.f4.f4.f4.f4⟩
  · (try simp only [Z] at h1)
    have htt : tx k = none := by have := EM (tx := tx) (k := k) ▸ h1; simpa using this
    refine gq (bT O (bP O (dY O func119 (Dx H.f4.f2) ?_)))
    rintro _ w1 ⟨rfl, H1⟩
    refine fC O (dH results118 O ?_)
    exact ⟨by unfold jl; rw [htt]; rfl, H1.f2.f4.f4.f4⟩
end
end Go.Proofs.YtpdeedplgmbopaaGreatDoor
end
