import Derived.Test.YtpdeedplgmbopaaGreatDoorZ4
import Derived.Test.YtpdeedplgmbopaaGreatDoorZ13
import Derived.Test.YtpdeedplgmbopaaGreatDoorZ6
set_option linter.unusedSimpArgs false
set_option linter.unusedVariables false
/- Texts of mine, joined, their names in short: EdE EdU Owns EdS. -/
section
namespace Go.Proofs.YtpdeedplgmbopaaGreatDoor
open Go.RowKit
open _root_.Go.Proofs.Tryz
theorem yU (s : dF) (on : Bool) : (s.gK on).c.run = s.c.run := by unfold dF.gK; split <;> rfl
theorem G6 (s : dF) (on : Bool) : (s.gK on).cls = s.cls := by unfold dF.gK; split <;> rfl
theorem jM {s s1 : dF} {on run : Bool} (h1 : s1 = s.jT) (hon : (s.typed && s.c.run) = on) (hrun : (s.typed && (!s.put.isEmpty || s.c.run)) = run) (h2 : (s1.gK on).cls ≠ 2) :
    s.oK = { s1.gK on with c := { (s1.gK on).c with run := run, last := (s1.gK on).cls, fr := 0, to := 0 } } := by
  subst h1 hon hrun
  have hc : (s.jT.gK (s.typed && s.c.run)).cls = s.cls := by rw [G6]; unfold dF.jT; split <;> rfl
  unfold dF.oK
  rw [hc] at h2 ⊢
  dsimp only
  rw [if_pos h2]
theorem jf {s s1 : dF} {on run : Bool} (h1 : s1 = s.jT) (hon : (s.typed && s.c.run) = on) (hrun : (s.typed && (!s.put.isEmpty || s.c.run)) = run) (h2 : (s1.gK on).cls = 2) :
    s.oK = { s1.gK on with c := { (s1.gK on).c with run := run, last := (s1.gK on).cls } } := by
  subst h1 hon hrun
  have hc : (s.jT.gK (s.typed && s.c.run)).cls = s.cls := by rw [G6]; unfold dF.jT; split <;> rfl
  unfold dF.oK
  rw [hc] at h2 ⊢
  dsimp only
  rw [if_neg (by omega)]
theorem sK {s : dF} (h : lM s) : lM s.jT := by
  obtain ⟨h1, h2, h3, h4, h5, h6⟩ := h
  unfold dF.jT
  split
  · exact ⟨h1, fun h => Bool.noConfusion h, h3, h4, h5, h6⟩
  · exact ⟨h1, fun h => Bool.noConfusion h, ⟨by show (-1 : Int) ≤ -1; decide, by show (-1 : Int) ≤ 1000000; decide⟩, h4, h5, h6⟩
theorem oG {l : List iR} : l.isEmpty = decide (l.length = 0) := by cases l <;> rfl
section
variable {w0 w : World} {F : HP} {e p : Nat} {s : dF} {x : Int}
theorem NH (hin : s.inn = true) (H : V w0 w (gB e s • F)) : gI prog 31 #[.pointer (some ⟨e, 0, none⟩), .int .i64 0] w fun v w' => v = .int .i64 0 ∧ V w0 w' (gB e s.oK • F) := by
  have hpe : s.yc = 0 := by unfold dF.yc; rw [if_pos hin]
  refine oq func31 ntmps31 ?_
  refine jg O (aP (bP O (dS O func81 (tJ H) ?_)))
  rintro _ _ ⟨rfl, rfl⟩
  refine gJ O (bP O (aV (iO O O) (jh O (fun h => by exfalso; (try simp only [Z] at h); exact h hpe) (fun h1 => ?_))))
  (try simp only [Z] at h1)
  refine fZ (aP ?_)
  obtain ⟨xG, xH, xI, xJ, xK, xM, xO, xP, uy, rV, rW, rX, rY, rZ, su, sD, sF, sG, sH, sJ, iw, dD, kV, iI⟩ := (H).Gp
  refine aC (nD O O (bD 16 ah O aO O (aH (dZ 16 iI aO) ?_)))
  rintro _ w3 H3
  refine pJ (bP O (dJ O (bD 31 ah O aO O (fG bK O (H3).get.2 O (aV (lY O) (jP O (fun h2 => ?_) (fun h2 => ?_)))))))
  · (try simp only [Z] at h2)
    have har : s.argues = false := by simpa using h2
    have hs1 : ({ s.zM with inn := false } : dF) = s.jT := by unfold dF.jT; rw [if_neg (by simp [har])]
    refine bI (bI (jF O O (iJ (EK (aC (jJ O O (nD O O (bD 13 ah O aO O (aH (dZ 13 H3 aO) ?_)))))))))
    rintro _ w4 H4
    refine dJ O (bD 14 ah O aO O (aH (dZ 14 H4 aO) ?_))
    rintro _ w5 H5
    refine dJ O (bD 15 ah O aj O (aH (dZ 15 H5 aj) ?_))
    rintro _ w6 H6
    refine pJ (bP O (aV (iO O O) (iJ (Jk O (fun h3 => ?_)))))
    (try simp only [Z] at h3)
    refine fZ (aP ?_)
    have Bf := H6.drew
    have jd := V.kp (Bf.f11.f11.f11.f11.f11.f11.f11.f11.f11.f11.f11)
    refine yC [3, 9, 14] jd O (jG 0 O jd O (kD 1 O jd O (gV 2 O jd 28 ah O aj O (jS 3 O jd (fun W hW => jX aK O ((Kp.h hW)).get.2 O) (jB 4 O jd (fun _ => dV O O) ?_)))))
    refine FH 5 O O (by kernel_rfl) (by kernel_rfl) jd (lX O) (fun h4 => ?_) (fun h4 => ?_)
    · (try simp only [Z] at h4)
      have hc3 : s.cls = 3 := h4
      refine jv 6 O O O (by kernel_rfl) (by kernel_rfl) jd (fun _ => Bl O) (lX O) ?_
      refine jv 7 O O O (by kernel_rfl) (by kernel_rfl) jd (fun _ => Lu O) (lX O) ?_
      refine jv 8 O O O (by kernel_rfl) (by kernel_rfl) jd (fun _ => Ce 32 ah O O aO (by decide) O rfl) (lX O) ?_
      refine zy 9 O O O (by kernel_rfl) (by kernel_rfl) jd (by decide) (fun W hW => fA (dn bK O) O (je ((Kp.h hW)).get.2 O)) (lX O) ?_
      refine jB 10 O jd (fun _ => BZ O O) (jG 11 O jd O (kD 12 O jd O (gV 13 O jd 33 ah O bH O (jS 14 O jd (fun W hW => jX aU O ((Kp.h hW)).get.2 O) (jB 15 O jd (fun _ => jw ((Bf.f9).aS) aU O) (jB 16 O jd (fun _ => iV O O) (jB 17 O jd (fun _ => dN O) (jB 18 O jd (fun _ => dN O) (qR (aX (bP O (bQ O (jP O (fun h5 => ?_) (fun h5 => ?_))))))))))))))
      · (try simp only [Z] at h5)
        have hwh : s.whole = true := h5
        have hty : s.typed = true := by unfold dF.typed; rw [hc3, hwh]; rfl
        refine bC (bQ O (bC (dJ O (bC (bD 0 ah O aQ O (bC (bD 10 aG O aO O (bC (fG bK O (Bf).get.2 O (jF O O ?_))))))))))
        have hwo := wE (Bf.f11)
        have Z4 := Bf.f11.right
        have HW0 := V.BK (c := s.was) (u := [rV, rW, rX, rY, rZ, su, sD, sF, sG, sH, sJ]) Z4 hwo
        obtain ⟨s1, nZ, V9⟩ : ∃ s1, s1 = s.jT ∧ V w0 (w6.drew) (gB e s1 • F) := ⟨_, hs1, V.iH (hs1 ▸ sK iw) dD HW0.f11.f11.f11.f11.f11.f11.f11.f11.f11.f11⟩
        have hr1 : s1.c.run = s.c.run := by rw [nZ]; unfold dF.jT; split <;> rfl
        refine dS O func84 (pG V9) ?_
        rintro _ w8 H8
        obtain ⟨on, hon, HZ⟩ : ∃ on, (s.typed && s.c.run) = on ∧ V w0 w8 (gB e (s1.gK on) • F) := ⟨_, by rw [hty]; rfl, H8⟩
        refine pJ ?_
        obtain ⟨xG, xH, xI, xJ, xK, xM, xO, xP, uy, rV, rW, rX, rY, rZ, su, sD, sF, sG, sH, sJ, iw, dD, kV, iI⟩ := (HZ).Gp
        refine aC (jJ O O (jP O (fun h6 => ?_) (fun h6 => ?_)))
        · (try simp only [Z] at h6)
          have hw2 : s.whole = true := h6
          refine bC (bQ O (bC (jP O (fun h7 => ?_) (fun h7 => ?_))))
          · (try simp only [Z] at h7)
            have hrun : (s.typed && (!s.put.isEmpty || s.c.run)) = true := by first | exact absurd (hw2.symm.trans hwh) (by decide) | (rw [oG, decide_eq_false (show ¬ s.put.length = 0 by omega), hty]; rfl)
            refine bI (bI (bI (bI (bI (bC (jF O O (jF O O (dJ O (bD 0 ah O aQ O (bD 10 aG O aO O (aH (dZ 10 iI aO) ?_)))))))))))
            rintro _ w10 pV
            refine qH O (nD O O (bD 28 ah O aj O (fG aK O (pV).get.2 O (dJ O (bD 0 ah O aQ O (bD 6 aG O aj O (aH (dZ 6 pV aj) ?_)))))))
            rintro _ DU qo
            refine pJ (bP O (dJ O (bD 28 ah O aj O (fG aK O (qo).get.2 O (aV (iO O O) (jh O (fun h8 => ?_) (fun h8 => ?_)))))))
            · (try simp only [Z] at h8)
              have sN := jM nZ hon hrun h8
              refine aC (jJ O O (dJ O (bD 0 ah O aQ O (bD 7 aG O aj O (aH (dZ 7 qo aj) ?_)))))
              rintro _ w12 um
              refine dJ O (bD 0 ah O aQ O (bD 8 aG O aj O (aH (dZ 8 um aj) ?_)))
              rintro _ Oz uS
              refine iJ (jC O (dG dO O ?_))
              refine ⟨O, ?_⟩
              first
                | exact absurd (hw2.symm.trans hwh) (by decide)
                | exact absurd (hwh.symm.trans hw2) (by decide)
                | (rw [sN]; exact V.iH iw dD uS.f11.f11.f11.f11.f11.f11.f11.f11.f11.f11.f11)
            · (try simp only [Z] at h8)
              have sN := jf nZ hon hrun h8
              refine fZ (jC O (dG dO O ?_))
              refine ⟨O, ?_⟩
              first
                | exact absurd (hw2.symm.trans hwh) (by decide)
                | exact absurd (hwh.symm.trans hw2) (by decide)
                | (rw [sN]; exact V.iH iw dD qo.f11.f11.f11.f11.f11.f11.f11.f11.f11.f11.f11)
          · (try simp only [Z] at h7)
            have hrun : (s.typed && (!s.put.isEmpty || s.c.run)) = (s1.gK on).c.run := by first | exact absurd (hw2.symm.trans hwh) (by decide) | (rw [oG, decide_eq_true (show s.put.length = 0 by omega), hty, yU, hr1]; rfl)
            refine bC (bQ O (bC (dJ O (bC (bD 0 ah O aQ O (bC (bD 10 aG O aO O (bC (fG bK O (iI).get.2 O (bC (iM O O (jF O O (dJ O (bD 0 ah O aQ O (bD 10 aG O aO O (aH (dZ 10 iI aO) ?_))))))))))))))))
            rintro _ RV Ag
            refine qH O (nD O O (bD 28 ah O aj O (fG aK O (Ag).get.2 O (dJ O (bD 0 ah O aQ O (bD 6 aG O aj O (aH (dZ 6 Ag aj) ?_)))))))
            rintro _ Sr yM
            refine pJ (bP O (dJ O (bD 28 ah O aj O (fG aK O (yM).get.2 O (aV (iO O O) (jh O (fun h9 => ?_) (fun h9 => ?_)))))))
            · (try simp only [Z] at h9)
              have sN := jM nZ hon hrun h9
              refine aC (jJ O O (dJ O (bD 0 ah O aQ O (bD 7 aG O aj O (aH (dZ 7 yM aj) ?_)))))
              rintro _ w16 yH
              refine dJ O (bD 0 ah O aQ O (bD 8 aG O aj O (aH (dZ 8 yH aj) ?_)))
              rintro _ Zc Ig
              refine iJ (jC O (dG dO O ?_))
              refine ⟨O, ?_⟩
              first
                | exact absurd (hw2.symm.trans hwh) (by decide)
                | exact absurd (hwh.symm.trans hw2) (by decide)
                | (rw [sN]; exact V.iH iw dD Ig.f11.f11.f11.f11.f11.f11.f11.f11.f11.f11.f11)
            · (try simp only [Z] at h9)
              have sN := jf nZ hon hrun h9
              refine fZ (jC O (dG dO O ?_))
              refine ⟨O, ?_⟩
              first
                | exact absurd (hw2.symm.trans hwh) (by decide)
                | exact absurd (hwh.symm.trans hw2) (by decide)
                | (rw [sN]; exact V.iH iw dD yM.f11.f11.f11.f11.f11.f11.f11.f11.f11.f11.f11)
        · (try simp only [Z] at h6)
          have hw2 : s.whole = false := by simpa using h6
          have hrun : (s.typed && (!s.put.isEmpty || s.c.run)) = false := by first | exact absurd (hwh.symm.trans hw2) (by decide) | (rw [hty]; rfl)
          refine bI (bI (mV (mV (mV (mV (mV (bI (iM O O (dJ O (bD 0 ah O aQ O (bD 10 aG O aO O (aH (dZ 10 iI aO) ?_))))))))))))
          rintro _ XF CG
          refine qH O (nD O O (bD 28 ah O aj O (fG aK O (CG).get.2 O (dJ O (bD 0 ah O aQ O (bD 6 aG O aj O (aH (dZ 6 CG aj) ?_)))))))
          rintro _ w19 DW
          refine pJ (bP O (dJ O (bD 28 ah O aj O (fG aK O (DW).get.2 O (aV (iO O O) (jh O (fun h10 => ?_) (fun h10 => ?_)))))))
          · (try simp only [Z] at h10)
            have sN := jM nZ hon hrun h10
            refine aC (jJ O O (dJ O (bD 0 ah O aQ O (bD 7 aG O aj O (aH (dZ 7 DW aj) ?_)))))
            rintro _ w20 OU
            refine dJ O (bD 0 ah O aQ O (bD 8 aG O aj O (aH (dZ 8 OU aj) ?_)))
            rintro _ w21 Ir
            refine iJ (jC O (dG dO O ?_))
            refine ⟨O, ?_⟩
            first
              | exact absurd (hw2.symm.trans hwh) (by decide)
              | exact absurd (hwh.symm.trans hw2) (by decide)
              | (rw [sN]; exact V.iH iw dD Ir.f11.f11.f11.f11.f11.f11.f11.f11.f11.f11.f11)
          · (try simp only [Z] at h10)
            have sN := jf nZ hon hrun h10
            refine fZ (jC O (dG dO O ?_))
            refine ⟨O, ?_⟩
            first
              | exact absurd (hw2.symm.trans hwh) (by decide)
              | exact absurd (hwh.symm.trans hw2) (by decide)
              | (rw [sN]; exact V.iH iw dD DW.f11.f11.f11.f11.f11.f11.f11.f11.f11.f11.f11)
      · (try simp only [Z] at h5)
        have hwh : s.whole = false := by simpa using h5
        have hty : s.typed = false := by unfold dF.typed; rw [hc3, hwh]; rfl
        have hrun : (s.typed && (!s.put.isEmpty || s.c.run)) = false := by rw [hty]; rfl
        refine bI (bI (bI (bI (bI (iM O O ?_)))))
        have hwo := wE (Bf.f11)
        have Vl := Bf.f11.right
        have HW0 := V.BK (c := s.was) (u := [rV, rW, rX, rY, rZ, su, sD, sF, sG, sH, sJ]) Vl hwo
        obtain ⟨s1, nZ, V9⟩ : ∃ s1, s1 = s.jT ∧ V w0 (w6.drew) (gB e s1 • F) := ⟨_, hs1, V.iH (hs1 ▸ sK iw) dD HW0.f11.f11.f11.f11.f11.f11.f11.f11.f11.f11⟩
        have hr1 : s1.c.run = s.c.run := by rw [nZ]; unfold dF.jT; split <;> rfl
        refine dS O func84 (pG V9) ?_
        rintro _ w23 Iu
        obtain ⟨on, hon, HZ⟩ : ∃ on, (s.typed && s.c.run) = on ∧ V w0 w23 (gB e (s1.gK on) • F) := ⟨_, by rw [hty]; rfl, Iu⟩
        refine pJ ?_
        obtain ⟨xG, xH, xI, xJ, xK, xM, xO, xP, uy, rV, rW, rX, rY, rZ, su, sD, sF, sG, sH, sJ, iw, dD, kV, iI⟩ := (HZ).Gp
        refine aC (jJ O O (jP O (fun h11 => ?_) (fun h11 => ?_)))
        · (try simp only [Z] at h11)
          have hw2 : s.whole = true := h11
          refine bC (bQ O (bC (jP O (fun h12 => ?_) (fun h12 => ?_))))
          · (try simp only [Z] at h12)
            have hrun : (s.typed && (!s.put.isEmpty || s.c.run)) = true := by first | exact absurd (hw2.symm.trans hwh) (by decide) | (rw [oG, decide_eq_false (show ¬ s.put.length = 0 by omega), hty]; rfl)
            refine bI (bI (bI (bI (bI (bC (jF O O (jF O O (dJ O (bD 0 ah O aQ O (bD 10 aG O aO O (aH (dZ 10 iI aO) ?_)))))))))))
            rintro _ w25 Uc
            refine qH O (nD O O (bD 28 ah O aj O (fG aK O (Uc).get.2 O (dJ O (bD 0 ah O aQ O (bD 6 aG O aj O (aH (dZ 6 Uc aj) ?_)))))))
            rintro _ w26 VP
            refine pJ (bP O (dJ O (bD 28 ah O aj O (fG aK O (VP).get.2 O (aV (iO O O) (jh O (fun h13 => ?_) (fun h13 => ?_)))))))
            · (try simp only [Z] at h13)
              have sN := jM nZ hon hrun h13
              refine aC (jJ O O (dJ O (bD 0 ah O aQ O (bD 7 aG O aj O (aH (dZ 7 VP aj) ?_)))))
              rintro _ w27 Nv
              refine dJ O (bD 0 ah O aQ O (bD 8 aG O aj O (aH (dZ 8 Nv aj) ?_)))
              rintro _ w28 H28
              refine iJ (jC O (dG dO O ?_))
              refine ⟨O, ?_⟩
              first
                | exact absurd (hw2.symm.trans hwh) (by decide)
                | exact absurd (hwh.symm.trans hw2) (by decide)
                | (rw [sN]; exact V.iH iw dD H28.f11.f11.f11.f11.f11.f11.f11.f11.f11.f11.f11)
            · (try simp only [Z] at h13)
              have sN := jf nZ hon hrun h13
              refine fZ (jC O (dG dO O ?_))
              refine ⟨O, ?_⟩
              first
                | exact absurd (hw2.symm.trans hwh) (by decide)
                | exact absurd (hwh.symm.trans hw2) (by decide)
                | (rw [sN]; exact V.iH iw dD VP.f11.f11.f11.f11.f11.f11.f11.f11.f11.f11.f11)
          · (try simp only [Z] at h12)
            have hrun : (s.typed && (!s.put.isEmpty || s.c.run)) = (s1.gK on).c.run := by first | exact absurd (hw2.symm.trans hwh) (by decide) | (rw [oG, decide_eq_true (show s.put.length = 0 by omega), hty, yU, hr1]; rfl)
            refine bC (bQ O (bC (dJ O (bC (bD 0 ah O aQ O (bC (bD 10 aG O aO O (bC (fG bK O (iI).get.2 O (bC (iM O O (jF O O (dJ O (bD 0 ah O aQ O (bD 10 aG O aO O (aH (dZ 10 iI aO) ?_))))))))))))))))
            rintro _ w29 Yg
            refine qH O (nD O O (bD 28 ah O aj O (fG aK O (Yg).get.2 O (dJ O (bD 0 ah O aQ O (bD 6 aG O aj O (aH (dZ 6 Yg aj) ?_)))))))
            rintro _ w30 Vo
            refine pJ (bP O (dJ O (bD 28 ah O aj O (fG aK O (Vo).get.2 O (aV (iO O O) (jh O (fun h14 => ?_) (fun h14 => ?_)))))))
            · (try simp only [Z] at h14)
              have sN := jM nZ hon hrun h14
              refine aC (jJ O O (dJ O (bD 0 ah O aQ O (bD 7 aG O aj O (aH (dZ 7 Vo aj) ?_)))))
              rintro _ w31 SI
              refine dJ O (bD 0 ah O aQ O (bD 8 aG O aj O (aH (dZ 8 SI aj) ?_)))
              rintro _ w32 Nw
              refine iJ (jC O (dG dO O ?_))
              refine ⟨O, ?_⟩
              first
                | exact absurd (hw2.symm.trans hwh) (by decide)
                | exact absurd (hwh.symm.trans hw2) (by decide)
                | (rw [sN]; exact V.iH iw dD Nw.f11.f11.f11.f11.f11.f11.f11.f11.f11.f11.f11)
            · (try simp only [Z] at h14)
              have sN := jf nZ hon hrun h14
              refine fZ (jC O (dG dO O ?_))
              refine ⟨O, ?_⟩
              first
                | exact absurd (hw2.symm.trans hwh) (by decide)
                | exact absurd (hwh.symm.trans hw2) (by decide)
                | (rw [sN]; exact V.iH iw dD Vo.f11.f11.f11.f11.f11.f11.f11.f11.f11.f11.f11)
        · (try simp only [Z] at h11)
          have hw2 : s.whole = false := by simpa using h11
          have hrun : (s.typed && (!s.put.isEmpty || s.c.run)) = false := by first | exact absurd (hwh.symm.trans hw2) (by decide) | (rw [hty]; rfl)
          refine bI (bI (mV (mV (mV (mV (mV (bI (iM O O (dJ O (bD 0 ah O aQ O (bD 10 aG O aO O (aH (dZ 10 iI aO) ?_))))))))))))
          rintro _ w33 Xj
          refine qH O (nD O O (bD 28 ah O aj O (fG aK O (Xj).get.2 O (dJ O (bD 0 ah O aQ O (bD 6 aG O aj O (aH (dZ 6 Xj aj) ?_)))))))
          rintro _ w34 VR
          refine pJ (bP O (dJ O (bD 28 ah O aj O (fG aK O (VR).get.2 O (aV (iO O O) (jh O (fun h15 => ?_) (fun h15 => ?_)))))))
          · (try simp only [Z] at h15)
            have sN := jM nZ hon hrun h15
            refine aC (jJ O O (dJ O (bD 0 ah O aQ O (bD 7 aG O aj O (aH (dZ 7 VR aj) ?_)))))
            rintro _ w35 H35
            refine dJ O (bD 0 ah O aQ O (bD 8 aG O aj O (aH (dZ 8 H35 aj) ?_)))
            rintro _ w36 H36
            refine iJ (jC O (dG dO O ?_))
            refine ⟨O, ?_⟩
            first
              | exact absurd (hw2.symm.trans hwh) (by decide)
              | exact absurd (hwh.symm.trans hw2) (by decide)
              | (rw [sN]; exact V.iH iw dD H36.f11.f11.f11.f11.f11.f11.f11.f11.f11.f11.f11)
          · (try simp only [Z] at h15)
            have sN := jf nZ hon hrun h15
            refine fZ (jC O (dG dO O ?_))
            refine ⟨O, ?_⟩
            first
              | exact absurd (hw2.symm.trans hwh) (by decide)
              | exact absurd (hwh.symm.trans hw2) (by decide)
              | (rw [sN]; exact V.iH iw dD VR.f11.f11.f11.f11.f11.f11.f11.f11.f11.f11.f11)
    · (try simp only [Z] at h4)
      have hty : s.typed = false := by unfold dF.typed; rw [beq_false_of_ne h4]; rfl
      have hrun : (s.typed && (!s.put.isEmpty || s.c.run)) = false := by rw [hty]; rfl
      refine vS 6 O O O O (by kernel_rfl) (by kernel_rfl) jd (lX O) ?_
      refine vS 7 O O O O (by kernel_rfl) (by kernel_rfl) jd (lX O) ?_
      refine vS 8 O O O O (by kernel_rfl) (by kernel_rfl) jd (lX O) ?_
      refine vS 9 O O O O (by kernel_rfl) (by kernel_rfl) jd (lX O) ?_
      refine jB 10 O jd (fun _ => Cb O O) (jG 11 O jd O (kD 12 O jd O (gV 13 O jd 33 ah O bH O (jS 14 O jd (fun W hW => jX aU O ((Kp.h hW)).get.2 O) (jB 15 O jd (fun _ => jw ((Bf.f9).aS) aU O) (jB 16 O jd (fun _ => iV O O) (jB 17 O jd (fun _ => dN O) (jB 18 O jd (fun _ => dN O) (qR (aX (bP O (jJ O O (bI (bI (bI (bI (bI (iM O O ?_))))))))))))))))))
      have hwo := wE (Bf.f11)
      have aaE := Bf.f11.right
      have HW0 := V.BK (c := s.was) (u := [rV, rW, rX, rY, rZ, su, sD, sF, sG, sH, sJ]) aaE hwo
      obtain ⟨s1, nZ, V9⟩ : ∃ s1, s1 = s.jT ∧ V w0 (w6.drew) (gB e s1 • F) := ⟨_, hs1, V.iH (hs1 ▸ sK iw) dD HW0.f11.f11.f11.f11.f11.f11.f11.f11.f11.f11⟩
      have hr1 : s1.c.run = s.c.run := by rw [nZ]; unfold dF.jT; split <;> rfl
      refine dS O func84 (pG V9) ?_
      rintro _ w38 PX
      obtain ⟨on, hon, HZ⟩ : ∃ on, (s.typed && s.c.run) = on ∧ V w0 w38 (gB e (s1.gK on) • F) := ⟨_, by rw [hty]; rfl, PX⟩
      refine pJ ?_
      obtain ⟨xG, xH, xI, xJ, xK, xM, xO, xP, uy, rV, rW, rX, rY, rZ, su, sD, sF, sG, sH, sJ, iw, dD, kV, iI⟩ := (HZ).Gp
      refine aC (jJ O O (bQ O (bI (bI (mV (mV (mV (mV (mV (bI (iM O O (dJ O (bD 0 ah O aQ O (bD 10 aG O aO O (aH (dZ 10 iI aO) ?_)))))))))))))))
      rintro _ w40 H40
      refine qH O (nD O O (bD 28 ah O aj O (fG aK O (H40).get.2 O (dJ O (bD 0 ah O aQ O (bD 6 aG O aj O (aH (dZ 6 H40 aj) ?_)))))))
      rintro _ w41 Yb
      refine pJ (bP O (dJ O (bD 28 ah O aj O (fG aK O (Yb).get.2 O (aV (iO O O) (jh O (fun h16 => ?_) (fun h16 => ?_)))))))
      · (try simp only [Z] at h16)
        have sN := jM nZ hon hrun h16
        refine aC (jJ O O (dJ O (bD 0 ah O aQ O (bD 7 aG O aj O (aH (dZ 7 Yb aj) ?_)))))
        rintro _ w42 H42
        refine dJ O (bD 0 ah O aQ O (bD 8 aG O aj O (aH (dZ 8 H42 aj) ?_)))
        rintro _ w43 H43
        refine iJ (jC O (dG dO O ?_))
        refine ⟨O, ?_⟩
        first
          | exact absurd (hw2.symm.trans hwh) (by decide)
          | exact absurd (hwh.symm.trans hw2) (by decide)
          | (rw [sN]; exact V.iH iw dD H43.f11.f11.f11.f11.f11.f11.f11.f11.f11.f11.f11)
      · (try simp only [Z] at h16)
        have sN := jf nZ hon hrun h16
        refine fZ (jC O (dG dO O ?_))
        refine ⟨O, ?_⟩
        first
          | exact absurd (hw2.symm.trans hwh) (by decide)
          | exact absurd (hwh.symm.trans hw2) (by decide)
          | (rw [sN]; exact V.iH iw dD Yb.f11.f11.f11.f11.f11.f11.f11.f11.f11.f11.f11)
  · (try simp only [Z] at h2)
    have har : s.argues = true := by simpa using h2
    have hs1 : ({ s with inn := false } : dF) = s.jT := by unfold dF.jT; rw [if_pos har]
    refine bC (bQ O (bC (aV (iO O O) (iM O O (iJ (Jk O (fun h17 => ?_)))))))
    (try simp only [Z] at h17)
    refine fZ (aP (bP O (aV (iO O O) (iJ (Jk O (fun h18 => ?_))))))
    (try simp only [Z] at h18)
    refine fZ (aP ?_)
    have xR := H3.drew
    have gU := V.kp (xR.f11.f11.f11.f11.f11.f11.f11.f11.f11.f11.f11)
    refine yC [3, 9, 14] gU O (jG 0 O gU O (kD 1 O gU O (gV 2 O gU 28 ah O aj O (jS 3 O gU (fun W hW => jX aK O ((Kp.h hW)).get.2 O) (jB 4 O gU (fun _ => dV O O) ?_)))))
    refine FH 5 O O (by kernel_rfl) (by kernel_rfl) gU (lX O) (fun h19 => ?_) (fun h19 => ?_)
    · (try simp only [Z] at h19)
      have hc3 : s.cls = 3 := h19
      refine jv 6 O O O (by kernel_rfl) (by kernel_rfl) gU (fun _ => Bl O) (lX O) ?_
      refine jv 7 O O O (by kernel_rfl) (by kernel_rfl) gU (fun _ => Lu O) (lX O) ?_
      refine jv 8 O O O (by kernel_rfl) (by kernel_rfl) gU (fun _ => Ce 32 ah O O aO (by decide) O rfl) (lX O) ?_
      refine zy 9 O O O (by kernel_rfl) (by kernel_rfl) gU (by decide) (fun W hW => fA (dn bK O) O (je ((Kp.h hW)).get.2 O)) (lX O) ?_
      refine jB 10 O gU (fun _ => BZ O O) (jG 11 O gU O (kD 12 O gU O (gV 13 O gU 33 ah O bH O (jS 14 O gU (fun W hW => jX aU O ((Kp.h hW)).get.2 O) (jB 15 O gU (fun _ => jw ((xR.f9).aS) aU O) (jB 16 O gU (fun _ => iV O O) (jB 17 O gU (fun _ => dN O) (jB 18 O gU (fun _ => dN O) (qR (aX (bP O (bQ O (jP O (fun h20 => ?_) (fun h20 => ?_))))))))))))))
      · (try simp only [Z] at h20)
        have hwh : s.whole = true := h20
        have hty : s.typed = true := by unfold dF.typed; rw [hc3, hwh]; rfl
        refine bC (bQ O (bC (dJ O (bC (bD 0 ah O aQ O (bC (bD 10 aG O aO O (bC (fG bK O (xR).get.2 O (jF O O ?_))))))))))
        have hwo := wE (xR.f11)
        have ad0 := xR.f11.right
        have HW0 := V.BK (c := s.was) (u := [rV, rW, rX, rY, rZ, su, sD, sF, sG, sH, sJ]) ad0 hwo
        obtain ⟨s1, nZ, V9⟩ : ∃ s1, s1 = s.jT ∧ V w0 (w3.drew) (gB e s1 • F) := ⟨_, hs1, V.iH (hs1 ▸ sK iw) dD HW0.f11.f11.f11.f11.f11.f11.f11.f11.f11.f11⟩
        have hr1 : s1.c.run = s.c.run := by rw [nZ]; unfold dF.jT; split <;> rfl
        refine dS O func84 (pG V9) ?_
        rintro _ w45 OB
        obtain ⟨on, hon, HZ⟩ : ∃ on, (s.typed && s.c.run) = on ∧ V w0 w45 (gB e (s1.gK on) • F) := ⟨_, by rw [hty]; rfl, OB⟩
        refine pJ ?_
        obtain ⟨xG, xH, xI, xJ, xK, xM, xO, xP, uy, rV, rW, rX, rY, rZ, su, sD, sF, sG, sH, sJ, iw, dD, kV, iI⟩ := (HZ).Gp
        refine aC (jJ O O (jP O (fun h21 => ?_) (fun h21 => ?_)))
        · (try simp only [Z] at h21)
          have hw2 : s.whole = true := h21
          refine bC (bQ O (bC (jP O (fun h22 => ?_) (fun h22 => ?_))))
          · (try simp only [Z] at h22)
            have hrun : (s.typed && (!s.put.isEmpty || s.c.run)) = true := by first | exact absurd (hw2.symm.trans hwh) (by decide) | (rw [oG, decide_eq_false (show ¬ s.put.length = 0 by omega), hty]; rfl)
            refine bI (bI (bI (bI (bI (bC (jF O O (jF O O (dJ O (bD 0 ah O aQ O (bD 10 aG O aO O (aH (dZ 10 iI aO) ?_)))))))))))
            rintro _ w47 H47
            refine qH O (nD O O (bD 28 ah O aj O (fG aK O (H47).get.2 O (dJ O (bD 0 ah O aQ O (bD 6 aG O aj O (aH (dZ 6 H47 aj) ?_)))))))
            rintro _ w48 H48
            refine pJ (bP O (dJ O (bD 28 ah O aj O (fG aK O (H48).get.2 O (aV (iO O O) (jh O (fun h23 => ?_) (fun h23 => ?_)))))))
            · (try simp only [Z] at h23)
              have sN := jM nZ hon hrun h23
              refine aC (jJ O O (dJ O (bD 0 ah O aQ O (bD 7 aG O aj O (aH (dZ 7 H48 aj) ?_)))))
              rintro _ w49 H49
              refine dJ O (bD 0 ah O aQ O (bD 8 aG O aj O (aH (dZ 8 H49 aj) ?_)))
              rintro _ w50 H50
              refine iJ (jC O (dG dO O ?_))
              refine ⟨O, ?_⟩
              first
                | exact absurd (hw2.symm.trans hwh) (by decide)
                | exact absurd (hwh.symm.trans hw2) (by decide)
                | (rw [sN]; exact V.iH iw dD H50.f11.f11.f11.f11.f11.f11.f11.f11.f11.f11.f11)
            · (try simp only [Z] at h23)
              have sN := jf nZ hon hrun h23
              refine fZ (jC O (dG dO O ?_))
              refine ⟨O, ?_⟩
              first
                | exact absurd (hw2.symm.trans hwh) (by decide)
                | exact absurd (hwh.symm.trans hw2) (by decide)
                | (rw [sN]; exact V.iH iw dD H48.f11.f11.f11.f11.f11.f11.f11.f11.f11.f11.f11)
          · (try simp only [Z] at h22)
            have hrun : (s.typed && (!s.put.isEmpty || s.c.run)) = (s1.gK on).c.run := by first | exact absurd (hw2.symm.trans hwh) (by decide) | (rw [oG, decide_eq_true (show s.put.length = 0 by omega), hty, yU, hr1]; rfl)
            refine bC (bQ O (bC (dJ O (bC (bD 0 ah O aQ O (bC (bD 10 aG O aO O (bC (fG bK O (iI).get.2 O (bC (iM O O (jF O O (dJ O (bD 0 ah O aQ O (bD 10 aG O aO O (aH (dZ 10 iI aO) ?_))))))))))))))))
            rintro _ w51 H51
            refine qH O (nD O O (bD 28 ah O aj O (fG aK O (H51).get.2 O (dJ O (bD 0 ah O aQ O (bD 6 aG O aj O (aH (dZ 6 H51 aj) ?_)))))))
            rintro _ w52 Zj
            refine pJ (bP O (dJ O (bD 28 ah O aj O (fG aK O (Zj).get.2 O (aV (iO O O) (jh O (fun h24 => ?_) (fun h24 => ?_)))))))
            · (try simp only [Z] at h24)
              have sN := jM nZ hon hrun h24
              refine aC (jJ O O (dJ O (bD 0 ah O aQ O (bD 7 aG O aj O (aH (dZ 7 Zj aj) ?_)))))
              rintro _ w53 H53
              refine dJ O (bD 0 ah O aQ O (bD 8 aG O aj O (aH (dZ 8 H53 aj) ?_)))
              rintro _ w54 H54
              refine iJ (jC O (dG dO O ?_))
              refine ⟨O, ?_⟩
              first
                | exact absurd (hw2.symm.trans hwh) (by decide)
                | exact absurd (hwh.symm.trans hw2) (by decide)
                | (rw [sN]; exact V.iH iw dD H54.f11.f11.f11.f11.f11.f11.f11.f11.f11.f11.f11)
            · (try simp only [Z] at h24)
              have sN := jf nZ hon hrun h24
              refine fZ (jC O (dG dO O ?_))
              refine ⟨O, ?_⟩
              first
                | exact absurd (hw2.symm.trans hwh) (by decide)
                | exact absurd (hwh.symm.trans hw2) (by decide)
                | (rw [sN]; exact V.iH iw dD Zj.f11.f11.f11.f11.f11.f11.f11.f11.f11.f11.f11)
        · (try simp only [Z] at h21)
          have hw2 : s.whole = false := by simpa using h21
          have hrun : (s.typed && (!s.put.isEmpty || s.c.run)) = false := by first | exact absurd (hwh.symm.trans hw2) (by decide) | (rw [hty]; rfl)
          refine bI (bI (mV (mV (mV (mV (mV (bI (iM O O (dJ O (bD 0 ah O aQ O (bD 10 aG O aO O (aH (dZ 10 iI aO) ?_))))))))))))
          rintro _ w55 H55
          refine qH O (nD O O (bD 28 ah O aj O (fG aK O (H55).get.2 O (dJ O (bD 0 ah O aQ O (bD 6 aG O aj O (aH (dZ 6 H55 aj) ?_)))))))
          rintro _ w56 H56
          refine pJ (bP O (dJ O (bD 28 ah O aj O (fG aK O (H56).get.2 O (aV (iO O O) (jh O (fun h25 => ?_) (fun h25 => ?_)))))))
          · (try simp only [Z] at h25)
            have sN := jM nZ hon hrun h25
            refine aC (jJ O O (dJ O (bD 0 ah O aQ O (bD 7 aG O aj O (aH (dZ 7 H56 aj) ?_)))))
            rintro _ w57 H57
            refine dJ O (bD 0 ah O aQ O (bD 8 aG O aj O (aH (dZ 8 H57 aj) ?_)))
            rintro _ w58 Yc
            refine iJ (jC O (dG dO O ?_))
            refine ⟨O, ?_⟩
            first
              | exact absurd (hw2.symm.trans hwh) (by decide)
              | exact absurd (hwh.symm.trans hw2) (by decide)
              | (rw [sN]; exact V.iH iw dD Yc.f11.f11.f11.f11.f11.f11.f11.f11.f11.f11.f11)
          · (try simp only [Z] at h25)
            have sN := jf nZ hon hrun h25
            refine fZ (jC O (dG dO O ?_))
            refine ⟨O, ?_⟩
            first
              | exact absurd (hw2.symm.trans hwh) (by decide)
              | exact absurd (hwh.symm.trans hw2) (by decide)
              | (rw [sN]; exact V.iH iw dD H56.f11.f11.f11.f11.f11.f11.f11.f11.f11.f11.f11)
      · (try simp only [Z] at h20)
        have hwh : s.whole = false := by simpa using h20
        have hty : s.typed = false := by unfold dF.typed; rw [hc3, hwh]; rfl
        have hrun : (s.typed && (!s.put.isEmpty || s.c.run)) = false := by rw [hty]; rfl
        refine bI (bI (bI (bI (bI (iM O O ?_)))))
        have hwo := wE (xR.f11)
        have ad1 := xR.f11.right
        have HW0 := V.BK (c := s.was) (u := [rV, rW, rX, rY, rZ, su, sD, sF, sG, sH, sJ]) ad1 hwo
        obtain ⟨s1, nZ, V9⟩ : ∃ s1, s1 = s.jT ∧ V w0 (w3.drew) (gB e s1 • F) := ⟨_, hs1, V.iH (hs1 ▸ sK iw) dD HW0.f11.f11.f11.f11.f11.f11.f11.f11.f11.f11⟩
        have hr1 : s1.c.run = s.c.run := by rw [nZ]; unfold dF.jT; split <;> rfl
        refine dS O func84 (pG V9) ?_
        rintro _ w60 H60
        obtain ⟨on, hon, HZ⟩ : ∃ on, (s.typed && s.c.run) = on ∧ V w0 w60 (gB e (s1.gK on) • F) := ⟨_, by rw [hty]; rfl, H60⟩
        refine pJ ?_
        obtain ⟨xG, xH, xI, xJ, xK, xM, xO, xP, uy, rV, rW, rX, rY, rZ, su, sD, sF, sG, sH, sJ, iw, dD, kV, iI⟩ := (HZ).Gp
        refine aC (jJ O O (jP O (fun h26 => ?_) (fun h26 => ?_)))
        · (try simp only [Z] at h26)
          have hw2 : s.whole = true := h26
          refine bC (bQ O (bC (jP O (fun h27 => ?_) (fun h27 => ?_))))
          · (try simp only [Z] at h27)
            have hrun : (s.typed && (!s.put.isEmpty || s.c.run)) = true := by first | exact absurd (hw2.symm.trans hwh) (by decide) | (rw [oG, decide_eq_false (show ¬ s.put.length = 0 by omega), hty]; rfl)
            refine bI (bI (bI (bI (bI (bC (jF O O (jF O O (dJ O (bD 0 ah O aQ O (bD 10 aG O aO O (aH (dZ 10 iI aO) ?_)))))))))))
            rintro _ w62 H62
            refine qH O (nD O O (bD 28 ah O aj O (fG aK O (H62).get.2 O (dJ O (bD 0 ah O aQ O (bD 6 aG O aj O (aH (dZ 6 H62 aj) ?_)))))))
            rintro _ w63 H63
            refine pJ (bP O (dJ O (bD 28 ah O aj O (fG aK O (H63).get.2 O (aV (iO O O) (jh O (fun h28 => ?_) (fun h28 => ?_)))))))
            · (try simp only [Z] at h28)
              have sN := jM nZ hon hrun h28
              refine aC (jJ O O (dJ O (bD 0 ah O aQ O (bD 7 aG O aj O (aH (dZ 7 H63 aj) ?_)))))
              rintro _ w64 H64
              refine dJ O (bD 0 ah O aQ O (bD 8 aG O aj O (aH (dZ 8 H64 aj) ?_)))
              rintro _ w65 H65
              refine iJ (jC O (dG dO O ?_))
              refine ⟨O, ?_⟩
              first
                | exact absurd (hw2.symm.trans hwh) (by decide)
                | exact absurd (hwh.symm.trans hw2) (by decide)
                | (rw [sN]; exact V.iH iw dD H65.f11.f11.f11.f11.f11.f11.f11.f11.f11.f11.f11)
            · (try simp only [Z] at h28)
              have sN := jf nZ hon hrun h28
              refine fZ (jC O (dG dO O ?_))
              refine ⟨O, ?_⟩
              first
                | exact absurd (hw2.symm.trans hwh) (by decide)
                | exact absurd (hwh.symm.trans hw2) (by decide)
                | (rw [sN]; exact V.iH iw dD H63.f11.f11.f11.f11.f11.f11.f11.f11.f11.f11.f11)
          · (try simp only [Z] at h27)
            have hrun : (s.typed && (!s.put.isEmpty || s.c.run)) = (s1.gK on).c.run := by first | exact absurd (hw2.symm.trans hwh) (by decide) | (rw [oG, decide_eq_true (show s.put.length = 0 by omega), hty, yU, hr1]; rfl)
            refine bC (bQ O (bC (dJ O (bC (bD 0 ah O aQ O (bC (bD 10 aG O aO O (bC (fG bK O (iI).get.2 O (bC (iM O O (jF O O (dJ O (bD 0 ah O aQ O (bD 10 aG O aO O (aH (dZ 10 iI aO) ?_))))))))))))))))
            rintro _ w66 H66
            refine qH O (nD O O (bD 28 ah O aj O (fG aK O (H66).get.2 O (dJ O (bD 0 ah O aQ O (bD 6 aG O aj O (aH (dZ 6 H66 aj) ?_)))))))
            rintro _ w67 H67
            refine pJ (bP O (dJ O (bD 28 ah O aj O (fG aK O (H67).get.2 O (aV (iO O O) (jh O (fun h29 => ?_) (fun h29 => ?_)))))))
            · (try simp only [Z] at h29)
              have sN := jM nZ hon hrun h29
              refine aC (jJ O O (dJ O (bD 0 ah O aQ O (bD 7 aG O aj O (aH (dZ 7 H67 aj) ?_)))))
              rintro _ w68 H68
              refine dJ O (bD 0 ah O aQ O (bD 8 aG O aj O (aH (dZ 8 H68 aj) ?_)))
              rintro _ w69 H69
              refine iJ (jC O (dG dO O ?_))
              refine ⟨O, ?_⟩
              first
                | exact absurd (hw2.symm.trans hwh) (by decide)
                | exact absurd (hwh.symm.trans hw2) (by decide)
                | (rw [sN]; exact V.iH iw dD H69.f11.f11.f11.f11.f11.f11.f11.f11.f11.f11.f11)
            · (try simp only [Z] at h29)
              have sN := jf nZ hon hrun h29
              refine fZ (jC O (dG dO O ?_))
              refine ⟨O, ?_⟩
              first
                | exact absurd (hw2.symm.trans hwh) (by decide)
                | exact absurd (hwh.symm.trans hw2) (by decide)
                | (rw [sN]; exact V.iH iw dD H67.f11.f11.f11.f11.f11.f11.f11.f11.f11.f11.f11)
        · (try simp only [Z] at h26)
          have hw2 : s.whole = false := by simpa using h26
          have hrun : (s.typed && (!s.put.isEmpty || s.c.run)) = false := by first | exact absurd (hwh.symm.trans hw2) (by decide) | (rw [hty]; rfl)
          refine bI (bI (mV (mV (mV (mV (mV (bI (iM O O (dJ O (bD 0 ah O aQ O (bD 10 aG O aO O (aH (dZ 10 iI aO) ?_))))))))))))
          rintro _ w70 H70
          refine qH O (nD O O (bD 28 ah O aj O (fG aK O (H70).get.2 O (dJ O (bD 0 ah O aQ O (bD 6 aG O aj O (aH (dZ 6 H70 aj) ?_)))))))
          rintro _ w71 H71
          refine pJ (bP O (dJ O (bD 28 ah O aj O (fG aK O (H71).get.2 O (aV (iO O O) (jh O (fun h30 => ?_) (fun h30 => ?_)))))))
          · (try simp only [Z] at h30)
            have sN := jM nZ hon hrun h30
            refine aC (jJ O O (dJ O (bD 0 ah O aQ O (bD 7 aG O aj O (aH (dZ 7 H71 aj) ?_)))))
            rintro _ w72 H72
            refine dJ O (bD 0 ah O aQ O (bD 8 aG O aj O (aH (dZ 8 H72 aj) ?_)))
            rintro _ w73 H73
            refine iJ (jC O (dG dO O ?_))
            refine ⟨O, ?_⟩
            first
              | exact absurd (hw2.symm.trans hwh) (by decide)
              | exact absurd (hwh.symm.trans hw2) (by decide)
              | (rw [sN]; exact V.iH iw dD H73.f11.f11.f11.f11.f11.f11.f11.f11.f11.f11.f11)
          · (try simp only [Z] at h30)
            have sN := jf nZ hon hrun h30
            refine fZ (jC O (dG dO O ?_))
            refine ⟨O, ?_⟩
            first
              | exact absurd (hw2.symm.trans hwh) (by decide)
              | exact absurd (hwh.symm.trans hw2) (by decide)
              | (rw [sN]; exact V.iH iw dD H71.f11.f11.f11.f11.f11.f11.f11.f11.f11.f11.f11)
    · (try simp only [Z] at h19)
      have hty : s.typed = false := by unfold dF.typed; rw [beq_false_of_ne h19]; rfl
      have hrun : (s.typed && (!s.put.isEmpty || s.c.run)) = false := by rw [hty]; rfl
      refine vS 6 O O O O (by kernel_rfl) (by kernel_rfl) gU (lX O) ?_
      refine vS 7 O O O O (by kernel_rfl) (by kernel_rfl) gU (lX O) ?_
      refine vS 8 O O O O (by kernel_rfl) (by kernel_rfl) gU (lX O) ?_
      refine vS 9 O O O O (by kernel_rfl) (by kernel_rfl) gU (lX O) ?_
      refine jB 10 O gU (fun _ => Cb O O) (jG 11 O gU O (kD 12 O gU O (gV 13 O gU 33 ah O bH O (jS 14 O gU (fun W hW => jX aU O ((Kp.h hW)).get.2 O) (jB 15 O gU (fun _ => jw ((xR.f9).aS) aU O) (jB 16 O gU (fun _ => iV O O) (jB 17 O gU (fun _ => dN O) (jB 18 O gU (fun _ => dN O) (qR (aX (bP O (jJ O O (bI (bI (bI (bI (bI (iM O O ?_))))))))))))))))))
      have hwo := wE (xR.f11)
      have ad2 := xR.f11.right
      have HW0 := V.BK (c := s.was) (u := [rV, rW, rX, rY, rZ, su, sD, sF, sG, sH, sJ]) ad2 hwo
      obtain ⟨s1, nZ, V9⟩ : ∃ s1, s1 = s.jT ∧ V w0 (w3.drew) (gB e s1 • F) := ⟨_, hs1, V.iH (hs1 ▸ sK iw) dD HW0.f11.f11.f11.f11.f11.f11.f11.f11.f11.f11⟩
      have hr1 : s1.c.run = s.c.run := by rw [nZ]; unfold dF.jT; split <;> rfl
      refine dS O func84 (pG V9) ?_
      rintro _ w75 H75
      obtain ⟨on, hon, HZ⟩ : ∃ on, (s.typed && s.c.run) = on ∧ V w0 w75 (gB e (s1.gK on) • F) := ⟨_, by rw [hty]; rfl, H75⟩
      refine pJ ?_
      obtain ⟨xG, xH, xI, xJ, xK, xM, xO, xP, uy, rV, rW, rX, rY, rZ, su, sD, sF, sG, sH, sJ, iw, dD, kV, iI⟩ := (HZ).Gp
      refine aC (jJ O O (bQ O (bI (bI (mV (mV (mV (mV (mV (bI (iM O O (dJ O (bD 0 ah O aQ O (bD 10 aG O aO O (aH (dZ 10 iI aO) ?_)))))))))))))))
      rintro _ w77 H77
      refine qH O (nD O O (bD 28 ah O aj O (fG aK O (H77).get.2 O (dJ O (bD 0 ah O aQ O (bD 6 aG O aj O (aH (dZ 6 H77 aj) ?_)))))))
      rintro _ w78 H78
      refine pJ (bP O (dJ O (bD 28 ah O aj O (fG aK O (H78).get.2 O (aV (iO O O) (jh O (fun h31 => ?_) (fun h31 => ?_)))))))
      · (try simp only [Z] at h31)
        have sN := jM nZ hon hrun h31
        refine aC (jJ O O (dJ O (bD 0 ah O aQ O (bD 7 aG O aj O (aH (dZ 7 H78 aj) ?_)))))
        rintro _ w79 H79
        refine dJ O (bD 0 ah O aQ O (bD 8 aG O aj O (aH (dZ 8 H79 aj) ?_)))
        rintro _ w80 H80
        refine iJ (jC O (dG dO O ?_))
        refine ⟨O, ?_⟩
        first
          | exact absurd (hw2.symm.trans hwh) (by decide)
          | exact absurd (hwh.symm.trans hw2) (by decide)
          | (rw [sN]; exact V.iH iw dD H80.f11.f11.f11.f11.f11.f11.f11.f11.f11.f11.f11)
      · (try simp only [Z] at h31)
        have sN := jf nZ hon hrun h31
        refine fZ (jC O (dG dO O ?_))
        refine ⟨O, ?_⟩
        first
          | exact absurd (hw2.symm.trans hwh) (by decide)
          | exact absurd (hwh.symm.trans hw2) (by decide)
          | (rw [sN]; exact V.iH iw dD H78.f11.f11.f11.f11.f11.f11.f11.f11.f11.f11.f11)
theorem Ap {s : dF} {x : Int} (hin : s.inn = true) (hx : x ≠ 0) : s.BD x = s.xB ∧ s.zK x = x := by
  unfold dF.BD dF.zK
  rw [if_pos hin, if_neg hx, if_pos hin]; exact ⟨rfl, rfl⟩
theorem P6 {s : dF} (h : lM s) (hin : s.inn = true) : lM s.xB := by
  obtain ⟨h1, h2, h3⟩ := h.2.1 hin
  exact ⟨h1, fun h => Bool.noConfusion h, ⟨by show (-1 : Int) ≤ -1; decide, by show (-1 : Int) ≤ 1000000; decide⟩, by simp [dF.xB], h2, h3⟩
theorem P7 (hin : s.inn = true) (hx : x ≠ 0) (H : V w0 w (gB e s • F)) : gI prog 31 #[.pointer (some ⟨e, 0, none⟩), .int .i64 x] w fun v w' => v = .int .i64 x ∧ V w0 w' (gB e s.xB • F) := by
 have hpe : s.yc = 0 := by unfold dF.yc; rw [if_pos hin]
 refine oq func31 ntmps31 ?_
 refine jg O (aP (bP O (dS O func81 (tJ H) ?_)))
 rintro _ _ ⟨rfl, rfl⟩
 refine gJ O (bP O (aV (iO O O) (jh O (fun h => by exfalso; (try simp only [Z] at h); exact h hpe) (fun h1 => ?_))))
 (try simp only [Z] at h1)
 refine fZ (aP ?_)
 obtain ⟨xG, xH, xI, xJ, xK, xM, xO, xP, uy, rV, rW, rX, rY, rZ, su, sD, sF, sG, sH, sJ, iw, dD, kV, iI⟩ := (H).Gp
 have HI := iI
 rw [hin] at HI
 obtain ⟨qb, qr, qw, qt, qm, hu, HW⟩ := (HI.f11).was
 simp only [MV, List.cons.injEq, and_true] at hu
 obtain ⟨rfl, rfl, rfl, rfl, rfl, rfl, rfl, rfl, rfl, rfl, rfl⟩ := hu
 refine aC (nD O O (bD 16 ah O aO O (aH (dZ 16 HW.f6 aO) ?_)))
 rintro _ w3 H3
 refine pJ (bP O (dJ O (bD 31 ah O aO O (fG bK O (H3).get.2 O (aV (lY O) (jP O (fun h2 => ?_) (fun h2 => ?_)))))))
 ·(try simp only [Z] at h2)
  refine bI (bI (jF O O (iJ (EK (aC (jJ O O (nD O O (bD 13 ah O aO O (aH (dZ 13 H3 aO) ?_)))))))))
  rintro _ w4 H4
  refine dJ O (bD 14 ah O aO O (aH (dZ 14 H4 aO) ?_))
  rintro _ w5 H5
  refine dJ O (bD 15 ah O aj O (aH (dZ 15 H5 aj) ?_))
  rintro _ w6 H6
  refine pJ (bP O (aV (iO O O) (jh O (fun h3 => ?_) (fun h => by exfalso; (try simp only [Z] at h); exact hx h))))
  (try simp only [Z] at h3)
  refine bP O (nD O O (bD 17 ah O aQ O (aV (nS 17 (xs := [_, _, _, _, _, _, _, _, _, _, _]) aG O aQ O O (H6).get.2 O) (dJ O (bD 0 ah O aQ O (aH (bU 0 (l' := [_, _, _, _, _, _, _, _, _, _, _, _, _, _, _, _, _, _, _, _, _, _, _, _, _, _, _, _, _, _, _, _, _, _]) (us := [_, _, _, _, _, _, _, _, _, _, _]) H6 aQ O O O (ay (ay (ay (ay (ay (ay (ay (ay (ay (ay (ay bF))))))))))) O O) ?_))))))
  rintro _ w7 H7
  refine qH O (dJ O (bD 12 ah O sizeOf79 O (fG underlying79 O (H7).get.2 O (dS O func83 (Di H7.f13) ?_))))
  rintro _ w8 ⟨rfl, H8⟩
  refine qH O (jJ O O (nD O O (bD 0 ah O aQ O (bD 6 aG O aj O (aH (dZ 6 H8.f2 aj) ?_)))))
  rintro _ w9 H9
  refine dJ O (bD 0 ah O aQ O (bD 7 aG O aj O (aH (dZ 7 H9 aj) ?_)))
  rintro _ w10 pV
  refine dJ O (bD 0 ah O aQ O (bD 8 aG O aj O (aH (dZ 8 pV aj) ?_)))
  rintro _ DU qo
  refine dJ O (bD 33 ah O bH O (aH (dZ 33 qo bH) ?_))
  rintro _ w12 um
  refine qH O (eY O (aF (dG dO O ?_)))
  exact ⟨O, V.PY (s := s.xB) (P6 iw hin) O O um.f8.right.f8.right.f8.right.f8.right.f8.right.f9.right.f9.right.f2.f8.f8.f8.f8.f8.f8.f8⟩
 ·(try simp only [Z] at h2)
  refine bC (bQ O (bC (aV (iO O O) (iM O O (jh O (fun h4 => ?_) (fun h => by exfalso; (try simp only [Z] at h); exact hx h))))))
  (try simp only [Z] at h4)
  refine aC (jJ O O (nD O O (bD 13 ah O aO O (aH (dZ 13 H3 aO) ?_))))
  rintro _ Oz uS
  refine dJ O (bD 14 ah O aO O (aH (dZ 14 uS aO) ?_))
  rintro _ RV Ag
  refine dJ O (bD 15 ah O aj O (aH (dZ 15 Ag aj) ?_))
  rintro _ Sr yM
  refine pJ (bP O (aV (iO O O) (jh O (fun h5 => ?_) (fun h => by exfalso; (try simp only [Z] at h); exact hx h))))
  (try simp only [Z] at h5)
  refine bP O (nD O O (bD 17 ah O aQ O (aV (nS 17 (xs := [_, _, _, _, _, _, _, _, _, _, _]) aG O aQ O O (yM).get.2 O) (dJ O (bD 0 ah O aQ O (aH (bU 0 (l' := [_, _, _, _, _, _, _, _, _, _, _, _, _, _, _, _, _, _, _, _, _, _, _, _, _, _, _, _, _, _, _, _, _, _]) (us := [_, _, _, _, _, _, _, _, _, _, _]) yM aQ O O O (ay (ay (ay (ay (ay (ay (ay (ay (ay (ay (ay bF))))))))))) O O) ?_))))))
  rintro _ w16 yH
  refine qH O (dJ O (bD 12 ah O sizeOf79 O (fG underlying79 O (yH).get.2 O (dS O func83 (Di yH.f13) ?_))))
  rintro _ Zc ⟨rfl, Ig⟩
  refine qH O (jJ O O (nD O O (bD 0 ah O aQ O (bD 6 aG O aj O (aH (dZ 6 Ig.f2 aj) ?_)))))
  rintro _ XF CG
  refine dJ O (bD 0 ah O aQ O (bD 7 aG O aj O (aH (dZ 7 CG aj) ?_)))
  rintro _ w19 DW
  refine dJ O (bD 0 ah O aQ O (bD 8 aG O aj O (aH (dZ 8 DW aj) ?_)))
  rintro _ w20 OU
  refine dJ O (bD 33 ah O bH O (aH (dZ 33 OU bH) ?_))
  rintro _ w21 Ir
  refine qH O (eY O (aF (dG dO O ?_)))
  exact ⟨O, V.PY (s := s.xB) (P6 iw hin) O O Ir.f8.right.f8.right.f8.right.f8.right.f8.right.f9.right.f9.right.f2.f8.f8.f8.f8.f8.f8.f8⟩
theorem BO (H : V w0 w (gB e s • F)) : gI prog 31 #[.pointer (some ⟨e, 0, none⟩), .int .i64 x] w fun v w' => v = .int .i64 (s.zK x) ∧ V w0 w' (gB e (s.BD x) • F) := by
  by_cases hin : s.inn = true
  · by_cases hx : x = 0
    · subst hx
      rw [show s.BD 0 = s.oK from by unfold dF.BD; rw [if_pos hin, if_pos rfl], show s.zK 0 = 0 from by unfold dF.zK; rw [if_pos hin]]
      exact NH hin H
    · rw [(Ap hin hx).1, (Ap hin hx).2]
      exact P7 hin hx H
  · have hin' : s.inn = false := by simpa using hin
    have hpe : s.yc = 1 := by unfold dF.yc; rw [if_neg hin]
    rw [show s.BD x = s from by unfold dF.BD; rw [if_neg hin], show s.zK x = 1 from by unfold dF.zK; rw [if_neg hin]]
    refine oq func31 ntmps31 ?_
    refine jg O (aP (bP O (dS O func81 (tJ H) ?_)))
    rintro _ _ ⟨rfl, rfl⟩
    refine gJ O (bP O (aV (iO O O) (jh O (fun h1 => ?_) (fun h => by exfalso; (try simp only [Z] at h); rw [hpe] at h; exact absurd h (by decide)))))
    (try simp only [Z] at h1)
    refine bP O (eY O (aF (dG dO O ?_)))
    rw [hpe]
    exact ⟨O, H⟩
end
end Go.Proofs.YtpdeedplgmbopaaGreatDoor
end
section
namespace Go.Proofs.YtpdeedplgmbopaaGreatDoor
open Go.RowKit
theorem aaF {s : dF} (h : lM s) {G : List (List iR)} (h1 : iG G s.put ≤ iG s.here s.put) (h2 : ∀ g ∈ G, g ∈ s.here) : lM (s.vX G) := by
  obtain ⟨a1, a2, a3, a4, a5, a6⟩ := h
  refine ⟨a1, a2, a3, a4, ?_, ?_⟩
  · show iG (wL s.c.un s.c.place G s.c.place) s.put ≤ 16384
    rw [nN]; omega
  · intro k g hg
    have hg' : g ∈ wL s.c.un s.c.place G k := hg
    by_cases hk : k = s.c.place
    · subst hk; rw [nN] at hg'; exact a6 _ g (h2 g hg')
    · rw [tq _ _ hk] at hg'; exact a6 k g hg'
section
variable {w0 w : World} {F : HP} {e p : Nat} {s : dF} {x : Int}
end
def ET (e : TypeId) (k : IntKind) : List Value → List (List Int) → HP
  | [], [] => emp
  | v :: vs, l :: ls => kQ e k v l • ET e k vs ls
  | _, _ => fact False
section
variable {w0 w : World} {F : HP} {e : TypeId} {k : IntKind} {v : Value} {l : List Int}
theorem V.Wh (H : V w0 w F) : V w0 w (ET e k [] [] • F) := H.JR
theorem Aq : ∀ (vs : List Value) (ls : List (List Int)), (ET e k vs ls • kQ e k v l) = ET e k (vs ++ [v]) (ls ++ [l])
  | [], [] => by show (emp • kQ e k v l) = (kQ e k v l • emp); rw [vH]
  | u :: vs, m :: ls => by
    show ((kQ e k u m • ET e k vs ls) • kQ e k v l) = (kQ e k u m • ET e k (vs ++ [v]) (ls ++ [l]))
    rw [bW, Aq vs ls]
  | [], m :: ls => by
    apply HP.ext; funext I h; apply propext
    constructor
    · intro hp; exact absurd ((zo _ _ _ _).1 hp).1 id
    · intro hp
      cases ls with
      | nil => exact absurd (show False by obtain ⟨_, _, _, _, _, hb⟩ := hp; exact hb.1) id
      | cons x y => exact absurd (show False by obtain ⟨_, _, _, _, _, hb⟩ := hp; exact hb.1) id
  | u :: vs, [] => by
    apply HP.ext; funext I h; apply propext
    constructor
    · intro hp; exact absurd ((zo _ _ _ _).1 hp).1 id
    · intro hp
      cases vs with
      | nil => exact absurd (show False by obtain ⟨_, _, _, _, _, hb⟩ := hp; exact hb.1) id
      | cons x y => exact absurd (show False by obtain ⟨_, _, _, _, _, hb⟩ := hp; exact hb.1) id
theorem V.Aq {vs : List Value} {ls : List (List Int)} (H : V w0 w (ET e k vs ls • kQ e k v l • F)) : V w0 w (ET e k (vs ++ [v]) (ls ++ [l]) • F) := H.deep.of_eq (by rw [Go.Proofs.YtpdeedplgmbopaaGreatDoor.Aq])
end
end Go.Proofs.YtpdeedplgmbopaaGreatDoor
end
section
namespace Go.Proofs.YtpdeedplgmbopaaGreatDoor
open Go.RowKit
open _root_.Go.Proofs.Tryz
section
variable {w0 w : World} {F : HP} {e p ph pw pt pr pm : Nat} {s : dF} {k x place : Int} {hl : List pz} {base most : Int} {tx : Int → Option ByteArray} {v : Value}
theorem NI (H : V w0 w (gQ p hl base most • F)) : gI prog 157 #[.pointer (some ⟨p, 0, none⟩), .int .i64 k] w fun v w' =>
  v = .tuple #[.agg #[.string (MH hl k).1, .int .i64 (MH hl k).2], .bool (decide (0 ≤ k ∧ k < hl.length))] ∧ V w0 w' (gQ p hl base most • F) := by
 have hb : hl.length ≤ 4096 := by obtain ⟨v, h, _⟩ := H.hist; exact h.1
 refine oq func157 ntmps157 ?_
 refine iE (jr (fH (l := [_, _]) H zeroValue218 O) ?_)
 rintro _ w1 ⟨b1, rfl, H1⟩
 refine vk O (bP O (aV (iL O O) (jP O (fun h1 => ?_) (fun h1 => ?_))))
 ·(try simp only [Z] at h1)
  refine bI (bI (bI (bI (jF O O (iJ (EK (iE (aV (dP (zl := [.string .empty, .int .i64 0]) (pl := [(0, 1), (1, 1)]) [_, _] kJ zeroValue218 O (fun w => by kernel_rfl) O (.zero (zs := [.string .empty]) O (.zero (zs := [.int .i64 0]) O .nil)) O) (aH (bU 0 (l' := [_, _]) (us := [_, _]) H1 sizeOf218 O O O (ay (ay bF)) O O) ?_)))))))))
  rintro _ w2 H2
  refine eY O (aF ?_)
  refine pO (.inl O) (Uo results157 O O kJ O (by rw [P8]; rfl) (H2).get.2) ?_
  exact ⟨by unfold MH; rw [if_neg (by omega), decide_eq_false (by omega)], H2.right⟩
 ·(try simp only [Z] at h1)
  refine bC (bQ O (bC (bQ O (bC (dS O func117 (nU H1.f2) ?_)))))
  rintro _ w3 ⟨rfl, H3⟩
  refine bC (aV (lK O O) (iM O O (jh O (fun h2 => ?_) (fun h2 => ?_))))
  ·(try simp only [Z] at h2)
   refine iE (aV (dP (zl := [.string .empty, .int .i64 0]) (pl := [(0, 1), (1, 1)]) [_, _] kJ zeroValue218 O (fun w => by kernel_rfl) O (.zero (zs := [.string .empty]) O (.zero (zs := [.int .i64 0]) O .nil)) O) (aH (bU 0 (l' := [_, _]) (us := [_, _]) H3.f2 sizeOf218 O O O (ay (ay bF)) O O) ?_))
   rintro _ w4 H4
   refine eY O (aF ?_)
   refine pO (.inl O) (Uo results157 O O kJ O (by rw [P8]; rfl) (H4).get.2) ?_
   exact ⟨by unfold MH; rw [if_neg (by omega), decide_eq_false (by omega)], H4.right⟩
  ·(try simp only [Z] at h2)
   refine fZ (aP ?_)
   obtain ⟨m, rfl⟩ := Int.eq_ofNat_of_zero_le (show 0 ≤ k by omega)
   obtain ⟨Pq, AB, zn⟩ := (H3).hist
   refine aC (nD O O (bD 0 kF O sizeOf151 O (bD 0 kG O sizeOf149 O (fG fB O (zn).get.2 O (bQ O ?_)))))
   obtain ⟨abV, abW, abX, Vu⟩ := Rd.pW ((zn.f2).aS) (by omega)
   cases Vu
   refine aV (dI fB sizeOf218 O O (by omega)) (aV (qI (ys := [_, _]) ((zn.f2).aS) (by omega) kJ O sizeOf218 O (rQ Jr (by omega) default) O) (aH (bU 0 (l' := [_, _]) (us := [_, _]) zn.f3 sizeOf218 O O O (ay (ay bF)) O O) ?_))
   rintro _ w6 H6
   refine eY O ?_
   refine pO (.inl O) (Uo results157 O O kJ O (by rw [P8]; rfl) (H6).get.2) ?_
   have Ho8 := H6.f3.f3
   have Yh := V.CY AB Ho8
   exact ⟨by unfold MH; rw [if_pos (by omega), decide_eq_true (by omega)]; rfl, Yh.f2.right⟩
theorem Dn {x0 x1 x2 x3 x4 x5 x6 x7 x8 x9 x10 x12 uF x14 x15 x16 x17 x18 x19 x20 x21 vw x23 x24 x25 vU x27 x28 x29 x30 x31 x32 wR : Value} (H : V w0 w (dK e (.cells (x0 :: x1 :: x2 :: x3 :: x4 :: x5 :: x6 :: x7 :: x8 :: x9 :: x10 :: .pointer (some ⟨ph, 0, none⟩) :: x12 :: uF :: x14 :: x15 :: x16 :: x17 :: x18 :: x19 :: x20 :: x21 :: vw :: x23 :: x24 :: x25 :: vU :: x27 :: x28 :: x29 :: x30 :: x31 :: x32 :: wR :: []).toArray 82 (0, 0)) • gQ ph hl base most • F)) : gI prog 119 #[.pointer (some ⟨e, 0, none⟩), .int .i64 k] w fun v w' =>
    v = .string (yP hl k) ∧ V w0 w' (dK e (.cells (x0 :: x1 :: x2 :: x3 :: x4 :: x5 :: x6 :: x7 :: x8 :: x9 :: x10 :: .pointer (some ⟨ph, 0, none⟩) :: x12 :: uF :: x14 :: x15 :: x16 :: x17 :: x18 :: x19 :: x20 :: x21 :: vw :: x23 :: x24 :: x25 :: vU :: x27 :: x28 :: x29 :: x30 :: x31 :: x32 :: wR :: []).toArray 82 (0, 0)) • gQ ph hl base most • F) := by
  refine oq func119 ntmps119 ?_
  refine jg O (bP O (dJ O (bD 11 ah O sizeOf78 O (fG iT O (H).get.2 O (bQ O (dS O func157 (NI H.f2) ?_))))))
  rintro _ w1 ⟨rfl, H1⟩
  refine bQ O (rG O O (rG O O (jr (fH (l := [_, _]) H1 zeroValue218 O) ?_)))
  rintro _ w2 ⟨b2, rfl, H2⟩
  refine aH (bU 0 (l' := [_, _]) (us := [_, _]) H2 sizeOf218 O O O (ay (ay bF)) O O) ?_
  rintro _ w3 H3
  refine gJ O (iE (bD 0 kJ O lN O (fG iW O (H3).get.2 O (eY O (dG results119 O ?_)))))
  exact ⟨O, H3.right.f2⟩
theorem Tj {t : ByteArray} (h : tx k = some t) : (rF tx k).getD (.string .empty) = .string t ∧ (rF tx k).isSome = true := by unfold rF; rw [h]; exact ⟨rfl, rfl⟩
theorem ED : (rF tx k).isSome = (tx k).isSome := by unfold rF; cases tx k <;> rfl
theorem xU {x0 x1 x3 x4 x5 x6 x7 x8 x9 x10 x12 uF x14 x15 x16 x17 x18 x19 x20 x21 vw x23 x24 x25 vU x27 x28 x29 x30 x31 x32 wR : Value} (H : V w0 w (dK e (.cells (x0 :: x1 :: .pointer (some ⟨pw, 0, none⟩) :: x3 :: x4 :: x5 :: x6 :: x7 :: x8 :: x9 :: x10 :: .pointer (some ⟨ph, 0, none⟩) :: x12 :: uF :: x14 :: x15 :: x16 :: x17 :: x18 :: x19 :: x20 :: x21 :: vw :: x23 :: x24 :: x25 :: vU :: x27 :: x28 :: x29 :: x30 :: x31 :: x32 :: wR :: []).toArray 82 (0, 0)) • dK pw (.cells #[v, .map (some pt)] 122 (0, 0)) • fD qE pt (rF tx) • gQ ph hl base most • F)) :
    gI prog 118 #[.pointer (some ⟨e, 0, none⟩), .int .i64 k] w fun v' w' =>
    v' = .string (jm hl tx k) ∧ V w0 w' (dK e (.cells (x0 :: x1 :: .pointer (some ⟨pw, 0, none⟩) :: x3 :: x4 :: x5 :: x6 :: x7 :: x8 :: x9 :: x10 :: .pointer (some ⟨ph, 0, none⟩) :: x12 :: uF :: x14 :: x15 :: x16 :: x17 :: x18 :: x19 :: x20 :: x21 :: vw :: x23 :: x24 :: x25 :: vU :: x27 :: x28 :: x29 :: x30 :: x31 :: x32 :: wR :: []).toArray 82 (0, 0)) • dK pw (.cells #[v, .map (some pt)] 122 (0, 0)) • fD qE pt (rF tx) • gQ ph hl base most • F) := by
  refine oq func118 ntmps118 ?_
  refine jg O (aP (bP O (dJ O (bD 0 ah O aQ O (bD 2 aG O sizeOf74 O (fG ku O (H).get.2 O (dJ O (bD 1 eP O sizeOf120 O (fG underlying120 O (H.f2).get.2 O (bQ O (aV (zN (H.f3) underlying120 aK zeroValue9 O O) (bQ O (rG O O (rG O O (fU O (gJ O (bP O (jh O (fun h1 => ?_) (fun h1 => ?_)))))))))))))))))))
  · (try simp only [Z] at h1)
    obtain ⟨tt, htt⟩ := Option.isSome_iff_exists.1 (ED (tx := tx) ▸ h1)
    refine bP O (eY O (aF (dG results118 O ?_)))
    exact ⟨by unfold jm; rw [htt]; show (rF tx k).getD (.string .empty) = _; rw [(Tj htt).1]; rfl, H.f4.f4.f4.f4⟩
  · (try simp only [Z] at h1)
    have htt : tx k = none := by have := ED (tx := tx) (k := k) ▸ h1; simpa using this
    refine fZ (bP O (bQ O (dS O func119 (Dn H.f4.f2) ?_)))
    rintro _ w1 ⟨rfl, H1⟩
    refine eY O (dG results118 O ?_)
    exact ⟨by unfold jm; rw [htt]; rfl, H1.f2.f4.f4.f4⟩
end
end Go.Proofs.YtpdeedplgmbopaaGreatDoor
end
