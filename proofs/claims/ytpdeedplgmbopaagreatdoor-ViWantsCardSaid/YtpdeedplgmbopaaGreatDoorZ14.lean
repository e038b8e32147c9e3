import Derived.Test.YtpdeedplgmbopaaGreatDoorZ4
import Derived.Test.YtpdeedplgmbopaaGreatDoorZ13
import Derived.Test.YtpdeedplgmbopaaGreatDoorZ6
set_option linter.unusedSimpArgs false
set_option linter.unusedVariables false
/- Texts of mine, joined, their names in short: EdE EdU Owns EdS. -/
section
namespace Go.Proofs.YtpdeedplgmbopaaGreatDoor
open Go.RowKit
open _root_.Go.Proofs.Tryz
theorem yZ (s : dJ) (on : Bool) : (s.gI on).c.run = s.c.run := by unfold dJ.gI; split <;> rfl
theorem Ht (s : dJ) (on : Bool) : (s.gI on).cls = s.cls := by unfold dJ.gI; split <;> rfl
theorem jR {s s1 : dJ} {on run : Bool} (h1 : s1 = s.jU) (hon : (s.typed && s.c.run) = on) (hrun : (s.typed && (!s.put.isEmpty || s.c.run)) = run) (h2 : (s1.gI on).cls ≠ 2) :
    s.oN = { s1.gI on with c := { (s1.gI on).c with run := run, last := (s1.gI on).cls, fr := 0, to := 0 } } := by
  subst h1 hon hrun
  have hc : (s.jU.gI (s.typed && s.c.run)).cls = s.cls := by rw [Ht]; unfold dJ.jU; split <;> rfl
  unfold dJ.oN
  rw [hc] at h2 ⊢
  dsimp only
  rw [if_pos h2]
theorem jl {s s1 : dJ} {on run : Bool} (h1 : s1 = s.jU) (hon : (s.typed && s.c.run) = on) (hrun : (s.typed && (!s.put.isEmpty || s.c.run)) = run) (h2 : (s1.gI on).cls = 2) :
    s.oN = { s1.gI on with c := { (s1.gI on).c with run := run, last := (s1.gI on).cls } } := by
  subst h1 hon hrun
  have hc : (s.jU.gI (s.typed && s.c.run)).cls = s.cls := by rw [Ht]; unfold dJ.jU; split <;> rfl
  unfold dJ.oN
  rw [hc] at h2 ⊢
  dsimp only
  rw [if_neg (by omega)]
theorem sZ {s : dJ} (h : lT s) : lT s.jU := by
  obtain ⟨h1, h2, h3, h4, h5, h6⟩ := h
  unfold dJ.jU
  split
  · exact ⟨h1, fun h => Bool.noConfusion h, h3, h4, h5, h6⟩
  · exact ⟨h1, fun h => Bool.noConfusion h, ⟨by show (-1 : Int) ≤ -1; decide, by show (-1 : Int) ≤ 1000000; decide⟩, h4, h5, h6⟩
theorem oJ {l : List iU} : l.isEmpty = decide (l.length = 0) := by cases l <;> rfl
section
variable {w0 w : World} {F : HP} {e p : Nat} {s : dJ} {x : Int}
theorem NS (hin : s.inn = true) (H : V w0 w (gG e s • F)) : gQ prog 31 #[.pointer (some ⟨e, 0, none⟩), .int .i64 0] w fun v w' => v = .int .i64 0 ∧ V w0 w' (gG e s.oN • F) := by
  have hpe : s.yx = 0 := by unfold dJ.yx; rw [if_pos hin]
  refine nH func31 ntmps31 ?_
  refine jk O (aO (bT O (eG O func81 (uf H) ?_)))
  rintro _ _ ⟨rfl, rfl⟩
  refine gB O (bT O (Z (iZ O O) (iV O (fun h => by exfalso; (try simp only [aF] at h); exact h hpe) (fun h1 => ?_))))
  (try simp only [aF] at h1)
  refine fV (aO ?_)
  obtain ⟨xO, xP, xQ, xR, xU, xW, xX, xY, uK, sG, sH, sJ, sK, sN, sO, sQ, sS, sU, sV, sW, iw, dI, lg, iL⟩ := (H).Gz
  refine aB (nG O O (bF 16 ah O aQ O (aK (eP 16 iL aQ) ?_)))
  rintro _ w3 H3
  refine pJ (bT O (dL O (bF 31 ah O aQ O (gq bM O (H3).get.2 O (Z (lS O) (jL O (fun h2 => ?_) (fun h2 => ?_)))))))
  · (try simp only [aF] at h2)
    have har : s.argues = false := by simpa using h2
    have hs1 : ({ s.zU with inn := false } : dJ) = s.jU := by unfold dJ.jU; rw [if_neg (by simp [har])]
    refine bH (bH (jw O O (iK (Iz (aB (jF O O (nG O O (bF 13 ah O aQ O (aK (eP 13 H3 aQ) ?_)))))))))
    rintro _ w4 H4
    refine dL O (bF 14 ah O aQ O (aK (eP 14 H4 aQ) ?_))
    rintro _ w5 H5
    refine dL O (bF 15 ah O aj O (aK (eP 15 H5 aj) ?_))
    rintro _ w6 H6
    refine pJ (bT O (Z (iZ O O) (iK (Kr O (fun h3 => ?_)))))
    (try simp only [aF] at h3)
    refine fV (aO ?_)
    have BD := H6.drew
    have jh := V.kp (BD.f11.f11.f11.f11.f11.f11.f11.f11.f11.f11.f11)
    refine yj [3, 9, 14] jh O (jE 0 O jh O (kJ 1 O jh O (gU 2 O jh 28 ah O aj O (jQ 3 O jh (fun W hW => kC aN O ((Kp.h hW)).get.2 O) (jC 4 O jh (fun _ => dO O O) ?_)))))
    refine FU 5 O O (by kernel_rfl) (by kernel_rfl) jh (mg O) (fun h4 => ?_) (fun h4 => ?_)
    · (try simp only [aF] at h4)
      have hc3 : s.cls = 3 := h4
      refine jB 6 O O O (by kernel_rfl) (by kernel_rfl) jh (fun _ => BJ O) (mg O) ?_
      refine jB 7 O O O (by kernel_rfl) (by kernel_rfl) jh (fun _ => LP O) (mg O) ?_
      refine jB 8 O O O (by kernel_rfl) (by kernel_rfl) jh (fun _ => CP 32 ah O O aQ (by decide) O rfl) (mg O) ?_
      refine zG 9 O O O (by kernel_rfl) (by kernel_rfl) jh (by decide) (fun W hW => dR (bV bM O) O (ji ((Kp.h hW)).get.2 O)) (mg O) ?_
      refine jC 10 O jh (fun _ => CJ O O) (jE 11 O jh O (kJ 12 O jh O (gU 13 O jh 33 ah O bJ O (jQ 14 O jh (fun W hW => kC aV O ((Kp.h hW)).get.2 O) (jC 15 O jh (fun _ => iW ((BD.f9).aT) aV O) (jC 16 O jh (fun _ => jc O O) (jC 17 O jh (fun _ => dQ O) (jC 18 O jh (fun _ => dQ O) (qR (aW (bT O (bQ O (jL O (fun h5 => ?_) (fun h5 => ?_))))))))))))))
      · (try simp only [aF] at h5)
        have hwh : s.whole = true := h5
        have hty : s.typed = true := by unfold dJ.typed; rw [hc3, hwh]; rfl
        refine bC (bQ O (bC (dL O (bC (bF 0 ah O aU O (bC (bF 10 aH O aQ O (bC (gq bM O (BD).get.2 O (jw O O ?_))))))))))
        have hwo := wL (BD.f11)
        have ZY := BD.f11.right
        have HW0 := V.BZ (c := s.was) (u := [sG, sH, sJ, sK, sN, sO, sQ, sS, sU, sV, sW]) ZY hwo
        obtain ⟨s1, oz, Wi⟩ : ∃ s1, s1 = s.jU ∧ V w0 (w6.drew) (gG e s1 • F) := ⟨_, hs1, V.iI (hs1 ▸ sZ iw) dI HW0.f11.f11.f11.f11.f11.f11.f11.f11.f11.f11⟩
        have hr1 : s1.c.run = s.c.run := by rw [oz]; unfold dJ.jU; split <;> rfl
        refine eG O func84 (pV Wi) ?_
        rintro _ w8 H8
        obtain ⟨on, hon, HZ⟩ : ∃ on, (s.typed && s.c.run) = on ∧ V w0 w8 (gG e (s1.gI on) • F) := ⟨_, by rw [hty]; rfl, H8⟩
        refine pJ ?_
        obtain ⟨xO, xP, xQ, xR, xU, xW, xX, xY, uK, sG, sH, sJ, sK, sN, sO, sQ, sS, sU, sV, sW, iw, dI, lg, iL⟩ := (HZ).Gz
        refine aB (jF O O (jL O (fun h6 => ?_) (fun h6 => ?_)))
        · (try simp only [aF] at h6)
          have hw2 : s.whole = true := h6
          refine bC (bQ O (bC (jL O (fun h7 => ?_) (fun h7 => ?_))))
          · (try simp only [aF] at h7)
            have hrun : (s.typed && (!s.put.isEmpty || s.c.run)) = true := by first | exact absurd (hw2.symm.trans hwh) (by decide) | (rw [oJ, decide_eq_false (show ¬ s.put.length = 0 by omega), hty]; rfl)
            refine bH (bH (bH (bH (bH (bC (jw O O (jw O O (dL O (bF 0 ah O aU O (bF 10 aH O aQ O (aK (eP 10 iL aQ) ?_)))))))))))
            rintro _ w10 ql
            refine qQ O (nG O O (bF 28 ah O aj O (gq aN O (ql).get.2 O (dL O (bF 0 ah O aU O (bF 6 aH O aj O (aK (eP 6 ql aj) ?_)))))))
            rintro _ EI rE
            refine pJ (bT O (dL O (bF 28 ah O aj O (gq aN O (rE).get.2 O (Z (iZ O O) (iV O (fun h8 => ?_) (fun h8 => ?_)))))))
            · (try simp only [aF] at h8)
              have tq := jR oz hon hrun h8
              refine aB (jF O O (dL O (bF 0 ah O aU O (bF 7 aH O aj O (aK (eP 7 rE aj) ?_)))))
              rintro _ w12 uG
              refine dL O (bF 0 ah O aU O (bF 8 aH O aj O (aK (eP 8 uG aj) ?_)))
              rintro _ Pn wZ
              refine iK (jd O (dG dS O ?_))
              refine ⟨O, ?_⟩
              first
                | exact absurd (hw2.symm.trans hwh) (by decide)
                | exact absurd (hwh.symm.trans hw2) (by decide)
                | (rw [tq]; exact V.iI iw dI wZ.f11.f11.f11.f11.f11.f11.f11.f11.f11.f11.f11)
            · (try simp only [aF] at h8)
              have tq := jl oz hon hrun h8
              refine fV (jd O (dG dS O ?_))
              refine ⟨O, ?_⟩
              first
                | exact absurd (hw2.symm.trans hwh) (by decide)
                | exact absurd (hwh.symm.trans hw2) (by decide)
                | (rw [tq]; exact V.iI iw dI rE.f11.f11.f11.f11.f11.f11.f11.f11.f11.f11.f11)
          · (try simp only [aF] at h7)
            have hrun : (s.typed && (!s.put.isEmpty || s.c.run)) = (s1.gI on).c.run := by first | exact absurd (hw2.symm.trans hwh) (by decide) | (rw [oJ, decide_eq_true (show s.put.length = 0 by omega), hty, yZ, hr1]; rfl)
            refine bC (bQ O (bC (dL O (bC (bF 0 ah O aU O (bC (bF 10 aH O aQ O (bC (gq bM O (iL).get.2 O (bC (iJ O O (jw O O (dL O (bF 0 ah O aU O (bF 10 aH O aQ O (aK (eP 10 iL aQ) ?_))))))))))))))))
            rintro _ Si Aw
            refine qQ O (nG O O (bF 28 ah O aj O (gq aN O (Aw).get.2 O (dL O (bF 0 ah O aU O (bF 6 aH O aj O (aK (eP 6 Aw aj) ?_)))))))
            rintro _ SA yQ
            refine pJ (bT O (dL O (bF 28 ah O aj O (gq aN O (yQ).get.2 O (Z (iZ O O) (iV O (fun h9 => ?_) (fun h9 => ?_)))))))
            · (try simp only [aF] at h9)
              have tq := jR oz hon hrun h9
              refine aB (jF O O (dL O (bF 0 ah O aU O (bF 7 aH O aj O (aK (eP 7 yQ aj) ?_)))))
              rintro _ w16 yL
              refine dL O (bF 0 ah O aU O (bF 8 aH O aj O (aK (eP 8 yL aj) ?_)))
              rintro _ Zc Iu
              refine iK (jd O (dG dS O ?_))
              refine ⟨O, ?_⟩
              first
                | exact absurd (hw2.symm.trans hwh) (by decide)
                | exact absurd (hwh.symm.trans hw2) (by decide)
                | (rw [tq]; exact V.iI iw dI Iu.f11.f11.f11.f11.f11.f11.f11.f11.f11.f11.f11)
            · (try simp only [aF] at h9)
              have tq := jl oz hon hrun h9
              refine fV (jd O (dG dS O ?_))
              refine ⟨O, ?_⟩
              first
                | exact absurd (hw2.symm.trans hwh) (by decide)
                | exact absurd (hwh.symm.trans hw2) (by decide)
                | (rw [tq]; exact V.iI iw dI yQ.f11.f11.f11.f11.f11.f11.f11.f11.f11.f11.f11)
        · (try simp only [aF] at h6)
          have hw2 : s.whole = false := by simpa using h6
          have hrun : (s.typed && (!s.put.isEmpty || s.c.run)) = false := by first | exact absurd (hwh.symm.trans hw2) (by decide) | (rw [hty]; rfl)
          refine bH (bH (kS (kS (kS (kS (kS (bH (iJ O O (dL O (bF 0 ah O aU O (bF 10 aH O aQ O (aK (eP 10 iL aQ) ?_))))))))))))
          rintro _ XG CW
          refine qQ O (nG O O (bF 28 ah O aj O (gq aN O (CW).get.2 O (dL O (bF 0 ah O aU O (bF 6 aH O aj O (aK (eP 6 CW aj) ?_)))))))
          rintro _ w19 Ec
          refine pJ (bT O (dL O (bF 28 ah O aj O (gq aN O (Ec).get.2 O (Z (iZ O O) (iV O (fun h10 => ?_) (fun h10 => ?_)))))))
          · (try simp only [aF] at h10)
            have tq := jR oz hon hrun h10
            refine aB (jF O O (dL O (bF 0 ah O aU O (bF 7 aH O aj O (aK (eP 7 Ec aj) ?_)))))
            rintro _ w20 OZ
            refine dL O (bF 0 ah O aU O (bF 8 aH O aj O (aK (eP 8 OZ aj) ?_)))
            rintro _ w21 IK
            refine iK (jd O (dG dS O ?_))
            refine ⟨O, ?_⟩
            first
              | exact absurd (hw2.symm.trans hwh) (by decide)
              | exact absurd (hwh.symm.trans hw2) (by decide)
              | (rw [tq]; exact V.iI iw dI IK.f11.f11.f11.f11.f11.f11.f11.f11.f11.f11.f11)
          · (try simp only [aF] at h10)
            have tq := jl oz hon hrun h10
            refine fV (jd O (dG dS O ?_))
            refine ⟨O, ?_⟩
            first
              | exact absurd (hw2.symm.trans hwh) (by decide)
              | exact absurd (hwh.symm.trans hw2) (by decide)
              | (rw [tq]; exact V.iI iw dI Ec.f11.f11.f11.f11.f11.f11.f11.f11.f11.f11.f11)
      · (try simp only [aF] at h5)
        have hwh : s.whole = false := by simpa using h5
        have hty : s.typed = false := by unfold dJ.typed; rw [hc3, hwh]; rfl
        have hrun : (s.typed && (!s.put.isEmpty || s.c.run)) = false := by rw [hty]; rfl
        refine bH (bH (bH (bH (bH (iJ O O ?_)))))
        have hwo := wL (BD.f11)
        have Vp := BD.f11.right
        have HW0 := V.BZ (c := s.was) (u := [sG, sH, sJ, sK, sN, sO, sQ, sS, sU, sV, sW]) Vp hwo
        obtain ⟨s1, oz, Wi⟩ : ∃ s1, s1 = s.jU ∧ V w0 (w6.drew) (gG e s1 • F) := ⟨_, hs1, V.iI (hs1 ▸ sZ iw) dI HW0.f11.f11.f11.f11.f11.f11.f11.f11.f11.f11⟩
        have hr1 : s1.c.run = s.c.run := by rw [oz]; unfold dJ.jU; split <;> rfl
        refine eG O func84 (pV Wi) ?_
        rintro _ w23 IL
        obtain ⟨on, hon, HZ⟩ : ∃ on, (s.typed && s.c.run) = on ∧ V w0 w23 (gG e (s1.gI on) • F) := ⟨_, by rw [hty]; rfl, IL⟩
        refine pJ ?_
        obtain ⟨xO, xP, xQ, xR, xU, xW, xX, xY, uK, sG, sH, sJ, sK, sN, sO, sQ, sS, sU, sV, sW, iw, dI, lg, iL⟩ := (HZ).Gz
        refine aB (jF O O (jL O (fun h11 => ?_) (fun h11 => ?_)))
        · (try simp only [aF] at h11)
          have hw2 : s.whole = true := h11
          refine bC (bQ O (bC (jL O (fun h12 => ?_) (fun h12 => ?_))))
          · (try simp only [aF] at h12)
            have hrun : (s.typed && (!s.put.isEmpty || s.c.run)) = true := by first | exact absurd (hw2.symm.trans hwh) (by decide) | (rw [oJ, decide_eq_false (show ¬ s.put.length = 0 by omega), hty]; rfl)
            refine bH (bH (bH (bH (bH (bC (jw O O (jw O O (dL O (bF 0 ah O aU O (bF 10 aH O aQ O (aK (eP 10 iL aQ) ?_)))))))))))
            rintro _ w25 Uh
            refine qQ O (nG O O (bF 28 ah O aj O (gq aN O (Uh).get.2 O (dL O (bF 0 ah O aU O (bF 6 aH O aj O (aK (eP 6 Uh aj) ?_)))))))
            rintro _ w26 VR
            refine pJ (bT O (dL O (bF 28 ah O aj O (gq aN O (VR).get.2 O (Z (iZ O O) (iV O (fun h13 => ?_) (fun h13 => ?_)))))))
            · (try simp only [aF] at h13)
              have tq := jR oz hon hrun h13
              refine aB (jF O O (dL O (bF 0 ah O aU O (bF 7 aH O aj O (aK (eP 7 VR aj) ?_)))))
              rintro _ w27 NH
              refine dL O (bF 0 ah O aU O (bF 8 aH O aj O (aK (eP 8 NH aj) ?_)))
              rintro _ w28 H28
              refine iK (jd O (dG dS O ?_))
              refine ⟨O, ?_⟩
              first
                | exact absurd (hw2.symm.trans hwh) (by decide)
                | exact absurd (hwh.symm.trans hw2) (by decide)
                | (rw [tq]; exact V.iI iw dI H28.f11.f11.f11.f11.f11.f11.f11.f11.f11.f11.f11)
            · (try simp only [aF] at h13)
              have tq := jl oz hon hrun h13
              refine fV (jd O (dG dS O ?_))
              refine ⟨O, ?_⟩
              first
                | exact absurd (hw2.symm.trans hwh) (by decide)
                | exact absurd (hwh.symm.trans hw2) (by decide)
                | (rw [tq]; exact V.iI iw dI VR.f11.f11.f11.f11.f11.f11.f11.f11.f11.f11.f11)
          · (try simp only [aF] at h12)
            have hrun : (s.typed && (!s.put.isEmpty || s.c.run)) = (s1.gI on).c.run := by first | exact absurd (hw2.symm.trans hwh) (by decide) | (rw [oJ, decide_eq_true (show s.put.length = 0 by omega), hty, yZ, hr1]; rfl)
            refine bC (bQ O (bC (dL O (bC (bF 0 ah O aU O (bC (bF 10 aH O aQ O (bC (gq bM O (iL).get.2 O (bC (iJ O O (jw O O (dL O (bF 0 ah O aU O (bF 10 aH O aQ O (aK (eP 10 iL aQ) ?_))))))))))))))))
            rintro _ w29 Yi
            refine qQ O (nG O O (bF 28 ah O aj O (gq aN O (Yi).get.2 O (dL O (bF 0 ah O aU O (bF 6 aH O aj O (aK (eP 6 Yi aj) ?_)))))))
            rintro _ w30 Vr
            refine pJ (bT O (dL O (bF 28 ah O aj O (gq aN O (Vr).get.2 O (Z (iZ O O) (iV O (fun h14 => ?_) (fun h14 => ?_)))))))
            · (try simp only [aF] at h14)
              have tq := jR oz hon hrun h14
              refine aB (jF O O (dL O (bF 0 ah O aU O (bF 7 aH O aj O (aK (eP 7 Vr aj) ?_)))))
              rintro _ w31 SN
              refine dL O (bF 0 ah O aU O (bF 8 aH O aj O (aK (eP 8 SN aj) ?_)))
              rintro _ w32 NI
              refine iK (jd O (dG dS O ?_))
              refine ⟨O, ?_⟩
              first
                | exact absurd (hw2.symm.trans hwh) (by decide)
                | exact absurd (hwh.symm.trans hw2) (by decide)
                | (rw [tq]; exact V.iI iw dI NI.f11.f11.f11.f11.f11.f11.f11.f11.f11.f11.f11)
            · (try simp only [aF] at h14)
              have tq := jl oz hon hrun h14
              refine fV (jd O (dG dS O ?_))
              refine ⟨O, ?_⟩
              first
                | exact absurd (hw2.symm.trans hwh) (by decide)
                | exact absurd (hwh.symm.trans hw2) (by decide)
                | (rw [tq]; exact V.iI iw dI Vr.f11.f11.f11.f11.f11.f11.f11.f11.f11.f11.f11)
        · (try simp only [aF] at h11)
          have hw2 : s.whole = false := by simpa using h11
          have hrun : (s.typed && (!s.put.isEmpty || s.c.run)) = false := by first | exact absurd (hwh.symm.trans hw2) (by decide) | (rw [hty]; rfl)
          refine bH (bH (kS (kS (kS (kS (kS (bH (iJ O O (dL O (bF 0 ah O aU O (bF 10 aH O aQ O (aK (eP 10 iL aQ) ?_))))))))))))
          rintro _ w33 Xl
          refine qQ O (nG O O (bF 28 ah O aj O (gq aN O (Xl).get.2 O (dL O (bF 0 ah O aU O (bF 6 aH O aj O (aK (eP 6 Xl aj) ?_)))))))
          rintro _ w34 VU
          refine pJ (bT O (dL O (bF 28 ah O aj O (gq aN O (VU).get.2 O (Z (iZ O O) (iV O (fun h15 => ?_) (fun h15 => ?_)))))))
          · (try simp only [aF] at h15)
            have tq := jR oz hon hrun h15
            refine aB (jF O O (dL O (bF 0 ah O aU O (bF 7 aH O aj O (aK (eP 7 VU aj) ?_)))))
            rintro _ w35 H35
            refine dL O (bF 0 ah O aU O (bF 8 aH O aj O (aK (eP 8 H35 aj) ?_)))
            rintro _ w36 H36
            refine iK (jd O (dG dS O ?_))
            refine ⟨O, ?_⟩
            first
              | exact absurd (hw2.symm.trans hwh) (by decide)
              | exact absurd (hwh.symm.trans hw2) (by decide)
              | (rw [tq]; exact V.iI iw dI H36.f11.f11.f11.f11.f11.f11.f11.f11.f11.f11.f11)
          · (try simp only [aF] at h15)
            have tq := jl oz hon hrun h15
            refine fV (jd O (dG dS O ?_))
            refine ⟨O, ?_⟩
            first
              | exact absurd (hw2.symm.trans hwh) (by decide)
              | exact absurd (hwh.symm.trans hw2) (by decide)
              | (rw [tq]; exact V.iI iw dI VU.f11.f11.f11.f11.f11.f11.f11.f11.f11.f11.f11)
    · (try simp only [aF] at h4)
      have hty : s.typed = false := by unfold dJ.typed; rw [beq_false_of_ne h4]; rfl
      have hrun : (s.typed && (!s.put.isEmpty || s.c.run)) = false := by rw [hty]; rfl
      refine vX 6 O O O O (by kernel_rfl) (by kernel_rfl) jh (mg O) ?_
      refine vX 7 O O O O (by kernel_rfl) (by kernel_rfl) jh (mg O) ?_
      refine vX 8 O O O O (by kernel_rfl) (by kernel_rfl) jh (mg O) ?_
      refine vX 9 O O O O (by kernel_rfl) (by kernel_rfl) jh (mg O) ?_
      refine jC 10 O jh (fun _ => CO O O) (jE 11 O jh O (kJ 12 O jh O (gU 13 O jh 33 ah O bJ O (jQ 14 O jh (fun W hW => kC aV O ((Kp.h hW)).get.2 O) (jC 15 O jh (fun _ => iW ((BD.f9).aT) aV O) (jC 16 O jh (fun _ => jc O O) (jC 17 O jh (fun _ => dQ O) (jC 18 O jh (fun _ => dQ O) (qR (aW (bT O (jF O O (bH (bH (bH (bH (bH (iJ O O ?_))))))))))))))))))
      have hwo := wL (BD.f11)
      have aaC := BD.f11.right
      have HW0 := V.BZ (c := s.was) (u := [sG, sH, sJ, sK, sN, sO, sQ, sS, sU, sV, sW]) aaC hwo
      obtain ⟨s1, oz, Wi⟩ : ∃ s1, s1 = s.jU ∧ V w0 (w6.drew) (gG e s1 • F) := ⟨_, hs1, V.iI (hs1 ▸ sZ iw) dI HW0.f11.f11.f11.f11.f11.f11.f11.f11.f11.f11⟩
      have hr1 : s1.c.run = s.c.run := by rw [oz]; unfold dJ.jU; split <;> rfl
      refine eG O func84 (pV Wi) ?_
      rintro _ w38 Qa
      obtain ⟨on, hon, HZ⟩ : ∃ on, (s.typed && s.c.run) = on ∧ V w0 w38 (gG e (s1.gI on) • F) := ⟨_, by rw [hty]; rfl, Qa⟩
      refine pJ ?_
      obtain ⟨xO, xP, xQ, xR, xU, xW, xX, xY, uK, sG, sH, sJ, sK, sN, sO, sQ, sS, sU, sV, sW, iw, dI, lg, iL⟩ := (HZ).Gz
      refine aB (jF O O (bQ O (bH (bH (kS (kS (kS (kS (kS (bH (iJ O O (dL O (bF 0 ah O aU O (bF 10 aH O aQ O (aK (eP 10 iL aQ) ?_)))))))))))))))
      rintro _ w40 H40
      refine qQ O (nG O O (bF 28 ah O aj O (gq aN O (H40).get.2 O (dL O (bF 0 ah O aU O (bF 6 aH O aj O (aK (eP 6 H40 aj) ?_)))))))
      rintro _ w41 Yd
      refine pJ (bT O (dL O (bF 28 ah O aj O (gq aN O (Yd).get.2 O (Z (iZ O O) (iV O (fun h16 => ?_) (fun h16 => ?_)))))))
      · (try simp only [aF] at h16)
        have tq := jR oz hon hrun h16
        refine aB (jF O O (dL O (bF 0 ah O aU O (bF 7 aH O aj O (aK (eP 7 Yd aj) ?_)))))
        rintro _ w42 H42
        refine dL O (bF 0 ah O aU O (bF 8 aH O aj O (aK (eP 8 H42 aj) ?_)))
        rintro _ w43 H43
        refine iK (jd O (dG dS O ?_))
        refine ⟨O, ?_⟩
        first
          | exact absurd (hw2.symm.trans hwh) (by decide)
          | exact absurd (hwh.symm.trans hw2) (by decide)
          | (rw [tq]; exact V.iI iw dI H43.f11.f11.f11.f11.f11.f11.f11.f11.f11.f11.f11)
      · (try simp only [aF] at h16)
        have tq := jl oz hon hrun h16
        refine fV (jd O (dG dS O ?_))
        refine ⟨O, ?_⟩
        first
          | exact absurd (hw2.symm.trans hwh) (by decide)
          | exact absurd (hwh.symm.trans hw2) (by decide)
          | (rw [tq]; exact V.iI iw dI Yd.f11.f11.f11.f11.f11.f11.f11.f11.f11.f11.f11)
  · (try simp only [aF] at h2)
    have har : s.argues = true := by simpa using h2
    have hs1 : ({ s with inn := false } : dJ) = s.jU := by unfold dJ.jU; rw [if_pos har]
    refine bC (bQ O (bC (Z (iZ O O) (iJ O O (iK (Kr O (fun h17 => ?_)))))))
    (try simp only [aF] at h17)
    refine fV (aO (bT O (Z (iZ O O) (iK (Kr O (fun h18 => ?_))))))
    (try simp only [aF] at h18)
    refine fV (aO ?_)
    have yc := H3.drew
    have gK := V.kp (yc.f11.f11.f11.f11.f11.f11.f11.f11.f11.f11.f11)
    refine yj [3, 9, 14] gK O (jE 0 O gK O (kJ 1 O gK O (gU 2 O gK 28 ah O aj O (jQ 3 O gK (fun W hW => kC aN O ((Kp.h hW)).get.2 O) (jC 4 O gK (fun _ => dO O O) ?_)))))
    refine FU 5 O O (by kernel_rfl) (by kernel_rfl) gK (mg O) (fun h19 => ?_) (fun h19 => ?_)
    · (try simp only [aF] at h19)
      have hc3 : s.cls = 3 := h19
      refine jB 6 O O O (by kernel_rfl) (by kernel_rfl) gK (fun _ => BJ O) (mg O) ?_
      refine jB 7 O O O (by kernel_rfl) (by kernel_rfl) gK (fun _ => LP O) (mg O) ?_
      refine jB 8 O O O (by kernel_rfl) (by kernel_rfl) gK (fun _ => CP 32 ah O O aQ (by decide) O rfl) (mg O) ?_
      refine zG 9 O O O (by kernel_rfl) (by kernel_rfl) gK (by decide) (fun W hW => dR (bV bM O) O (ji ((Kp.h hW)).get.2 O)) (mg O) ?_
      refine jC 10 O gK (fun _ => CJ O O) (jE 11 O gK O (kJ 12 O gK O (gU 13 O gK 33 ah O bJ O (jQ 14 O gK (fun W hW => kC aV O ((Kp.h hW)).get.2 O) (jC 15 O gK (fun _ => iW ((yc.f9).aT) aV O) (jC 16 O gK (fun _ => jc O O) (jC 17 O gK (fun _ => dQ O) (jC 18 O gK (fun _ => dQ O) (qR (aW (bT O (bQ O (jL O (fun h20 => ?_) (fun h20 => ?_))))))))))))))
      · (try simp only [aF] at h20)
        have hwh : s.whole = true := h20
        have hty : s.typed = true := by unfold dJ.typed; rw [hc3, hwh]; rfl
        refine bC (bQ O (bC (dL O (bC (bF 0 ah O aU O (bC (bF 10 aH O aQ O (bC (gq bM O (yc).get.2 O (jw O O ?_))))))))))
        have hwo := wL (yc.f11)
        have adY := yc.f11.right
        have HW0 := V.BZ (c := s.was) (u := [sG, sH, sJ, sK, sN, sO, sQ, sS, sU, sV, sW]) adY hwo
        obtain ⟨s1, oz, Wi⟩ : ∃ s1, s1 = s.jU ∧ V w0 (w3.drew) (gG e s1 • F) := ⟨_, hs1, V.iI (hs1 ▸ sZ iw) dI HW0.f11.f11.f11.f11.f11.f11.f11.f11.f11.f11⟩
        have hr1 : s1.c.run = s.c.run := by rw [oz]; unfold dJ.jU; split <;> rfl
        refine eG O func84 (pV Wi) ?_
        rintro _ w45 OD
        obtain ⟨on, hon, HZ⟩ : ∃ on, (s.typed && s.c.run) = on ∧ V w0 w45 (gG e (s1.gI on) • F) := ⟨_, by rw [hty]; rfl, OD⟩
        refine pJ ?_
        obtain ⟨xO, xP, xQ, xR, xU, xW, xX, xY, uK, sG, sH, sJ, sK, sN, sO, sQ, sS, sU, sV, sW, iw, dI, lg, iL⟩ := (HZ).Gz
        refine aB (jF O O (jL O (fun h21 => ?_) (fun h21 => ?_)))
        · (try simp only [aF] at h21)
          have hw2 : s.whole = true := h21
          refine bC (bQ O (bC (jL O (fun h22 => ?_) (fun h22 => ?_))))
          · (try simp only [aF] at h22)
            have hrun : (s.typed && (!s.put.isEmpty || s.c.run)) = true := by first | exact absurd (hw2.symm.trans hwh) (by decide) | (rw [oJ, decide_eq_false (show ¬ s.put.length = 0 by omega), hty]; rfl)
            refine bH (bH (bH (bH (bH (bC (jw O O (jw O O (dL O (bF 0 ah O aU O (bF 10 aH O aQ O (aK (eP 10 iL aQ) ?_)))))))))))
            rintro _ w47 H47
            refine qQ O (nG O O (bF 28 ah O aj O (gq aN O (H47).get.2 O (dL O (bF 0 ah O aU O (bF 6 aH O aj O (aK (eP 6 H47 aj) ?_)))))))
            rintro _ w48 H48
            refine pJ (bT O (dL O (bF 28 ah O aj O (gq aN O (H48).get.2 O (Z (iZ O O) (iV O (fun h23 => ?_) (fun h23 => ?_)))))))
            · (try simp only [aF] at h23)
              have tq := jR oz hon hrun h23
              refine aB (jF O O (dL O (bF 0 ah O aU O (bF 7 aH O aj O (aK (eP 7 H48 aj) ?_)))))
              rintro _ w49 H49
              refine dL O (bF 0 ah O aU O (bF 8 aH O aj O (aK (eP 8 H49 aj) ?_)))
              rintro _ w50 H50
              refine iK (jd O (dG dS O ?_))
              refine ⟨O, ?_⟩
              first
                | exact absurd (hw2.symm.trans hwh) (by decide)
                | exact absurd (hwh.symm.trans hw2) (by decide)
                | (rw [tq]; exact V.iI iw dI H50.f11.f11.f11.f11.f11.f11.f11.f11.f11.f11.f11)
            · (try simp only [aF] at h23)
              have tq := jl oz hon hrun h23
              refine fV (jd O (dG dS O ?_))
              refine ⟨O, ?_⟩
              first
                | exact absurd (hw2.symm.trans hwh) (by decide)
                | exact absurd (hwh.symm.trans hw2) (by decide)
                | (rw [tq]; exact V.iI iw dI H48.f11.f11.f11.f11.f11.f11.f11.f11.f11.f11.f11)
          · (try simp only [aF] at h22)
            have hrun : (s.typed && (!s.put.isEmpty || s.c.run)) = (s1.gI on).c.run := by first | exact absurd (hw2.symm.trans hwh) (by decide) | (rw [oJ, decide_eq_true (show s.put.length = 0 by omega), hty, yZ, hr1]; rfl)
            refine bC (bQ O (bC (dL O (bC (bF 0 ah O aU O (bC (bF 10 aH O aQ O (bC (gq bM O (iL).get.2 O (bC (iJ O O (jw O O (dL O (bF 0 ah O aU O (bF 10 aH O aQ O (aK (eP 10 iL aQ) ?_))))))))))))))))
            rintro _ w51 H51
            refine qQ O (nG O O (bF 28 ah O aj O (gq aN O (H51).get.2 O (dL O (bF 0 ah O aU O (bF 6 aH O aj O (aK (eP 6 H51 aj) ?_)))))))
            rintro _ w52 Zi
            refine pJ (bT O (dL O (bF 28 ah O aj O (gq aN O (Zi).get.2 O (Z (iZ O O) (iV O (fun h24 => ?_) (fun h24 => ?_)))))))
            · (try simp only [aF] at h24)
              have tq := jR oz hon hrun h24
              refine aB (jF O O (dL O (bF 0 ah O aU O (bF 7 aH O aj O (aK (eP 7 Zi aj) ?_)))))
              rintro _ w53 H53
              refine dL O (bF 0 ah O aU O (bF 8 aH O aj O (aK (eP 8 H53 aj) ?_)))
              rintro _ w54 H54
              refine iK (jd O (dG dS O ?_))
              refine ⟨O, ?_⟩
              first
                | exact absurd (hw2.symm.trans hwh) (by decide)
                | exact absurd (hwh.symm.trans hw2) (by decide)
                | (rw [tq]; exact V.iI iw dI H54.f11.f11.f11.f11.f11.f11.f11.f11.f11.f11.f11)
            · (try simp only [aF] at h24)
              have tq := jl oz hon hrun h24
              refine fV (jd O (dG dS O ?_))
              refine ⟨O, ?_⟩
              first
                | exact absurd (hw2.symm.trans hwh) (by decide)
                | exact absurd (hwh.symm.trans hw2) (by decide)
                | (rw [tq]; exact V.iI iw dI Zi.f11.f11.f11.f11.f11.f11.f11.f11.f11.f11.f11)
        · (try simp only [aF] at h21)
          have hw2 : s.whole = false := by simpa using h21
          have hrun : (s.typed && (!s.put.isEmpty || s.c.run)) = false := by first | exact absurd (hwh.symm.trans hw2) (by decide) | (rw [hty]; rfl)
          refine bH (bH (kS (kS (kS (kS (kS (bH (iJ O O (dL O (bF 0 ah O aU O (bF 10 aH O aQ O (aK (eP 10 iL aQ) ?_))))))))))))
          rintro _ w55 H55
          refine qQ O (nG O O (bF 28 ah O aj O (gq aN O (H55).get.2 O (dL O (bF 0 ah O aU O (bF 6 aH O aj O (aK (eP 6 H55 aj) ?_)))))))
          rintro _ w56 H56
          refine pJ (bT O (dL O (bF 28 ah O aj O (gq aN O (H56).get.2 O (Z (iZ O O) (iV O (fun h25 => ?_) (fun h25 => ?_)))))))
          · (try simp only [aF] at h25)
            have tq := jR oz hon hrun h25
            refine aB (jF O O (dL O (bF 0 ah O aU O (bF 7 aH O aj O (aK (eP 7 H56 aj) ?_)))))
            rintro _ w57 H57
            refine dL O (bF 0 ah O aU O (bF 8 aH O aj O (aK (eP 8 H57 aj) ?_)))
            rintro _ w58 Ye
            refine iK (jd O (dG dS O ?_))
            refine ⟨O, ?_⟩
            first
              | exact absurd (hw2.symm.trans hwh) (by decide)
              | exact absurd (hwh.symm.trans hw2) (by decide)
              | (rw [tq]; exact V.iI iw dI Ye.f11.f11.f11.f11.f11.f11.f11.f11.f11.f11.f11)
          · (try simp only [aF] at h25)
            have tq := jl oz hon hrun h25
            refine fV (jd O (dG dS O ?_))
            refine ⟨O, ?_⟩
            first
              | exact absurd (hw2.symm.trans hwh) (by decide)
              | exact absurd (hwh.symm.trans hw2) (by decide)
              | (rw [tq]; exact V.iI iw dI H56.f11.f11.f11.f11.f11.f11.f11.f11.f11.f11.f11)
      · (try simp only [aF] at h20)
        have hwh : s.whole = false := by simpa using h20
        have hty : s.typed = false := by unfold dJ.typed; rw [hc3, hwh]; rfl
        have hrun : (s.typed && (!s.put.isEmpty || s.c.run)) = false := by rw [hty]; rfl
        refine bH (bH (bH (bH (bH (iJ O O ?_)))))
        have hwo := wL (yc.f11)
        have adZ := yc.f11.right
        have HW0 := V.BZ (c := s.was) (u := [sG, sH, sJ, sK, sN, sO, sQ, sS, sU, sV, sW]) adZ hwo
        obtain ⟨s1, oz, Wi⟩ : ∃ s1, s1 = s.jU ∧ V w0 (w3.drew) (gG e s1 • F) := ⟨_, hs1, V.iI (hs1 ▸ sZ iw) dI HW0.f11.f11.f11.f11.f11.f11.f11.f11.f11.f11⟩
        have hr1 : s1.c.run = s.c.run := by rw [oz]; unfold dJ.jU; split <;> rfl
        refine eG O func84 (pV Wi) ?_
        rintro _ w60 H60
        obtain ⟨on, hon, HZ⟩ : ∃ on, (s.typed && s.c.run) = on ∧ V w0 w60 (gG e (s1.gI on) • F) := ⟨_, by rw [hty]; rfl, H60⟩
        refine pJ ?_
        obtain ⟨xO, xP, xQ, xR, xU, xW, xX, xY, uK, sG, sH, sJ, sK, sN, sO, sQ, sS, sU, sV, sW, iw, dI, lg, iL⟩ := (HZ).Gz
        refine aB (jF O O (jL O (fun h26 => ?_) (fun h26 => ?_)))
        · (try simp only [aF] at h26)
          have hw2 : s.whole = true := h26
          refine bC (bQ O (bC (jL O (fun h27 => ?_) (fun h27 => ?_))))
          · (try simp only [aF] at h27)
            have hrun : (s.typed && (!s.put.isEmpty || s.c.run)) = true := by first | exact absurd (hw2.symm.trans hwh) (by decide) | (rw [oJ, decide_eq_false (show ¬ s.put.length = 0 by omega), hty]; rfl)
            refine bH (bH (bH (bH (bH (bC (jw O O (jw O O (dL O (bF 0 ah O aU O (bF 10 aH O aQ O (aK (eP 10 iL aQ) ?_)))))))))))
            rintro _ w62 H62
            refine qQ O (nG O O (bF 28 ah O aj O (gq aN O (H62).get.2 O (dL O (bF 0 ah O aU O (bF 6 aH O aj O (aK (eP 6 H62 aj) ?_)))))))
            rintro _ w63 H63
            refine pJ (bT O (dL O (bF 28 ah O aj O (gq aN O (H63).get.2 O (Z (iZ O O) (iV O (fun h28 => ?_) (fun h28 => ?_)))))))
            · (try simp only [aF] at h28)
              have tq := jR oz hon hrun h28
              refine aB (jF O O (dL O (bF 0 ah O aU O (bF 7 aH O aj O (aK (eP 7 H63 aj) ?_)))))
              rintro _ w64 H64
              refine dL O (bF 0 ah O aU O (bF 8 aH O aj O (aK (eP 8 H64 aj) ?_)))
              rintro _ w65 H65
              refine iK (jd O (dG dS O ?_))
              refine ⟨O, ?_⟩
              first
                | exact absurd (hw2.symm.trans hwh) (by decide)
                | exact absurd (hwh.symm.trans hw2) (by decide)
                | (rw [tq]; exact V.iI iw dI H65.f11.f11.f11.f11.f11.f11.f11.f11.f11.f11.f11)
            · (try simp only [aF] at h28)
              have tq := jl oz hon hrun h28
              refine fV (jd O (dG dS O ?_))
              refine ⟨O, ?_⟩
              first
                | exact absurd (hw2.symm.trans hwh) (by decide)
                | exact absurd (hwh.symm.trans hw2) (by decide)
                | (rw [tq]; exact V.iI iw dI H63.f11.f11.f11.f11.f11.f11.f11.f11.f11.f11.f11)
          · (try simp only [aF] at h27)
            have hrun : (s.typed && (!s.put.isEmpty || s.c.run)) = (s1.gI on).c.run := by first | exact absurd (hw2.symm.trans hwh) (by decide) | (rw [oJ, decide_eq_true (show s.put.length = 0 by omega), hty, yZ, hr1]; rfl)
            refine bC (bQ O (bC (dL O (bC (bF 0 ah O aU O (bC (bF 10 aH O aQ O (bC (gq bM O (iL).get.2 O (bC (iJ O O (jw O O (dL O (bF 0 ah O aU O (bF 10 aH O aQ O (aK (eP 10 iL aQ) ?_))))))))))))))))
            rintro _ w66 H66
            refine qQ O (nG O O (bF 28 ah O aj O (gq aN O (H66).get.2 O (dL O (bF 0 ah O aU O (bF 6 aH O aj O (aK (eP 6 H66 aj) ?_)))))))
            rintro _ w67 H67
            refine pJ (bT O (dL O (bF 28 ah O aj O (gq aN O (H67).get.2 O (Z (iZ O O) (iV O (fun h29 => ?_) (fun h29 => ?_)))))))
            · (try simp only [aF] at h29)
              have tq := jR oz hon hrun h29
              refine aB (jF O O (dL O (bF 0 ah O aU O (bF 7 aH O aj O (aK (eP 7 H67 aj) ?_)))))
              rintro _ w68 H68
              refine dL O (bF 0 ah O aU O (bF 8 aH O aj O (aK (eP 8 H68 aj) ?_)))
              rintro _ w69 H69
              refine iK (jd O (dG dS O ?_))
              refine ⟨O, ?_⟩
              first
                | exact absurd (hw2.symm.trans hwh) (by decide)
                | exact absurd (hwh.symm.trans hw2) (by decide)
                | (rw [tq]; exact V.iI iw dI H69.f11.f11.f11.f11.f11.f11.f11.f11.f11.f11.f11)
            · (try simp only [aF] at h29)
              have tq := jl oz hon hrun h29
              refine fV (jd O (dG dS O ?_))
              refine ⟨O, ?_⟩
              first
                | exact absurd (hw2.symm.trans hwh) (by decide)
                | exact absurd (hwh.symm.trans hw2) (by decide)
                | (rw [tq]; exact V.iI iw dI H67.f11.f11.f11.f11.f11.f11.f11.f11.f11.f11.f11)
        · (try simp only [aF] at h26)
          have hw2 : s.whole = false := by simpa using h26
          have hrun : (s.typed && (!s.put.isEmpty || s.c.run)) = false := by first | exact absurd (hwh.symm.trans hw2) (by decide) | (rw [hty]; rfl)
          refine bH (bH (kS (kS (kS (kS (kS (bH (iJ O O (dL O (bF 0 ah O aU O (bF 10 aH O aQ O (aK (eP 10 iL aQ) ?_))))))))))))
          rintro _ w70 H70
          refine qQ O (nG O O (bF 28 ah O aj O (gq aN O (H70).get.2 O (dL O (bF 0 ah O aU O (bF 6 aH O aj O (aK (eP 6 H70 aj) ?_)))))))
          rintro _ w71 H71
          refine pJ (bT O (dL O (bF 28 ah O aj O (gq aN O (H71).get.2 O (Z (iZ O O) (iV O (fun h30 => ?_) (fun h30 => ?_)))))))
          · (try simp only [aF] at h30)
            have tq := jR oz hon hrun h30
            refine aB (jF O O (dL O (bF 0 ah O aU O (bF 7 aH O aj O (aK (eP 7 H71 aj) ?_)))))
            rintro _ w72 H72
            refine dL O (bF 0 ah O aU O (bF 8 aH O aj O (aK (eP 8 H72 aj) ?_)))
            rintro _ w73 H73
            refine iK (jd O (dG dS O ?_))
            refine ⟨O, ?_⟩
            first
              | exact absurd (hw2.symm.trans hwh) (by decide)
              | exact absurd (hwh.symm.trans hw2) (by decide)
              | (rw [tq]; exact V.iI iw dI H73.f11.f11.f11.f11.f11.f11.f11.f11.f11.f11.f11)
          · (try simp only [aF] at h30)
            have tq := jl oz hon hrun h30
            refine fV (jd O (dG dS O ?_))
            refine ⟨O, ?_⟩
            first
              | exact absurd (hw2.symm.trans hwh) (by decide)
              | exact absurd (hwh.symm.trans hw2) (by decide)
              | (rw [tq]; exact V.iI iw dI H71.f11.f11.f11.f11.f11.f11.f11.f11.f11.f11.f11)
    · (try simp only [aF] at h19)
      have hty : s.typed = false := by unfold dJ.typed; rw [beq_false_of_ne h19]; rfl
      have hrun : (s.typed && (!s.put.isEmpty || s.c.run)) = false := by rw [hty]; rfl
      refine vX 6 O O O O (by kernel_rfl) (by kernel_rfl) gK (mg O) ?_
      refine vX 7 O O O O (by kernel_rfl) (by kernel_rfl) gK (mg O) ?_
      refine vX 8 O O O O (by kernel_rfl) (by kernel_rfl) gK (mg O) ?_
      refine vX 9 O O O O (by kernel_rfl) (by kernel_rfl) gK (mg O) ?_
      refine jC 10 O gK (fun _ => CO O O) (jE 11 O gK O (kJ 12 O gK O (gU 13 O gK 33 ah O bJ O (jQ 14 O gK (fun W hW => kC aV O ((Kp.h hW)).get.2 O) (jC 15 O gK (fun _ => iW ((yc.f9).aT) aV O) (jC 16 O gK (fun _ => jc O O) (jC 17 O gK (fun _ => dQ O) (jC 18 O gK (fun _ => dQ O) (qR (aW (bT O (jF O O (bH (bH (bH (bH (bH (iJ O O ?_))))))))))))))))))
      have hwo := wL (yc.f11)
      have ad0 := yc.f11.right
      have HW0 := V.BZ (c := s.was) (u := [sG, sH, sJ, sK, sN, sO, sQ, sS, sU, sV, sW]) ad0 hwo
      obtain ⟨s1, oz, Wi⟩ : ∃ s1, s1 = s.jU ∧ V w0 (w3.drew) (gG e s1 • F) := ⟨_, hs1, V.iI (hs1 ▸ sZ iw) dI HW0.f11.f11.f11.f11.f11.f11.f11.f11.f11.f11⟩
      have hr1 : s1.c.run = s.c.run := by rw [oz]; unfold dJ.jU; split <;> rfl
      refine eG O func84 (pV Wi) ?_
      rintro _ w75 H75
      obtain ⟨on, hon, HZ⟩ : ∃ on, (s.typed && s.c.run) = on ∧ V w0 w75 (gG e (s1.gI on) • F) := ⟨_, by rw [hty]; rfl, H75⟩
      refine pJ ?_
      obtain ⟨xO, xP, xQ, xR, xU, xW, xX, xY, uK, sG, sH, sJ, sK, sN, sO, sQ, sS, sU, sV, sW, iw, dI, lg, iL⟩ := (HZ).Gz
      refine aB (jF O O (bQ O (bH (bH (kS (kS (kS (kS (kS (bH (iJ O O (dL O (bF 0 ah O aU O (bF 10 aH O aQ O (aK (eP 10 iL aQ) ?_)))))))))))))))
      rintro _ w77 H77
      refine qQ O (nG O O (bF 28 ah O aj O (gq aN O (H77).get.2 O (dL O (bF 0 ah O aU O (bF 6 aH O aj O (aK (eP 6 H77 aj) ?_)))))))
      rintro _ w78 H78
      refine pJ (bT O (dL O (bF 28 ah O aj O (gq aN O (H78).get.2 O (Z (iZ O O) (iV O (fun h31 => ?_) (fun h31 => ?_)))))))
      · (try simp only [aF] at h31)
        have tq := jR oz hon hrun h31
        refine aB (jF O O (dL O (bF 0 ah O aU O (bF 7 aH O aj O (aK (eP 7 H78 aj) ?_)))))
        rintro _ w79 H79
        refine dL O (bF 0 ah O aU O (bF 8 aH O aj O (aK (eP 8 H79 aj) ?_)))
        rintro _ w80 H80
        refine iK (jd O (dG dS O ?_))
        refine ⟨O, ?_⟩
        first
          | exact absurd (hw2.symm.trans hwh) (by decide)
          | exact absurd (hwh.symm.trans hw2) (by decide)
          | (rw [tq]; exact V.iI iw dI H80.f11.f11.f11.f11.f11.f11.f11.f11.f11.f11.f11)
      · (try simp only [aF] at h31)
        have tq := jl oz hon hrun h31
        refine fV (jd O (dG dS O ?_))
        refine ⟨O, ?_⟩
        first
          | exact absurd (hw2.symm.trans hwh) (by decide)
          | exact absurd (hwh.symm.trans hw2) (by decide)
          | (rw [tq]; exact V.iI iw dI H78.f11.f11.f11.f11.f11.f11.f11.f11.f11.f11.f11)
theorem AQ {s : dJ} {x : Int} (hin : s.inn = true) (hx : x ≠ 0) : s.BP x = s.xJ ∧ s.zS x = x := by
  unfold dJ.BP dJ.zS
  rw [if_pos hin, if_neg hx, if_pos hin]; exact ⟨rfl, rfl⟩
theorem Qe {s : dJ} (h : lT s) (hin : s.inn = true) : lT s.xJ := by
  obtain ⟨h1, h2, h3⟩ := h.2.1 hin
  exact ⟨h1, fun h => Bool.noConfusion h, ⟨by show (-1 : Int) ≤ -1; decide, by show (-1 : Int) ≤ 1000000; decide⟩, by simp [dJ.xJ], h2, h3⟩
theorem Qg (hin : s.inn = true) (hx : x ≠ 0) (H : V w0 w (gG e s • F)) : gQ prog 31 #[.pointer (some ⟨e, 0, none⟩), .int .i64 x] w fun v w' => v = .int .i64 x ∧ V w0 w' (gG e s.xJ • F) := by
 have hpe : s.yx = 0 := by unfold dJ.yx; rw [if_pos hin]
 refine nH func31 ntmps31 ?_
 refine jk O (aO (bT O (eG O func81 (uf H) ?_)))
 rintro _ _ ⟨rfl, rfl⟩
 refine gB O (bT O (Z (iZ O O) (iV O (fun h => by exfalso; (try simp only [aF] at h); exact h hpe) (fun h1 => ?_))))
 (try simp only [aF] at h1)
 refine fV (aO ?_)
 obtain ⟨xO, xP, xQ, xR, xU, xW, xX, xY, uK, sG, sH, sJ, sK, sN, sO, sQ, sS, sU, sV, sW, iw, dI, lg, iL⟩ := (H).Gz
 have HI := iL
 rw [hin] at HI
 obtain ⟨qb, qr, qw, qt, qm, hu, HW⟩ := (HI.f11).was
 simp only [Nj, List.cons.injEq, and_true] at hu
 obtain ⟨rfl, rfl, rfl, rfl, rfl, rfl, rfl, rfl, rfl, rfl, rfl⟩ := hu
 refine aB (nG O O (bF 16 ah O aQ O (aK (eP 16 HW.f6 aQ) ?_)))
 rintro _ w3 H3
 refine pJ (bT O (dL O (bF 31 ah O aQ O (gq bM O (H3).get.2 O (Z (lS O) (jL O (fun h2 => ?_) (fun h2 => ?_)))))))
 ·(try simp only [aF] at h2)
  refine bH (bH (jw O O (iK (Iz (aB (jF O O (nG O O (bF 13 ah O aQ O (aK (eP 13 H3 aQ) ?_)))))))))
  rintro _ w4 H4
  refine dL O (bF 14 ah O aQ O (aK (eP 14 H4 aQ) ?_))
  rintro _ w5 H5
  refine dL O (bF 15 ah O aj O (aK (eP 15 H5 aj) ?_))
  rintro _ w6 H6
  refine pJ (bT O (Z (iZ O O) (iV O (fun h3 => ?_) (fun h => by exfalso; (try simp only [aF] at h); exact hx h))))
  (try simp only [aF] at h3)
  refine bT O (nG O O (bF 17 ah O aU O (Z (nY 17 (xs := [_, _, _, _, _, _, _, _, _, _, _]) aH O aU O O (H6).get.2 O) (dL O (bF 0 ah O aU O (aK (bW 0 (l' := [_, _, _, _, _, _, _, _, _, _, _, _, _, _, _, _, _, _, _, _, _, _, _, _, _, _, _, _, _, _, _, _, _, _]) (us := [_, _, _, _, _, _, _, _, _, _, _]) H6 aU O O O (aA (aA (aA (aA (aA (aA (aA (aA (aA (aA (aA bD))))))))))) O O) ?_))))))
  rintro _ w7 H7
  refine qQ O (dL O (bF 12 ah O sizeOf79 O (gq underlying79 O (H7).get.2 O (eG O func83 (Dx H7.f13) ?_))))
  rintro _ w8 ⟨rfl, H8⟩
  refine qQ O (jF O O (nG O O (bF 0 ah O aU O (bF 6 aH O aj O (aK (eP 6 H8.f2 aj) ?_)))))
  rintro _ w9 H9
  refine dL O (bF 0 ah O aU O (bF 7 aH O aj O (aK (eP 7 H9 aj) ?_)))
  rintro _ w10 ql
  refine dL O (bF 0 ah O aU O (bF 8 aH O aj O (aK (eP 8 ql aj) ?_)))
  rintro _ EI rE
  refine dL O (bF 33 ah O bJ O (aK (eP 33 rE bJ) ?_))
  rintro _ w12 uG
  refine qQ O (fF O (aG (dG dS O ?_)))
  exact ⟨O, V.Qb (s := s.xJ) (Qe iw hin) O O uG.f8.right.f8.right.f8.right.f8.right.f8.right.f9.right.f9.right.f2.f8.f8.f8.f8.f8.f8.f8⟩
 ·(try simp only [aF] at h2)
  refine bC (bQ O (bC (Z (iZ O O) (iJ O O (iV O (fun h4 => ?_) (fun h => by exfalso; (try simp only [aF] at h); exact hx h))))))
  (try simp only [aF] at h4)
  refine aB (jF O O (nG O O (bF 13 ah O aQ O (aK (eP 13 H3 aQ) ?_))))
  rintro _ Pn wZ
  refine dL O (bF 14 ah O aQ O (aK (eP 14 wZ aQ) ?_))
  rintro _ Si Aw
  refine dL O (bF 15 ah O aj O (aK (eP 15 Aw aj) ?_))
  rintro _ SA yQ
  refine pJ (bT O (Z (iZ O O) (iV O (fun h5 => ?_) (fun h => by exfalso; (try simp only [aF] at h); exact hx h))))
  (try simp only [aF] at h5)
  refine bT O (nG O O (bF 17 ah O aU O (Z (nY 17 (xs := [_, _, _, _, _, _, _, _, _, _, _]) aH O aU O O (yQ).get.2 O) (dL O (bF 0 ah O aU O (aK (bW 0 (l' := [_, _, _, _, _, _, _, _, _, _, _, _, _, _, _, _, _, _, _, _, _, _, _, _, _, _, _, _, _, _, _, _, _, _]) (us := [_, _, _, _, _, _, _, _, _, _, _]) yQ aU O O O (aA (aA (aA (aA (aA (aA (aA (aA (aA (aA (aA bD))))))))))) O O) ?_))))))
  rintro _ w16 yL
  refine qQ O (dL O (bF 12 ah O sizeOf79 O (gq underlying79 O (yL).get.2 O (eG O func83 (Dx yL.f13) ?_))))
  rintro _ Zc ⟨rfl, Iu⟩
  refine qQ O (jF O O (nG O O (bF 0 ah O aU O (bF 6 aH O aj O (aK (eP 6 Iu.f2 aj) ?_)))))
  rintro _ XG CW
  refine dL O (bF 0 ah O aU O (bF 7 aH O aj O (aK (eP 7 CW aj) ?_)))
  rintro _ w19 Ec
  refine dL O (bF 0 ah O aU O (bF 8 aH O aj O (aK (eP 8 Ec aj) ?_)))
  rintro _ w20 OZ
  refine dL O (bF 33 ah O bJ O (aK (eP 33 OZ bJ) ?_))
  rintro _ w21 IK
  refine qQ O (fF O (aG (dG dS O ?_)))
  exact ⟨O, V.Qb (s := s.xJ) (Qe iw hin) O O IK.f8.right.f8.right.f8.right.f8.right.f8.right.f9.right.f9.right.f2.f8.f8.f8.f8.f8.f8.f8⟩
theorem Ci (H : V w0 w (gG e s • F)) : gQ prog 31 #[.pointer (some ⟨e, 0, none⟩), .int .i64 x] w fun v w' => v = .int .i64 (s.zS x) ∧ V w0 w' (gG e (s.BP x) • F) := by
  by_cases hin : s.inn = true
  · by_cases hx : x = 0
    · subst hx
      rw [show s.BP 0 = s.oN from by unfold dJ.BP; rw [if_pos hin, if_pos rfl], show s.zS 0 = 0 from by unfold dJ.zS; rw [if_pos hin]]
      exact NS hin H
    · rw [(AQ hin hx).1, (AQ hin hx).2]
      exact Qg hin hx H
  · have hin' : s.inn = false := by simpa using hin
    have hpe : s.yx = 1 := by unfold dJ.yx; rw [if_neg hin]
    rw [show s.BP x = s from by unfold dJ.BP; rw [if_neg hin], show s.zS x = 1 from by unfold dJ.zS; rw [if_neg hin]]
    refine nH func31 ntmps31 ?_
    refine jk O (aO (bT O (eG O func81 (uf H) ?_)))
    rintro _ _ ⟨rfl, rfl⟩
    refine gB O (bT O (Z (iZ O O) (iV O (fun h1 => ?_) (fun h => by exfalso; (try simp only [aF] at h); rw [hpe] at h; exact absurd h (by decide)))))
    (try simp only [aF] at h1)
    refine bT O (fF O (aG (dG dS O ?_)))
    rw [hpe]
    exact ⟨O, H⟩
end
end Go.Proofs.YtpdeedplgmbopaaGreatDoor
end
section
namespace Go.Proofs.YtpdeedplgmbopaaGreatDoor
open Go.RowKit
theorem aaD {s : dJ} (h : lT s) {G : List (List iU)} (h1 : iH G s.put ≤ iH s.here s.put) (h2 : ∀ g ∈ G, g ∈ s.here) : lT (s.wB G) := by
  obtain ⟨a1, a2, a3, a4, a5, a6⟩ := h
  refine ⟨a1, a2, a3, a4, ?_, ?_⟩
  · show iH (wQ s.c.un s.c.place G s.c.place) s.put ≤ 16384
    rw [nS]; omega
  · intro k g hg
    have hg' : g ∈ wQ s.c.un s.c.place G k := hg
    by_cases hk : k = s.c.place
    · subst hk; rw [nS] at hg'; exact a6 _ g (h2 g hg')
    · rw [tX _ _ hk] at hg'; exact a6 k g hg'
section
variable {w0 w : World} {F : HP} {e p : Nat} {s : dJ} {x : Int}
end
def Fb (e : TypeId) (k : IntKind) : List Value → List (List Int) → HP
  | [], [] => emp
  | v :: vs, l :: ls => kT e k v l • Fb e k vs ls
  | _, _ => fact False
section
variable {w0 w : World} {F : HP} {e : TypeId} {k : IntKind} {v : Value} {l : List Int}
theorem V.Wj (H : V w0 w F) : V w0 w (Fb e k [] [] • F) := H.J3
theorem AU : ∀ (vs : List Value) (ls : List (List Int)), (Fb e k vs ls • kT e k v l) = Fb e k (vs ++ [v]) (ls ++ [l])
  | [], [] => by show (emp • kT e k v l) = (kT e k v l • emp); rw [vN]
  | u :: vs, m :: ls => by
    show ((kT e k u m • Fb e k vs ls) • kT e k v l) = (kT e k u m • Fb e k (vs ++ [v]) (ls ++ [l]))
    rw [bZ, AU vs ls]
  | [], m :: ls => by
    apply HP.ext; funext I h; apply propext
    constructor
    · intro hp; exact absurd ((zA _ _ _ _).1 hp).1 id
    · intro hp
      cases ls with
      | nil => exact absurd (show False by obtain ⟨_, _, _, _, _, hb⟩ := hp; exact hb.1) id
      | cons x y => exact absurd (show False by obtain ⟨_, _, _, _, _, hb⟩ := hp; exact hb.1) id
  | u :: vs, [] => by
    apply HP.ext; funext I h; apply propext
    constructor
    · intro hp; exact absurd ((zA _ _ _ _).1 hp).1 id
    · intro hp
      cases vs with
      | nil => exact absurd (show False by obtain ⟨_, _, _, _, _, hb⟩ := hp; exact hb.1) id
      | cons x y => exact absurd (show False by obtain ⟨_, _, _, _, _, hb⟩ := hp; exact hb.1) id
theorem V.AU {vs : List Value} {ls : List (List Int)} (H : V w0 w (Fb e k vs ls • kT e k v l • F)) : V w0 w (Fb e k (vs ++ [v]) (ls ++ [l]) • F) := H.deep.of_eq (by rw [Go.Proofs.YtpdeedplgmbopaaGreatDoor.AU])
end
end Go.Proofs.YtpdeedplgmbopaaGreatDoor
end
section
namespace Go.Proofs.YtpdeedplgmbopaaGreatDoor
open Go.RowKit
open _root_.Go.Proofs.Tryz
section
variable {w0 w : World} {F : HP} {e p ph pw pt pr pm : Nat} {s : dJ} {k x place : Int} {hl : List pO} {base most : Int} {tx : Int → Option ByteArray} {v : Value}
theorem NT (H : V w0 w (gJ p hl base most • F)) : gQ prog 157 #[.pointer (some ⟨p, 0, none⟩), .int .i64 k] w fun v w' =>
  v = .tuple #[.agg #[.string (MR hl k).1, .int .i64 (MR hl k).2], .bool (decide (0 ≤ k ∧ k < hl.length))] ∧ V w0 w' (gJ p hl base most • F) := by
 have hb : hl.length ≤ 4096 := by obtain ⟨v, h, _⟩ := H.hist; exact h.1
 refine nH func157 ntmps157 ?_
 refine iy (jy (fM (l := [_, _]) H zeroValue218 O) ?_)
 rintro _ w1 ⟨b1, rfl, H1⟩
 refine vZ O (bT O (Z (gZ O O) (jL O (fun h1 => ?_) (fun h1 => ?_))))
 ·(try simp only [aF] at h1)
  refine bH (bH (bH (bH (jw O O (iK (Iz (iy (Z (dW (zl := [.string .empty, .int .i64 0]) (pl := [(0, 1), (1, 1)]) [_, _] kP zeroValue218 O (fun w => by kernel_rfl) O (.zero (zs := [.string .empty]) O (.zero (zs := [.int .i64 0]) O .nil)) O) (aK (bW 0 (l' := [_, _]) (us := [_, _]) H1 sizeOf218 O O O (aA (aA bD)) O O) ?_)))))))))
  rintro _ w2 H2
  refine fF O (aG ?_)
  refine pY (.inl O) (Ut results157 O O kP O (by rw [Qh]; rfl) (H2).get.2) ?_
  exact ⟨by unfold MR; rw [if_neg (by omega), decide_eq_false (by omega)], H2.right⟩
 ·(try simp only [aF] at h1)
  refine bC (bQ O (bC (bQ O (bC (eG O func117 (og H1.f2) ?_)))))
  rintro _ w3 ⟨rfl, H3⟩
  refine bC (Z (lJ O O) (iJ O O (iV O (fun h2 => ?_) (fun h2 => ?_))))
  ·(try simp only [aF] at h2)
   refine iy (Z (dW (zl := [.string .empty, .int .i64 0]) (pl := [(0, 1), (1, 1)]) [_, _] kP zeroValue218 O (fun w => by kernel_rfl) O (.zero (zs := [.string .empty]) O (.zero (zs := [.int .i64 0]) O .nil)) O) (aK (bW 0 (l' := [_, _]) (us := [_, _]) H3.f2 sizeOf218 O O O (aA (aA bD)) O O) ?_))
   rintro _ w4 H4
   refine fF O (aG ?_)
   refine pY (.inl O) (Ut results157 O O kP O (by rw [Qh]; rfl) (H4).get.2) ?_
   exact ⟨by unfold MR; rw [if_neg (by omega), decide_eq_false (by omega)], H4.right⟩
  ·(try simp only [aF] at h2)
   refine fV (aO ?_)
   obtain ⟨m, rfl⟩ := Int.eq_ofNat_of_zero_le (show 0 ≤ k by omega)
   obtain ⟨PE, A8, zy⟩ := (H3).hist
   refine aB (nG O O (bF 0 kL O sizeOf151 O (bF 0 kM O sizeOf149 O (gq fG O (zy).get.2 O (bQ O ?_)))))
   obtain ⟨abS, abT, abU, VA⟩ := Rd.nX ((zy.f2).aT) (by omega)
   cases VA
   refine Z (dw fG sizeOf218 O O (by omega)) (Z (qL (ys := [_, _]) ((zy.f2).aT) (by omega) kP O sizeOf218 O (sD Jy (by omega) default) O) (aK (bW 0 (l' := [_, _]) (us := [_, _]) zy.f3 sizeOf218 O O O (aA (aA bD)) O O) ?_))
   rintro _ w6 H6
   refine fF O ?_
   refine pY (.inl O) (Ut results157 O O kP O (by rw [Qh]; rfl) (H6).get.2) ?_
   have Ho8 := H6.f3.f3
   have Yj := V.Dk A8 Ho8
   exact ⟨by unfold MR; rw [if_pos (by omega), decide_eq_true (by omega)]; rfl, Yj.f2.right⟩
theorem DF {x0 x1 x2 x3 x4 x5 x6 x7 x8 x9 x10 x12 uO x14 x15 x16 x17 x18 x19 x20 x21 vI x23 x24 x25 wo x27 x28 x29 x30 x31 x32 wX : Value} (H : V w0 w (dM e (.cells (x0 :: x1 :: x2 :: x3 :: x4 :: x5 :: x6 :: x7 :: x8 :: x9 :: x10 :: .pointer (some ⟨ph, 0, none⟩) :: x12 :: uO :: x14 :: x15 :: x16 :: x17 :: x18 :: x19 :: x20 :: x21 :: vI :: x23 :: x24 :: x25 :: wo :: x27 :: x28 :: x29 :: x30 :: x31 :: x32 :: wX :: []).toArray 82 (0, 0)) • gJ ph hl base most • F)) : gQ prog 119 #[.pointer (some ⟨e, 0, none⟩), .int .i64 k] w fun v w' =>
    v = .string (yT hl k) ∧ V w0 w' (dM e (.cells (x0 :: x1 :: x2 :: x3 :: x4 :: x5 :: x6 :: x7 :: x8 :: x9 :: x10 :: .pointer (some ⟨ph, 0, none⟩) :: x12 :: uO :: x14 :: x15 :: x16 :: x17 :: x18 :: x19 :: x20 :: x21 :: vI :: x23 :: x24 :: x25 :: wo :: x27 :: x28 :: x29 :: x30 :: x31 :: x32 :: wX :: []).toArray 82 (0, 0)) • gJ ph hl base most • F) := by
  refine nH func119 ntmps119 ?_
  refine jk O (bT O (dL O (bF 11 ah O sizeOf78 O (gq jO O (H).get.2 O (bQ O (eG O func157 (NT H.f2) ?_))))))
  rintro _ w1 ⟨rfl, H1⟩
  refine bQ O (uD O O (uD O O (jy (fM (l := [_, _]) H1 zeroValue218 O) ?_)))
  rintro _ w2 ⟨b2, rfl, H2⟩
  refine aK (bW 0 (l' := [_, _]) (us := [_, _]) H2 sizeOf218 O O O (aA (aA bD)) O O) ?_
  rintro _ w3 H3
  refine gB O (iy (bF 0 kP O lF O (gq iR O (H3).get.2 O (fF O (dG results119 O ?_)))))
  exact ⟨O, H3.right.f2⟩
theorem Tv {t : ByteArray} (h : tx k = some t) : (rU tx k).getD (.string .empty) = .string t ∧ (rU tx k).isSome = true := by unfold rU; rw [h]; exact ⟨rfl, rfl⟩
theorem EO : (rU tx k).isSome = (tx k).isSome := by unfold rU; cases tx k <;> rfl
theorem yg {x0 x1 x3 x4 x5 x6 x7 x8 x9 x10 x12 uO x14 x15 x16 x17 x18 x19 x20 x21 vI x23 x24 x25 wo x27 x28 x29 x30 x31 x32 wX : Value} (H : V w0 w (dM e (.cells (x0 :: x1 :: .pointer (some ⟨pw, 0, none⟩) :: x3 :: x4 :: x5 :: x6 :: x7 :: x8 :: x9 :: x10 :: .pointer (some ⟨ph, 0, none⟩) :: x12 :: uO :: x14 :: x15 :: x16 :: x17 :: x18 :: x19 :: x20 :: x21 :: vI :: x23 :: x24 :: x25 :: wo :: x27 :: x28 :: x29 :: x30 :: x31 :: x32 :: wX :: []).toArray 82 (0, 0)) • dM pw (.cells #[v, .map (some pt)] 122 (0, 0)) • fJ qI pt (rU tx) • gJ ph hl base most • F)) :
    gQ prog 118 #[.pointer (some ⟨e, 0, none⟩), .int .i64 k] w fun v' w' =>
    v' = .string (jq hl tx k) ∧ V w0 w' (dM e (.cells (x0 :: x1 :: .pointer (some ⟨pw, 0, none⟩) :: x3 :: x4 :: x5 :: x6 :: x7 :: x8 :: x9 :: x10 :: .pointer (some ⟨ph, 0, none⟩) :: x12 :: uO :: x14 :: x15 :: x16 :: x17 :: x18 :: x19 :: x20 :: x21 :: vI :: x23 :: x24 :: x25 :: wo :: x27 :: x28 :: x29 :: x30 :: x31 :: x32 :: wX :: []).toArray 82 (0, 0)) • dM pw (.cells #[v, .map (some pt)] 122 (0, 0)) • fJ qI pt (rU tx) • gJ ph hl base most • F) := by
  refine nH func118 ntmps118 ?_
  refine jk O (aO (bT O (dL O (bF 0 ah O aU O (bF 2 aH O sizeOf74 O (gq kF O (H).get.2 O (dL O (bF 1 fB O sizeOf120 O (gq underlying120 O (H.f2).get.2 O (bQ O (Z (zV (H.f3) underlying120 aN zeroValue9 O O) (bQ O (uD O O (uD O O (fU O (gB O (bT O (iV O (fun h1 => ?_) (fun h1 => ?_)))))))))))))))))))
  · (try simp only [aF] at h1)
    obtain ⟨tt, htt⟩ := Option.isSome_iff_exists.1 (EO (tx := tx) ▸ h1)
    refine bT O (fF O (aG (dG results118 O ?_)))
    exact ⟨by unfold jq; rw [htt]; show (rU tx k).getD (.string .empty) = _; rw [(Tv htt).1]; rfl, H.f4.f4.f4.f4⟩
  · (try simp only [aF] at h1)
    have htt : tx k = none := by have := EO (tx := tx) (k := k) ▸ h1; simpa using this
    refine fV (bT O (bQ O (eG O func119 (DF H.f4.f2) ?_)))
    rintro _ w1 ⟨rfl, H1⟩
    refine fF O (dG results118 O ?_)
    exact ⟨by unfold jq; rw [htt]; rfl, H1.f2.f4.f4.f4⟩
end
end Go.Proofs.YtpdeedplgmbopaaGreatDoor
end
