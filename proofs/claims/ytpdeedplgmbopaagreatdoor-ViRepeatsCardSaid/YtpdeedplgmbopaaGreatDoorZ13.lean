import Derived.Test.YtpdeedplgmbopaaGreatDoorZ4
import Derived.Test.YtpdeedplgmbopaaGreatDoorZ12
import Derived.Test.YtpdeedplgmbopaaGreatDoorZ11
import Derived.Test.YtpdeedplgmbopaaGreatDoorZ7
set_option linter.unusedSimpArgs false
set_option linter.unusedVariables false
/- Texts of mine, joined, their names in short: EdE EdU EEdit Owns EdS. -/
section
namespace Go.Proofs.YtpdeedplgmbopaaGreatDoor
open Go.RowKit
open _root_.Go.Proofs.Tryz
theorem Dt (s : bF) (on : Bool) : (s.dQ on).c.run = s.c.run := by unfold bF.dQ; split <;> rfl
theorem Nb (s : bF) (on : Bool) : (s.dQ on).cls = s.cls := by unfold bF.dQ; split <;> rfl
theorem lV {s s1 : bF} {on run : Bool} (h1 : s1 = s.jT) (hon : (s.typed && s.c.run) = on) (hrun : (s.typed && (!s.put.isEmpty || s.c.run)) = run) (h2 : (s1.dQ on).cls ≠ 2) :
    s.kU = { s1.dQ on with c := { (s1.dQ on).c with run := run, last := (s1.dQ on).cls, fr := 0, to := 0 } } := by
  subst h1 hon hrun
  have hc : (s.jT.dQ (s.typed && s.c.run)).cls = s.cls := by rw [Nb]; unfold bF.jT; split <;> rfl
  unfold bF.kU
  rw [hc] at h2 ⊢
  dsimp only
  rw [if_pos h2]
theorem kV {s s1 : bF} {on run : Bool} (h1 : s1 = s.jT) (hon : (s.typed && s.c.run) = on) (hrun : (s.typed && (!s.put.isEmpty || s.c.run)) = run) (h2 : (s1.dQ on).cls = 2) :
    s.kU = { s1.dQ on with c := { (s1.dQ on).c with run := run, last := (s1.dQ on).cls } } := by
  subst h1 hon hrun
  have hc : (s.jT.dQ (s.typed && s.c.run)).cls = s.cls := by rw [Nb]; unfold bF.jT; split <;> rfl
  unfold bF.kU
  rw [hc] at h2 ⊢
  dsimp only
  rw [if_neg (by omega)]
theorem yc {s : bF} (h : nT s) : nT s.jT := by
  obtain ⟨h1, h2, h3, h4, h5, h6⟩ := h
  unfold bF.jT
  split
  · exact ⟨h1, fun h => Bool.noConfusion h, h3, h4, h5, h6⟩
  · exact ⟨h1, fun h => Bool.noConfusion h, ⟨by show (-1 : Int) ≤ -1; decide, by show (-1 : Int) ≤ 1000000; decide⟩, h4, h5, h6⟩
theorem sF {l : List jl} : l.isEmpty = decide (l.length = 0) := by cases l <;> rfl
section
variable {w0 w : World} {F : HP} {e p : Nat} {s : bF} {x : Int}
theorem Uj (hin : s.inn = true) (H : V w0 w (eH e s • F)) : iQ prog 31 #[.pointer (some ⟨e, 0, none⟩), .int .i64 0] w fun v w' => v = .int .i64 0 ∧ V w0 w' (eH e s.kU • F) := by
  have hpe : s.yJ = 0 := by unfold bF.yJ; rw [if_pos hin]
  refine qc func31 ntmps31 ?_
  refine ku O (aI (bM O (dS O func81 (ru H) ?_)))
  rintro _ _ ⟨rfl, rfl⟩
  refine dZ O (bM O (aQ (gY O O) (jr O (fun h => by exfalso; (try simp only [Z] at h); exact h hpe) (fun h1 => ?_))))
  (try simp only [Z] at h1)
  refine fV (aI ?_)
  obtain ⟨zB, zC, zD, zF, zG, zH, zI, zJ, xM, wu, wz, wB, wC, wE, wF, wG, wH, wI, wJ, wK, iZ, dL, lU, jo⟩ := (H).JV
  refine aB (oq O O (bI 16 aj O aS O (aJ (gG 16 jo aS) ?_)))
  rintro _ w3 H3
  refine rP (bM O (dK O (bI 31 aj O aS O (fC cZ O (H3).get.2 O (aQ (kG O) (jm O (fun h2 => ?_) (fun h2 => ?_)))))))
  · (try simp only [Z] at h2)
    have har : s.argues = false := by simpa using h2
    have hs1 : ({ s.tC with inn := false } : bF) = s.jT := by unfold bF.jT; rw [if_neg (by simp [har])]
    refine bn (bn (je O O (iE (C9 (aB (jX O O (oq O O (bI 13 aj O aS O (aJ (gG 13 H3 aS) ?_)))))))))
    rintro _ w4 H4
    refine dK O (bI 14 aj O aS O (aJ (gG 14 H4 aS) ?_))
    rintro _ w5 H5
    refine dK O (bI 15 aj O ay O (aJ (gG 15 H5 ay) ?_))
    rintro _ w6 H6
    refine rP (bM O (aQ (gY O O) (iE (Oh O (fun h3 => ?_)))))
    (try simp only [Z] at h3)
    refine fV (aI ?_)
    have Gg := H6.drew
    have kR := V.kp (Gg.f11.f11.f11.f11.f11.f11.f11.f11.f11.f11.f11)
    refine uN [3, 9, 14] kR O (gX 0 O kR O (jE 1 O kR O (gy 2 O kR 28 aj O ay O (jf 3 O kR (fun W hW => jv aC O ((Kp.h hW)).get.2 O) (iI 4 O kR (fun _ => eF O O) ?_)))))
    refine Hg 5 O O (by kernel_rfl) (by kernel_rfl) kR (lN O) (fun h4 => ?_) (fun h4 => ?_)
    · (try simp only [Z] at h4)
      have hc3 : s.cls = 3 := h4
      refine lg 6 O O O (by kernel_rfl) (by kernel_rfl) kR (fun _ => Gp O) (lN O) ?_
      refine lg 7 O O O (by kernel_rfl) (by kernel_rfl) kR (fun _ => SG O) (lN O) ?_
      refine lg 8 O O O (by kernel_rfl) (by kernel_rfl) kR (fun _ => G9 32 aj O O aS (by decide) O rfl) (lN O) ?_
      refine D8 9 O O O (by kernel_rfl) (by kernel_rfl) kR (by decide) (fun W hW => fF (dA cZ O) O (kS ((Kp.h hW)).get.2 O)) (lN O) ?_
      refine iI 10 O kR (fun _ => G6 O O) (gX 11 O kR O (jE 12 O kR O (gy 13 O kR 33 aj O bU O (jf 14 O kR (fun W hW => jv aW O ((Kp.h hW)).get.2 O) (iI 15 O kR (fun _ => kX ((Gg.f9).aP) aW O) (iI 16 O kR (fun _ => eX O O) (iI 17 O kR (fun _ => dB O) (iI 18 O kR (fun _ => dB O) (pq (aX (bM O (bJ O (jm O (fun h5 => ?_) (fun h5 => ?_))))))))))))))
      · (try simp only [Z] at h5)
        have hwh : s.whole = true := h5
        have hty : s.typed = true := by unfold bF.typed; rw [hc3, hwh]; rfl
        refine aY (bJ O (aY (dK O (aY (bI 0 aj O aV O (aY (bI 10 aK O aS O (aY (fC cZ O (Gg).get.2 O (je O O ?_))))))))))
        have hwo := AA (Gg.f11)
        have Hd7 := Gg.f11.right
        have HW0 := V.Gz (c := s.was) (u := [wu, wz, wB, wC, wE, wF, wG, wH, wI, wJ, wK]) Hd7 hwo
        obtain ⟨s1, rG, HS1⟩ : ∃ s1, s1 = s.jT ∧ V w0 (w6.drew) (eH e s1 • F) := ⟨_, hs1, V.jg (hs1 ▸ yc iZ) dL HW0.f11.f11.f11.f11.f11.f11.f11.f11.f11.f11⟩
        have hr1 : s1.c.run = s.c.run := by rw [rG]; unfold bF.jT; split <;> rfl
        refine dS O func84 (uq HS1) ?_
        rintro _ w8 H8
        obtain ⟨on, hon, HZ⟩ : ∃ on, (s.typed && s.c.run) = on ∧ V w0 w8 (eH e (s1.dQ on) • F) := ⟨_, by rw [hty]; rfl, H8⟩
        refine rP ?_
        obtain ⟨zB, zC, zD, zF, zG, zH, zI, zJ, xM, wu, wz, wB, wC, wE, wF, wG, wH, wI, wJ, wK, iZ, dL, lU, jo⟩ := (HZ).JV
        refine aB (jX O O (jm O (fun h6 => ?_) (fun h6 => ?_)))
        · (try simp only [Z] at h6)
          have hw2 : s.whole = true := h6
          refine aY (bJ O (aY (jm O (fun h7 => ?_) (fun h7 => ?_))))
          · (try simp only [Z] at h7)
            have hrun : (s.typed && (!s.put.isEmpty || s.c.run)) = true := by first | exact absurd (hw2.symm.trans hwh) (by decide) | (rw [sF, decide_eq_false (show ¬ s.put.length = 0 by omega), hty]; rfl)
            refine bn (bn (bn (bn (bn (aY (je O O (je O O (dK O (bI 0 aj O aV O (bI 10 aK O aS O (aJ (gG 10 jo aS) ?_)))))))))))
            rintro _ w10 pz
            refine sG O (oq O O (bI 28 aj O ay O (fC aC O (pz).get.2 O (dK O (bI 0 aj O aV O (bI 6 aK O ay O (aJ (gG 6 pz ay) ?_)))))))
            rintro _ FM rY
            refine rP (bM O (dK O (bI 28 aj O ay O (fC aC O (rY).get.2 O (aQ (gY O O) (jr O (fun h8 => ?_) (fun h8 => ?_)))))))
            · (try simp only [Z] at h8)
              have yg := lV rG hon hrun h8
              refine aB (jX O O (dK O (bI 0 aj O aV O (bI 7 aK O ay O (aJ (gG 7 rY ay) ?_)))))
              rintro _ w12 vM
              refine dK O (bI 0 aj O aV O (bI 8 aK O ay O (aJ (gG 8 vM ay) ?_)))
              rintro _ PD xI
              refine iE (kC O (dI fK O ?_))
              refine ⟨O, ?_⟩
              first
                | exact absurd (hw2.symm.trans hwh) (by decide)
                | exact absurd (hwh.symm.trans hw2) (by decide)
                | (rw [yg]; exact V.jg iZ dL xI.f11.f11.f11.f11.f11.f11.f11.f11.f11.f11.f11)
            · (try simp only [Z] at h8)
              have yg := kV rG hon hrun h8
              refine fV (kC O (dI fK O ?_))
              refine ⟨O, ?_⟩
              first
                | exact absurd (hw2.symm.trans hwh) (by decide)
                | exact absurd (hwh.symm.trans hw2) (by decide)
                | (rw [yg]; exact V.jg iZ dL rY.f11.f11.f11.f11.f11.f11.f11.f11.f11.f11.f11)
          · (try simp only [Z] at h7)
            have hrun : (s.typed && (!s.put.isEmpty || s.c.run)) = (s1.dQ on).c.run := by first | exact absurd (hw2.symm.trans hwh) (by decide) | (rw [sF, decide_eq_true (show s.put.length = 0 by omega), hty, Dt, hr1]; rfl)
            refine aY (bJ O (aY (dK O (aY (bI 0 aj O aV O (aY (bI 10 aK O aS O (aY (fC cZ O (jo).get.2 O (aY (fG O O (je O O (dK O (bI 0 aj O aV O (bI 10 aK O aS O (aJ (gG 10 jo aS) ?_))))))))))))))))
            rintro _ Pz yF
            refine sG O (oq O O (bI 28 aj O ay O (fC aC O (yF).get.2 O (dK O (bI 0 aj O aV O (bI 6 aK O ay O (aJ (gG 6 yF ay) ?_)))))))
            rintro _ QI yA
            refine rP (bM O (dK O (bI 28 aj O ay O (fC aC O (yA).get.2 O (aQ (gY O O) (jr O (fun h9 => ?_) (fun h9 => ?_)))))))
            · (try simp only [Z] at h9)
              have yg := lV rG hon hrun h9
              refine aB (jX O O (dK O (bI 0 aj O aV O (bI 7 aK O ay O (aJ (gG 7 yA ay) ?_)))))
              rintro _ w16 vN
              refine dK O (bI 0 aj O aV O (bI 8 aK O ay O (aJ (gG 8 vN ay) ?_)))
              rintro _ Z5 DF
              refine iE (kC O (dI fK O ?_))
              refine ⟨O, ?_⟩
              first
                | exact absurd (hw2.symm.trans hwh) (by decide)
                | exact absurd (hwh.symm.trans hw2) (by decide)
                | (rw [yg]; exact V.jg iZ dL DF.f11.f11.f11.f11.f11.f11.f11.f11.f11.f11.f11)
            · (try simp only [Z] at h9)
              have yg := kV rG hon hrun h9
              refine fV (kC O (dI fK O ?_))
              refine ⟨O, ?_⟩
              first
                | exact absurd (hw2.symm.trans hwh) (by decide)
                | exact absurd (hwh.symm.trans hw2) (by decide)
                | (rw [yg]; exact V.jg iZ dL yA.f11.f11.f11.f11.f11.f11.f11.f11.f11.f11.f11)
        · (try simp only [Z] at h6)
          have hw2 : s.whole = false := by simpa using h6
          have hrun : (s.typed && (!s.put.isEmpty || s.c.run)) = false := by first | exact absurd (hwh.symm.trans hw2) (by decide) | (rw [hty]; rfl)
          refine bn (bn (lH (lH (lH (lH (lH (bn (fG O O (dK O (bI 0 aj O aV O (bI 10 aK O aS O (aJ (gG 10 jo aS) ?_))))))))))))
          rintro _ w18 DZ
          refine sG O (oq O O (bI 28 aj O ay O (fC aC O (DZ).get.2 O (dK O (bI 0 aj O aV O (bI 6 aK O ay O (aJ (gG 6 DZ ay) ?_)))))))
          rintro _ w19 Ef
          refine rP (bM O (dK O (bI 28 aj O ay O (fC aC O (Ef).get.2 O (aQ (gY O O) (jr O (fun h10 => ?_) (fun h10 => ?_)))))))
          · (try simp only [Z] at h10)
            have yg := lV rG hon hrun h10
            refine aB (jX O O (dK O (bI 0 aj O aV O (bI 7 aK O ay O (aJ (gG 7 Ef ay) ?_)))))
            rintro _ w20 E8
            refine dK O (bI 0 aj O aV O (bI 8 aK O ay O (aJ (gG 8 E8 ay) ?_)))
            rintro _ w21 vF
            refine iE (kC O (dI fK O ?_))
            refine ⟨O, ?_⟩
            first
              | exact absurd (hw2.symm.trans hwh) (by decide)
              | exact absurd (hwh.symm.trans hw2) (by decide)
              | (rw [yg]; exact V.jg iZ dL vF.f11.f11.f11.f11.f11.f11.f11.f11.f11.f11.f11)
          · (try simp only [Z] at h10)
            have yg := kV rG hon hrun h10
            refine fV (kC O (dI fK O ?_))
            refine ⟨O, ?_⟩
            first
              | exact absurd (hw2.symm.trans hwh) (by decide)
              | exact absurd (hwh.symm.trans hw2) (by decide)
              | (rw [yg]; exact V.jg iZ dL Ef.f11.f11.f11.f11.f11.f11.f11.f11.f11.f11.f11)
      · (try simp only [Z] at h5)
        have hwh : s.whole = false := by simpa using h5
        have hty : s.typed = false := by unfold bF.typed; rw [hc3, hwh]; rfl
        have hrun : (s.typed && (!s.put.isEmpty || s.c.run)) = false := by rw [hty]; rfl
        refine bn (bn (bn (bn (bn (fG O O ?_)))))
        have hwo := AA (Gg.f11)
        have Q8 := Gg.f11.right
        have HW0 := V.Gz (c := s.was) (u := [wu, wz, wB, wC, wE, wF, wG, wH, wI, wJ, wK]) Q8 hwo
        obtain ⟨s1, rG, HS1⟩ : ∃ s1, s1 = s.jT ∧ V w0 (w6.drew) (eH e s1 • F) := ⟨_, hs1, V.jg (hs1 ▸ yc iZ) dL HW0.f11.f11.f11.f11.f11.f11.f11.f11.f11.f11⟩
        have hr1 : s1.c.run = s.c.run := by rw [rG]; unfold bF.jT; split <;> rfl
        refine dS O func84 (uq HS1) ?_
        rintro _ w23 BK
        obtain ⟨on, hon, HZ⟩ : ∃ on, (s.typed && s.c.run) = on ∧ V w0 w23 (eH e (s1.dQ on) • F) := ⟨_, by rw [hty]; rfl, BK⟩
        refine rP ?_
        obtain ⟨zB, zC, zD, zF, zG, zH, zI, zJ, xM, wu, wz, wB, wC, wE, wF, wG, wH, wI, wJ, wK, iZ, dL, lU, jo⟩ := (HZ).JV
        refine aB (jX O O (jm O (fun h11 => ?_) (fun h11 => ?_)))
        · (try simp only [Z] at h11)
          have hw2 : s.whole = true := h11
          refine aY (bJ O (aY (jm O (fun h12 => ?_) (fun h12 => ?_))))
          · (try simp only [Z] at h12)
            have hrun : (s.typed && (!s.put.isEmpty || s.c.run)) = true := by first | exact absurd (hw2.symm.trans hwh) (by decide) | (rw [sF, decide_eq_false (show ¬ s.put.length = 0 by omega), hty]; rfl)
            refine bn (bn (bn (bn (bn (aY (je O O (je O O (dK O (bI 0 aj O aV O (bI 10 aK O aS O (aJ (gG 10 jo aS) ?_)))))))))))
            rintro _ w25 Sz
            refine sG O (oq O O (bI 28 aj O ay O (fC aC O (Sz).get.2 O (dK O (bI 0 aj O aV O (bI 6 aK O ay O (aJ (gG 6 Sz ay) ?_)))))))
            rintro _ w26 Tf
            refine rP (bM O (dK O (bI 28 aj O ay O (fC aC O (Tf).get.2 O (aQ (gY O O) (jr O (fun h13 => ?_) (fun h13 => ?_)))))))
            · (try simp only [Z] at h13)
              have yg := lV rG hon hrun h13
              refine aB (jX O O (dK O (bI 0 aj O aV O (bI 7 aK O ay O (aJ (gG 7 Tf ay) ?_)))))
              rintro _ w27 KR
              refine dK O (bI 0 aj O aV O (bI 8 aK O ay O (aJ (gG 8 KR ay) ?_)))
              rintro _ w28 H28
              refine iE (kC O (dI fK O ?_))
              refine ⟨O, ?_⟩
              first
                | exact absurd (hw2.symm.trans hwh) (by decide)
                | exact absurd (hwh.symm.trans hw2) (by decide)
                | (rw [yg]; exact V.jg iZ dL H28.f11.f11.f11.f11.f11.f11.f11.f11.f11.f11.f11)
            · (try simp only [Z] at h13)
              have yg := kV rG hon hrun h13
              refine fV (kC O (dI fK O ?_))
              refine ⟨O, ?_⟩
              first
                | exact absurd (hw2.symm.trans hwh) (by decide)
                | exact absurd (hwh.symm.trans hw2) (by decide)
                | (rw [yg]; exact V.jg iZ dL Tf.f11.f11.f11.f11.f11.f11.f11.f11.f11.f11.f11)
          · (try simp only [Z] at h12)
            have hrun : (s.typed && (!s.put.isEmpty || s.c.run)) = (s1.dQ on).c.run := by first | exact absurd (hw2.symm.trans hwh) (by decide) | (rw [sF, decide_eq_true (show s.put.length = 0 by omega), hty, Dt, hr1]; rfl)
            refine aY (bJ O (aY (dK O (aY (bI 0 aj O aV O (aY (bI 10 aK O aS O (aY (fC cZ O (jo).get.2 O (aY (fG O O (je O O (dK O (bI 0 aj O aV O (bI 10 aK O aS O (aJ (gG 10 jo aS) ?_))))))))))))))))
            rintro _ w29 Z7
            refine sG O (oq O O (bI 28 aj O ay O (fC aC O (Z7).get.2 O (dK O (bI 0 aj O aV O (bI 6 aK O ay O (aJ (gG 6 Z7 ay) ?_)))))))
            rintro _ w30 Vm
            refine rP (bM O (dK O (bI 28 aj O ay O (fC aC O (Vm).get.2 O (aQ (gY O O) (jr O (fun h14 => ?_) (fun h14 => ?_)))))))
            · (try simp only [Z] at h14)
              have yg := lV rG hon hrun h14
              refine aB (jX O O (dK O (bI 0 aj O aV O (bI 7 aK O ay O (aJ (gG 7 Vm ay) ?_)))))
              rintro _ w31 Vo
              refine dK O (bI 0 aj O aV O (bI 8 aK O ay O (aJ (gG 8 Vo ay) ?_)))
              rintro _ w32 PE
              refine iE (kC O (dI fK O ?_))
              refine ⟨O, ?_⟩
              first
                | exact absurd (hw2.symm.trans hwh) (by decide)
                | exact absurd (hwh.symm.trans hw2) (by decide)
                | (rw [yg]; exact V.jg iZ dL PE.f11.f11.f11.f11.f11.f11.f11.f11.f11.f11.f11)
            · (try simp only [Z] at h14)
              have yg := kV rG hon hrun h14
              refine fV (kC O (dI fK O ?_))
              refine ⟨O, ?_⟩
              first
                | exact absurd (hw2.symm.trans hwh) (by decide)
                | exact absurd (hwh.symm.trans hw2) (by decide)
                | (rw [yg]; exact V.jg iZ dL Vm.f11.f11.f11.f11.f11.f11.f11.f11.f11.f11.f11)
        · (try simp only [Z] at h11)
          have hw2 : s.whole = false := by simpa using h11
          have hrun : (s.typed && (!s.put.isEmpty || s.c.run)) = false := by first | exact absurd (hwh.symm.trans hw2) (by decide) | (rw [hty]; rfl)
          refine bn (bn (lH (lH (lH (lH (lH (bn (fG O O (dK O (bI 0 aj O aV O (bI 10 aK O aS O (aJ (gG 10 jo aS) ?_))))))))))))
          rintro _ w33 Vp
          refine sG O (oq O O (bI 28 aj O ay O (fC aC O (Vp).get.2 O (dK O (bI 0 aj O aV O (bI 6 aK O ay O (aJ (gG 6 Vp ay) ?_)))))))
          rintro _ w34 X6
          refine rP (bM O (dK O (bI 28 aj O ay O (fC aC O (X6).get.2 O (aQ (gY O O) (jr O (fun h15 => ?_) (fun h15 => ?_)))))))
          · (try simp only [Z] at h15)
            have yg := lV rG hon hrun h15
            refine aB (jX O O (dK O (bI 0 aj O aV O (bI 7 aK O ay O (aJ (gG 7 X6 ay) ?_)))))
            rintro _ w35 H35
            refine dK O (bI 0 aj O aV O (bI 8 aK O ay O (aJ (gG 8 H35 ay) ?_)))
            rintro _ w36 H36
            refine iE (kC O (dI fK O ?_))
            refine ⟨O, ?_⟩
            first
              | exact absurd (hw2.symm.trans hwh) (by decide)
              | exact absurd (hwh.symm.trans hw2) (by decide)
              | (rw [yg]; exact V.jg iZ dL H36.f11.f11.f11.f11.f11.f11.f11.f11.f11.f11.f11)
          · (try simp only [Z] at h15)
            have yg := kV rG hon hrun h15
            refine fV (kC O (dI fK O ?_))
            refine ⟨O, ?_⟩
            first
              | exact absurd (hw2.symm.trans hwh) (by decide)
              | exact absurd (hwh.symm.trans hw2) (by decide)
              | (rw [yg]; exact V.jg iZ dL X6.f11.f11.f11.f11.f11.f11.f11.f11.f11.f11.f11)
    · (try simp only [Z] at h4)
      have hty : s.typed = false := by unfold bF.typed; rw [beq_false_of_ne h4]; rfl
      have hrun : (s.typed && (!s.put.isEmpty || s.c.run)) = false := by rw [hty]; rfl
      refine lC 6 O O O O (by kernel_rfl) (by kernel_rfl) kR (lN O) ?_
      refine lC 7 O O O O (by kernel_rfl) (by kernel_rfl) kR (lN O) ?_
      refine lC 8 O O O O (by kernel_rfl) (by kernel_rfl) kR (lN O) ?_
      refine lC 9 O O O O (by kernel_rfl) (by kernel_rfl) kR (lN O) ?_
      refine iI 10 O kR (fun _ => Ac O O) (gX 11 O kR O (jE 12 O kR O (gy 13 O kR 33 aj O bU O (jf 14 O kR (fun W hW => jv aW O ((Kp.h hW)).get.2 O) (iI 15 O kR (fun _ => kX ((Gg.f9).aP) aW O) (iI 16 O kR (fun _ => eX O O) (iI 17 O kR (fun _ => dB O) (iI 18 O kR (fun _ => dB O) (pq (aX (bM O (jX O O (bn (bn (bn (bn (bn (fG O O ?_))))))))))))))))))
      have hwo := AA (Gg.f11)
      have aff := Gg.f11.right
      have HW0 := V.Gz (c := s.was) (u := [wu, wz, wB, wC, wE, wF, wG, wH, wI, wJ, wK]) aff hwo
      obtain ⟨s1, rG, HS1⟩ : ∃ s1, s1 = s.jT ∧ V w0 (w6.drew) (eH e s1 • F) := ⟨_, hs1, V.jg (hs1 ▸ yc iZ) dL HW0.f11.f11.f11.f11.f11.f11.f11.f11.f11.f11⟩
      have hr1 : s1.c.run = s.c.run := by rw [rG]; unfold bF.jT; split <;> rfl
      refine dS O func84 (uq HS1) ?_
      rintro _ w38 Wu
      obtain ⟨on, hon, HZ⟩ : ∃ on, (s.typed && s.c.run) = on ∧ V w0 w38 (eH e (s1.dQ on) • F) := ⟨_, by rw [hty]; rfl, Wu⟩
      refine rP ?_
      obtain ⟨zB, zC, zD, zF, zG, zH, zI, zJ, xM, wu, wz, wB, wC, wE, wF, wG, wH, wI, wJ, wK, iZ, dL, lU, jo⟩ := (HZ).JV
      refine aB (jX O O (bJ O (bn (bn (lH (lH (lH (lH (lH (bn (fG O O (dK O (bI 0 aj O aV O (bI 10 aK O aS O (aJ (gG 10 jo aS) ?_)))))))))))))))
      rintro _ w40 H40
      refine sG O (oq O O (bI 28 aj O ay O (fC aC O (H40).get.2 O (dK O (bI 0 aj O aV O (bI 6 aK O ay O (aJ (gG 6 H40 ay) ?_)))))))
      rintro _ w41 H41
      refine rP (bM O (dK O (bI 28 aj O ay O (fC aC O (H41).get.2 O (aQ (gY O O) (jr O (fun h16 => ?_) (fun h16 => ?_)))))))
      · (try simp only [Z] at h16)
        have yg := lV rG hon hrun h16
        refine aB (jX O O (dK O (bI 0 aj O aV O (bI 7 aK O ay O (aJ (gG 7 H41 ay) ?_)))))
        rintro _ w42 H42
        refine dK O (bI 0 aj O aV O (bI 8 aK O ay O (aJ (gG 8 H42 ay) ?_)))
        rintro _ w43 H43
        refine iE (kC O (dI fK O ?_))
        refine ⟨O, ?_⟩
        first
          | exact absurd (hw2.symm.trans hwh) (by decide)
          | exact absurd (hwh.symm.trans hw2) (by decide)
          | (rw [yg]; exact V.jg iZ dL H43.f11.f11.f11.f11.f11.f11.f11.f11.f11.f11.f11)
      · (try simp only [Z] at h16)
        have yg := kV rG hon hrun h16
        refine fV (kC O (dI fK O ?_))
        refine ⟨O, ?_⟩
        first
          | exact absurd (hw2.symm.trans hwh) (by decide)
          | exact absurd (hwh.symm.trans hw2) (by decide)
          | (rw [yg]; exact V.jg iZ dL H41.f11.f11.f11.f11.f11.f11.f11.f11.f11.f11.f11)
  · (try simp only [Z] at h2)
    have har : s.argues = true := by simpa using h2
    have hs1 : ({ s with inn := false } : bF) = s.jT := by unfold bF.jT; rw [if_pos har]
    refine aY (bJ O (aY (aQ (gY O O) (fG O O (iE (Oh O (fun h17 => ?_)))))))
    (try simp only [Z] at h17)
    refine fV (aI (bM O (aQ (gY O O) (iE (Oh O (fun h18 => ?_))))))
    (try simp only [Z] at h18)
    refine fV (aI ?_)
    have BU := H3.drew
    have jG := V.kp (BU.f11.f11.f11.f11.f11.f11.f11.f11.f11.f11.f11)
    refine uN [3, 9, 14] jG O (gX 0 O jG O (jE 1 O jG O (gy 2 O jG 28 aj O ay O (jf 3 O jG (fun W hW => jv aC O ((Kp.h hW)).get.2 O) (iI 4 O jG (fun _ => eF O O) ?_)))))
    refine Hg 5 O O (by kernel_rfl) (by kernel_rfl) jG (lN O) (fun h19 => ?_) (fun h19 => ?_)
    · (try simp only [Z] at h19)
      have hc3 : s.cls = 3 := h19
      refine lg 6 O O O (by kernel_rfl) (by kernel_rfl) jG (fun _ => Gp O) (lN O) ?_
      refine lg 7 O O O (by kernel_rfl) (by kernel_rfl) jG (fun _ => SG O) (lN O) ?_
      refine lg 8 O O O (by kernel_rfl) (by kernel_rfl) jG (fun _ => G9 32 aj O O aS (by decide) O rfl) (lN O) ?_
      refine D8 9 O O O (by kernel_rfl) (by kernel_rfl) jG (by decide) (fun W hW => fF (dA cZ O) O (kS ((Kp.h hW)).get.2 O)) (lN O) ?_
      refine iI 10 O jG (fun _ => G6 O O) (gX 11 O jG O (jE 12 O jG O (gy 13 O jG 33 aj O bU O (jf 14 O jG (fun W hW => jv aW O ((Kp.h hW)).get.2 O) (iI 15 O jG (fun _ => kX ((BU.f9).aP) aW O) (iI 16 O jG (fun _ => eX O O) (iI 17 O jG (fun _ => dB O) (iI 18 O jG (fun _ => dB O) (pq (aX (bM O (bJ O (jm O (fun h20 => ?_) (fun h20 => ?_))))))))))))))
      · (try simp only [Z] at h20)
        have hwh : s.whole = true := h20
        have hty : s.typed = true := by unfold bF.typed; rw [hc3, hwh]; rfl
        refine aY (bJ O (aY (dK O (aY (bI 0 aj O aV O (aY (bI 10 aK O aS O (aY (fC cZ O (BU).get.2 O (je O O ?_))))))))))
        have hwo := AA (BU.f11)
        have aiR := BU.f11.right
        have HW0 := V.Gz (c := s.was) (u := [wu, wz, wB, wC, wE, wF, wG, wH, wI, wJ, wK]) aiR hwo
        obtain ⟨s1, rG, HS1⟩ : ∃ s1, s1 = s.jT ∧ V w0 (w3.drew) (eH e s1 • F) := ⟨_, hs1, V.jg (hs1 ▸ yc iZ) dL HW0.f11.f11.f11.f11.f11.f11.f11.f11.f11.f11⟩
        have hr1 : s1.c.run = s.c.run := by rw [rG]; unfold bF.jT; split <;> rfl
        refine dS O func84 (uq HS1) ?_
        rintro _ w45 Vq
        obtain ⟨on, hon, HZ⟩ : ∃ on, (s.typed && s.c.run) = on ∧ V w0 w45 (eH e (s1.dQ on) • F) := ⟨_, by rw [hty]; rfl, Vq⟩
        refine rP ?_
        obtain ⟨zB, zC, zD, zF, zG, zH, zI, zJ, xM, wu, wz, wB, wC, wE, wF, wG, wH, wI, wJ, wK, iZ, dL, lU, jo⟩ := (HZ).JV
        refine aB (jX O O (jm O (fun h21 => ?_) (fun h21 => ?_)))
        · (try simp only [Z] at h21)
          have hw2 : s.whole = true := h21
          refine aY (bJ O (aY (jm O (fun h22 => ?_) (fun h22 => ?_))))
          · (try simp only [Z] at h22)
            have hrun : (s.typed && (!s.put.isEmpty || s.c.run)) = true := by first | exact absurd (hw2.symm.trans hwh) (by decide) | (rw [sF, decide_eq_false (show ¬ s.put.length = 0 by omega), hty]; rfl)
            refine bn (bn (bn (bn (bn (aY (je O O (je O O (dK O (bI 0 aj O aV O (bI 10 aK O aS O (aJ (gG 10 jo aS) ?_)))))))))))
            rintro _ w47 H47
            refine sG O (oq O O (bI 28 aj O ay O (fC aC O (H47).get.2 O (dK O (bI 0 aj O aV O (bI 6 aK O ay O (aJ (gG 6 H47 ay) ?_)))))))
            rintro _ w48 H48
            refine rP (bM O (dK O (bI 28 aj O ay O (fC aC O (H48).get.2 O (aQ (gY O O) (jr O (fun h23 => ?_) (fun h23 => ?_)))))))
            · (try simp only [Z] at h23)
              have yg := lV rG hon hrun h23
              refine aB (jX O O (dK O (bI 0 aj O aV O (bI 7 aK O ay O (aJ (gG 7 H48 ay) ?_)))))
              rintro _ w49 H49
              refine dK O (bI 0 aj O aV O (bI 8 aK O ay O (aJ (gG 8 H49 ay) ?_)))
              rintro _ w50 H50
              refine iE (kC O (dI fK O ?_))
              refine ⟨O, ?_⟩
              first
                | exact absurd (hw2.symm.trans hwh) (by decide)
                | exact absurd (hwh.symm.trans hw2) (by decide)
                | (rw [yg]; exact V.jg iZ dL H50.f11.f11.f11.f11.f11.f11.f11.f11.f11.f11.f11)
            · (try simp only [Z] at h23)
              have yg := kV rG hon hrun h23
              refine fV (kC O (dI fK O ?_))
              refine ⟨O, ?_⟩
              first
                | exact absurd (hw2.symm.trans hwh) (by decide)
                | exact absurd (hwh.symm.trans hw2) (by decide)
                | (rw [yg]; exact V.jg iZ dL H48.f11.f11.f11.f11.f11.f11.f11.f11.f11.f11.f11)
          · (try simp only [Z] at h22)
            have hrun : (s.typed && (!s.put.isEmpty || s.c.run)) = (s1.dQ on).c.run := by first | exact absurd (hw2.symm.trans hwh) (by decide) | (rw [sF, decide_eq_true (show s.put.length = 0 by omega), hty, Dt, hr1]; rfl)
            refine aY (bJ O (aY (dK O (aY (bI 0 aj O aV O (aY (bI 10 aK O aS O (aY (fC cZ O (jo).get.2 O (aY (fG O O (je O O (dK O (bI 0 aj O aV O (bI 10 aK O aS O (aJ (gG 10 jo aS) ?_))))))))))))))))
            rintro _ w51 H51
            refine sG O (oq O O (bI 28 aj O ay O (fC aC O (H51).get.2 O (dK O (bI 0 aj O aV O (bI 6 aK O ay O (aJ (gG 6 H51 ay) ?_)))))))
            rintro _ w52 H52
            refine rP (bM O (dK O (bI 28 aj O ay O (fC aC O (H52).get.2 O (aQ (gY O O) (jr O (fun h24 => ?_) (fun h24 => ?_)))))))
            · (try simp only [Z] at h24)
              have yg := lV rG hon hrun h24
              refine aB (jX O O (dK O (bI 0 aj O aV O (bI 7 aK O ay O (aJ (gG 7 H52 ay) ?_)))))
              rintro _ w53 H53
              refine dK O (bI 0 aj O aV O (bI 8 aK O ay O (aJ (gG 8 H53 ay) ?_)))
              rintro _ w54 H54
              refine iE (kC O (dI fK O ?_))
              refine ⟨O, ?_⟩
              first
                | exact absurd (hw2.symm.trans hwh) (by decide)
                | exact absurd (hwh.symm.trans hw2) (by decide)
                | (rw [yg]; exact V.jg iZ dL H54.f11.f11.f11.f11.f11.f11.f11.f11.f11.f11.f11)
            · (try simp only [Z] at h24)
              have yg := kV rG hon hrun h24
              refine fV (kC O (dI fK O ?_))
              refine ⟨O, ?_⟩
              first
                | exact absurd (hw2.symm.trans hwh) (by decide)
                | exact absurd (hwh.symm.trans hw2) (by decide)
                | (rw [yg]; exact V.jg iZ dL H52.f11.f11.f11.f11.f11.f11.f11.f11.f11.f11.f11)
        · (try simp only [Z] at h21)
          have hw2 : s.whole = false := by simpa using h21
          have hrun : (s.typed && (!s.put.isEmpty || s.c.run)) = false := by first | exact absurd (hwh.symm.trans hw2) (by decide) | (rw [hty]; rfl)
          refine bn (bn (lH (lH (lH (lH (lH (bn (fG O O (dK O (bI 0 aj O aV O (bI 10 aK O aS O (aJ (gG 10 jo aS) ?_))))))))))))
          rintro _ w55 H55
          refine sG O (oq O O (bI 28 aj O ay O (fC aC O (H55).get.2 O (dK O (bI 0 aj O aV O (bI 6 aK O ay O (aJ (gG 6 H55 ay) ?_)))))))
          rintro _ w56 H56
          refine rP (bM O (dK O (bI 28 aj O ay O (fC aC O (H56).get.2 O (aQ (gY O O) (jr O (fun h25 => ?_) (fun h25 => ?_)))))))
          · (try simp only [Z] at h25)
            have yg := lV rG hon hrun h25
            refine aB (jX O O (dK O (bI 0 aj O aV O (bI 7 aK O ay O (aJ (gG 7 H56 ay) ?_)))))
            rintro _ w57 H57
            refine dK O (bI 0 aj O aV O (bI 8 aK O ay O (aJ (gG 8 H57 ay) ?_)))
            rintro _ w58 H58
            refine iE (kC O (dI fK O ?_))
            refine ⟨O, ?_⟩
            first
              | exact absurd (hw2.symm.trans hwh) (by decide)
              | exact absurd (hwh.symm.trans hw2) (by decide)
              | (rw [yg]; exact V.jg iZ dL H58.f11.f11.f11.f11.f11.f11.f11.f11.f11.f11.f11)
          · (try simp only [Z] at h25)
            have yg := kV rG hon hrun h25
            refine fV (kC O (dI fK O ?_))
            refine ⟨O, ?_⟩
            first
              | exact absurd (hw2.symm.trans hwh) (by decide)
              | exact absurd (hwh.symm.trans hw2) (by decide)
              | (rw [yg]; exact V.jg iZ dL H56.f11.f11.f11.f11.f11.f11.f11.f11.f11.f11.f11)
      · (try simp only [Z] at h20)
        have hwh : s.whole = false := by simpa using h20
        have hty : s.typed = false := by unfold bF.typed; rw [hc3, hwh]; rfl
        have hrun : (s.typed && (!s.put.isEmpty || s.c.run)) = false := by rw [hty]; rfl
        refine bn (bn (bn (bn (bn (fG O O ?_)))))
        have hwo := AA (BU.f11)
        have aiS := BU.f11.right
        have HW0 := V.Gz (c := s.was) (u := [wu, wz, wB, wC, wE, wF, wG, wH, wI, wJ, wK]) aiS hwo
        obtain ⟨s1, rG, HS1⟩ : ∃ s1, s1 = s.jT ∧ V w0 (w3.drew) (eH e s1 • F) := ⟨_, hs1, V.jg (hs1 ▸ yc iZ) dL HW0.f11.f11.f11.f11.f11.f11.f11.f11.f11.f11⟩
        have hr1 : s1.c.run = s.c.run := by rw [rG]; unfold bF.jT; split <;> rfl
        refine dS O func84 (uq HS1) ?_
        rintro _ w60 H60
        obtain ⟨on, hon, HZ⟩ : ∃ on, (s.typed && s.c.run) = on ∧ V w0 w60 (eH e (s1.dQ on) • F) := ⟨_, by rw [hty]; rfl, H60⟩
        refine rP ?_
        obtain ⟨zB, zC, zD, zF, zG, zH, zI, zJ, xM, wu, wz, wB, wC, wE, wF, wG, wH, wI, wJ, wK, iZ, dL, lU, jo⟩ := (HZ).JV
        refine aB (jX O O (jm O (fun h26 => ?_) (fun h26 => ?_)))
        · (try simp only [Z] at h26)
          have hw2 : s.whole = true := h26
          refine aY (bJ O (aY (jm O (fun h27 => ?_) (fun h27 => ?_))))
          · (try simp only [Z] at h27)
            have hrun : (s.typed && (!s.put.isEmpty || s.c.run)) = true := by first | exact absurd (hw2.symm.trans hwh) (by decide) | (rw [sF, decide_eq_false (show ¬ s.put.length = 0 by omega), hty]; rfl)
            refine bn (bn (bn (bn (bn (aY (je O O (je O O (dK O (bI 0 aj O aV O (bI 10 aK O aS O (aJ (gG 10 jo aS) ?_)))))))))))
            rintro _ w62 H62
            refine sG O (oq O O (bI 28 aj O ay O (fC aC O (H62).get.2 O (dK O (bI 0 aj O aV O (bI 6 aK O ay O (aJ (gG 6 H62 ay) ?_)))))))
            rintro _ w63 H63
            refine rP (bM O (dK O (bI 28 aj O ay O (fC aC O (H63).get.2 O (aQ (gY O O) (jr O (fun h28 => ?_) (fun h28 => ?_)))))))
            · (try simp only [Z] at h28)
              have yg := lV rG hon hrun h28
              refine aB (jX O O (dK O (bI 0 aj O aV O (bI 7 aK O ay O (aJ (gG 7 H63 ay) ?_)))))
              rintro _ w64 H64
              refine dK O (bI 0 aj O aV O (bI 8 aK O ay O (aJ (gG 8 H64 ay) ?_)))
              rintro _ w65 H65
              refine iE (kC O (dI fK O ?_))
              refine ⟨O, ?_⟩
              first
                | exact absurd (hw2.symm.trans hwh) (by decide)
                | exact absurd (hwh.symm.trans hw2) (by decide)
                | (rw [yg]; exact V.jg iZ dL H65.f11.f11.f11.f11.f11.f11.f11.f11.f11.f11.f11)
            · (try simp only [Z] at h28)
              have yg := kV rG hon hrun h28
              refine fV (kC O (dI fK O ?_))
              refine ⟨O, ?_⟩
              first
                | exact absurd (hw2.symm.trans hwh) (by decide)
                | exact absurd (hwh.symm.trans hw2) (by decide)
                | (rw [yg]; exact V.jg iZ dL H63.f11.f11.f11.f11.f11.f11.f11.f11.f11.f11.f11)
          · (try simp only [Z] at h27)
            have hrun : (s.typed && (!s.put.isEmpty || s.c.run)) = (s1.dQ on).c.run := by first | exact absurd (hw2.symm.trans hwh) (by decide) | (rw [sF, decide_eq_true (show s.put.length = 0 by omega), hty, Dt, hr1]; rfl)
            refine aY (bJ O (aY (dK O (aY (bI 0 aj O aV O (aY (bI 10 aK O aS O (aY (fC cZ O (jo).get.2 O (aY (fG O O (je O O (dK O (bI 0 aj O aV O (bI 10 aK O aS O (aJ (gG 10 jo aS) ?_))))))))))))))))
            rintro _ w66 H66
            refine sG O (oq O O (bI 28 aj O ay O (fC aC O (H66).get.2 O (dK O (bI 0 aj O aV O (bI 6 aK O ay O (aJ (gG 6 H66 ay) ?_)))))))
            rintro _ w67 H67
            refine rP (bM O (dK O (bI 28 aj O ay O (fC aC O (H67).get.2 O (aQ (gY O O) (jr O (fun h29 => ?_) (fun h29 => ?_)))))))
            · (try simp only [Z] at h29)
              have yg := lV rG hon hrun h29
              refine aB (jX O O (dK O (bI 0 aj O aV O (bI 7 aK O ay O (aJ (gG 7 H67 ay) ?_)))))
              rintro _ w68 H68
              refine dK O (bI 0 aj O aV O (bI 8 aK O ay O (aJ (gG 8 H68 ay) ?_)))
              rintro _ w69 H69
              refine iE (kC O (dI fK O ?_))
              refine ⟨O, ?_⟩
              first
                | exact absurd (hw2.symm.trans hwh) (by decide)
                | exact absurd (hwh.symm.trans hw2) (by decide)
                | (rw [yg]; exact V.jg iZ dL H69.f11.f11.f11.f11.f11.f11.f11.f11.f11.f11.f11)
            · (try simp only [Z] at h29)
              have yg := kV rG hon hrun h29
              refine fV (kC O (dI fK O ?_))
              refine ⟨O, ?_⟩
              first
                | exact absurd (hw2.symm.trans hwh) (by decide)
                | exact absurd (hwh.symm.trans hw2) (by decide)
                | (rw [yg]; exact V.jg iZ dL H67.f11.f11.f11.f11.f11.f11.f11.f11.f11.f11.f11)
        · (try simp only [Z] at h26)
          have hw2 : s.whole = false := by simpa using h26
          have hrun : (s.typed && (!s.put.isEmpty || s.c.run)) = false := by first | exact absurd (hwh.symm.trans hw2) (by decide) | (rw [hty]; rfl)
          refine bn (bn (lH (lH (lH (lH (lH (bn (fG O O (dK O (bI 0 aj O aV O (bI 10 aK O aS O (aJ (gG 10 jo aS) ?_))))))))))))
          rintro _ w70 H70
          refine sG O (oq O O (bI 28 aj O ay O (fC aC O (H70).get.2 O (dK O (bI 0 aj O aV O (bI 6 aK O ay O (aJ (gG 6 H70 ay) ?_)))))))
          rintro _ w71 H71
          refine rP (bM O (dK O (bI 28 aj O ay O (fC aC O (H71).get.2 O (aQ (gY O O) (jr O (fun h30 => ?_) (fun h30 => ?_)))))))
          · (try simp only [Z] at h30)
            have yg := lV rG hon hrun h30
            refine aB (jX O O (dK O (bI 0 aj O aV O (bI 7 aK O ay O (aJ (gG 7 H71 ay) ?_)))))
            rintro _ w72 H72
            refine dK O (bI 0 aj O aV O (bI 8 aK O ay O (aJ (gG 8 H72 ay) ?_)))
            rintro _ w73 H73
            refine iE (kC O (dI fK O ?_))
            refine ⟨O, ?_⟩
            first
              | exact absurd (hw2.symm.trans hwh) (by decide)
              | exact absurd (hwh.symm.trans hw2) (by decide)
              | (rw [yg]; exact V.jg iZ dL H73.f11.f11.f11.f11.f11.f11.f11.f11.f11.f11.f11)
          · (try simp only [Z] at h30)
            have yg := kV rG hon hrun h30
            refine fV (kC O (dI fK O ?_))
            refine ⟨O, ?_⟩
            first
              | exact absurd (hw2.symm.trans hwh) (by decide)
              | exact absurd (hwh.symm.trans hw2) (by decide)
              | (rw [yg]; exact V.jg iZ dL H71.f11.f11.f11.f11.f11.f11.f11.f11.f11.f11.f11)
    · (try simp only [Z] at h19)
      have hty : s.typed = false := by unfold bF.typed; rw [beq_false_of_ne h19]; rfl
      have hrun : (s.typed && (!s.put.isEmpty || s.c.run)) = false := by rw [hty]; rfl
      refine lC 6 O O O O (by kernel_rfl) (by kernel_rfl) jG (lN O) ?_
      refine lC 7 O O O O (by kernel_rfl) (by kernel_rfl) jG (lN O) ?_
      refine lC 8 O O O O (by kernel_rfl) (by kernel_rfl) jG (lN O) ?_
      refine lC 9 O O O O (by kernel_rfl) (by kernel_rfl) jG (lN O) ?_
      refine iI 10 O jG (fun _ => Ac O O) (gX 11 O jG O (jE 12 O jG O (gy 13 O jG 33 aj O bU O (jf 14 O jG (fun W hW => jv aW O ((Kp.h hW)).get.2 O) (iI 15 O jG (fun _ => kX ((BU.f9).aP) aW O) (iI 16 O jG (fun _ => eX O O) (iI 17 O jG (fun _ => dB O) (iI 18 O jG (fun _ => dB O) (pq (aX (bM O (jX O O (bn (bn (bn (bn (bn (fG O O ?_))))))))))))))))))
      have hwo := AA (BU.f11)
      have aiT := BU.f11.right
      have HW0 := V.Gz (c := s.was) (u := [wu, wz, wB, wC, wE, wF, wG, wH, wI, wJ, wK]) aiT hwo
      obtain ⟨s1, rG, HS1⟩ : ∃ s1, s1 = s.jT ∧ V w0 (w3.drew) (eH e s1 • F) := ⟨_, hs1, V.jg (hs1 ▸ yc iZ) dL HW0.f11.f11.f11.f11.f11.f11.f11.f11.f11.f11⟩
      have hr1 : s1.c.run = s.c.run := by rw [rG]; unfold bF.jT; split <;> rfl
      refine dS O func84 (uq HS1) ?_
      rintro _ w75 H75
      obtain ⟨on, hon, HZ⟩ : ∃ on, (s.typed && s.c.run) = on ∧ V w0 w75 (eH e (s1.dQ on) • F) := ⟨_, by rw [hty]; rfl, H75⟩
      refine rP ?_
      obtain ⟨zB, zC, zD, zF, zG, zH, zI, zJ, xM, wu, wz, wB, wC, wE, wF, wG, wH, wI, wJ, wK, iZ, dL, lU, jo⟩ := (HZ).JV
      refine aB (jX O O (bJ O (bn (bn (lH (lH (lH (lH (lH (bn (fG O O (dK O (bI 0 aj O aV O (bI 10 aK O aS O (aJ (gG 10 jo aS) ?_)))))))))))))))
      rintro _ w77 H77
      refine sG O (oq O O (bI 28 aj O ay O (fC aC O (H77).get.2 O (dK O (bI 0 aj O aV O (bI 6 aK O ay O (aJ (gG 6 H77 ay) ?_)))))))
      rintro _ w78 H78
      refine rP (bM O (dK O (bI 28 aj O ay O (fC aC O (H78).get.2 O (aQ (gY O O) (jr O (fun h31 => ?_) (fun h31 => ?_)))))))
      · (try simp only [Z] at h31)
        have yg := lV rG hon hrun h31
        refine aB (jX O O (dK O (bI 0 aj O aV O (bI 7 aK O ay O (aJ (gG 7 H78 ay) ?_)))))
        rintro _ w79 H79
        refine dK O (bI 0 aj O aV O (bI 8 aK O ay O (aJ (gG 8 H79 ay) ?_)))
        rintro _ w80 H80
        refine iE (kC O (dI fK O ?_))
        refine ⟨O, ?_⟩
        first
          | exact absurd (hw2.symm.trans hwh) (by decide)
          | exact absurd (hwh.symm.trans hw2) (by decide)
          | (rw [yg]; exact V.jg iZ dL H80.f11.f11.f11.f11.f11.f11.f11.f11.f11.f11.f11)
      · (try simp only [Z] at h31)
        have yg := kV rG hon hrun h31
        refine fV (kC O (dI fK O ?_))
        refine ⟨O, ?_⟩
        first
          | exact absurd (hw2.symm.trans hwh) (by decide)
          | exact absurd (hwh.symm.trans hw2) (by decide)
          | (rw [yg]; exact V.jg iZ dL H78.f11.f11.f11.f11.f11.f11.f11.f11.f11.f11.f11)
theorem Fp {s : bF} {x : Int} (hin : s.inn = true) (hx : x ≠ 0) : s.lD x = s.Au ∧ s.Cj x = x := by
  unfold bF.lD bF.Cj
  rw [if_pos hin, if_neg hx, if_pos hin]; exact ⟨rfl, rfl⟩
theorem WB {s : bF} (h : nT s) (hin : s.inn = true) : nT s.Au := by
  obtain ⟨h1, h2, h3⟩ := h.2.1 hin
  exact ⟨h1, fun h => Bool.noConfusion h, ⟨by show (-1 : Int) ≤ -1; decide, by show (-1 : Int) ≤ 1000000; decide⟩, by simp [bF.Au], h2, h3⟩
theorem WE (hin : s.inn = true) (hx : x ≠ 0) (H : V w0 w (eH e s • F)) : iQ prog 31 #[.pointer (some ⟨e, 0, none⟩), .int .i64 x] w fun v w' => v = .int .i64 x ∧ V w0 w' (eH e s.Au • F) := by
 have hpe : s.yJ = 0 := by unfold bF.yJ; rw [if_pos hin]
 refine qc func31 ntmps31 ?_
 refine ku O (aI (bM O (dS O func81 (ru H) ?_)))
 rintro _ _ ⟨rfl, rfl⟩
 refine dZ O (bM O (aQ (gY O O) (jr O (fun h => by exfalso; (try simp only [Z] at h); exact h hpe) (fun h1 => ?_))))
 (try simp only [Z] at h1)
 refine fV (aI ?_)
 obtain ⟨zB, zC, zD, zF, zG, zH, zI, zJ, xM, wu, wz, wB, wC, wE, wF, wG, wH, wI, wJ, wK, iZ, dL, lU, jo⟩ := (H).JV
 have HI := jo
 rw [hin] at HI
 obtain ⟨qb, qr, qw, qt, qm, hu, HW⟩ := (HI.f11).was
 simp only [TU, List.cons.injEq, and_true] at hu
 obtain ⟨rfl, rfl, rfl, rfl, rfl, rfl, rfl, rfl, rfl, rfl, rfl⟩ := hu
 refine aB (oq O O (bI 16 aj O aS O (aJ (gG 16 HW.f6 aS) ?_)))
 rintro _ w3 H3
 refine rP (bM O (dK O (bI 31 aj O aS O (fC cZ O (H3).get.2 O (aQ (kG O) (jm O (fun h2 => ?_) (fun h2 => ?_)))))))
 ·(try simp only [Z] at h2)
  refine bn (bn (je O O (iE (C9 (aB (jX O O (oq O O (bI 13 aj O aS O (aJ (gG 13 H3 aS) ?_)))))))))
  rintro _ w4 H4
  refine dK O (bI 14 aj O aS O (aJ (gG 14 H4 aS) ?_))
  rintro _ w5 H5
  refine dK O (bI 15 aj O ay O (aJ (gG 15 H5 ay) ?_))
  rintro _ w6 H6
  refine rP (bM O (aQ (gY O O) (jr O (fun h3 => ?_) (fun h => by exfalso; (try simp only [Z] at h); exact hx h))))
  (try simp only [Z] at h3)
  refine bM O (oq O O (bI 17 aj O aV O (aQ (pY 17 (xs := [_, _, _, _, _, _, _, _, _, _, _]) aK O aV O O (H6).get.2 O) (dK O (bI 0 aj O aV O (aJ (dG 0 (l' := [_, _, _, _, _, _, _, _, _, _, _, _, _, _, _, _, _, _, _, _, _, _, _, _, _, _, _, _, _, _, _, _, _, _]) (us := [_, _, _, _, _, _, _, _, _, _, _]) H6 aV O O O (aG (aG (aG (aG (aG (aG (aG (aG (aG (aG (aG bW))))))))))) O O) ?_))))))
  rintro _ w7 H7
  refine sG O (dK O (bI 12 aj O sizeOf79 O (fC underlying79 O (H7).get.2 O (dS O func83 (Ii H7.f13) ?_))))
  rintro _ w8 ⟨rfl, H8⟩
  refine sG O (jX O O (oq O O (bI 0 aj O aV O (bI 6 aK O ay O (aJ (gG 6 H8.f2 ay) ?_)))))
  rintro _ w9 H9
  refine dK O (bI 0 aj O aV O (bI 7 aK O ay O (aJ (gG 7 H9 ay) ?_)))
  rintro _ w10 pz
  refine dK O (bI 0 aj O aV O (bI 8 aK O ay O (aJ (gG 8 pz ay) ?_)))
  rintro _ FM rY
  refine dK O (bI 33 aj O bU O (aJ (gG 33 rY bU) ?_))
  rintro _ w12 vM
  refine sG O (fA O (aA (dI fK O ?_)))
  exact ⟨O, V.Wv (s := s.Au) (WB iZ hin) O O vM.f8.right.f8.right.f8.right.f8.right.f8.right.f9.right.f9.right.f2.f8.f8.f8.f8.f8.f8.f8⟩
 ·(try simp only [Z] at h2)
  refine aY (bJ O (aY (aQ (gY O O) (fG O O (jr O (fun h4 => ?_) (fun h => by exfalso; (try simp only [Z] at h); exact hx h))))))
  (try simp only [Z] at h4)
  refine aB (jX O O (oq O O (bI 13 aj O aS O (aJ (gG 13 H3 aS) ?_))))
  rintro _ PD xI
  refine dK O (bI 14 aj O aS O (aJ (gG 14 xI aS) ?_))
  rintro _ Pz yF
  refine dK O (bI 15 aj O ay O (aJ (gG 15 yF ay) ?_))
  rintro _ QI yA
  refine rP (bM O (aQ (gY O O) (jr O (fun h5 => ?_) (fun h => by exfalso; (try simp only [Z] at h); exact hx h))))
  (try simp only [Z] at h5)
  refine bM O (oq O O (bI 17 aj O aV O (aQ (pY 17 (xs := [_, _, _, _, _, _, _, _, _, _, _]) aK O aV O O (yA).get.2 O) (dK O (bI 0 aj O aV O (aJ (dG 0 (l' := [_, _, _, _, _, _, _, _, _, _, _, _, _, _, _, _, _, _, _, _, _, _, _, _, _, _, _, _, _, _, _, _, _, _]) (us := [_, _, _, _, _, _, _, _, _, _, _]) yA aV O O O (aG (aG (aG (aG (aG (aG (aG (aG (aG (aG (aG bW))))))))))) O O) ?_))))))
  rintro _ w16 vN
  refine sG O (dK O (bI 12 aj O sizeOf79 O (fC underlying79 O (vN).get.2 O (dS O func83 (Ii vN.f13) ?_))))
  rintro _ Z5 ⟨rfl, DF⟩
  refine sG O (jX O O (oq O O (bI 0 aj O aV O (bI 6 aK O ay O (aJ (gG 6 DF.f2 ay) ?_)))))
  rintro _ w18 DZ
  refine dK O (bI 0 aj O aV O (bI 7 aK O ay O (aJ (gG 7 DZ ay) ?_)))
  rintro _ w19 Ef
  refine dK O (bI 0 aj O aV O (bI 8 aK O ay O (aJ (gG 8 Ef ay) ?_)))
  rintro _ w20 E8
  refine dK O (bI 33 aj O bU O (aJ (gG 33 E8 bU) ?_))
  rintro _ w21 vF
  refine sG O (fA O (aA (dI fK O ?_)))
  exact ⟨O, V.Wv (s := s.Au) (WB iZ hin) O O vF.f8.right.f8.right.f8.right.f8.right.f8.right.f9.right.f9.right.f2.f8.f8.f8.f8.f8.f8.f8⟩
theorem GL (H : V w0 w (eH e s • F)) : iQ prog 31 #[.pointer (some ⟨e, 0, none⟩), .int .i64 x] w fun v w' => v = .int .i64 (s.Cj x) ∧ V w0 w' (eH e (s.lD x) • F) := by
  by_cases hin : s.inn = true
  · by_cases hx : x = 0
    · subst hx
      rw [show s.lD 0 = s.kU from by unfold bF.lD; rw [if_pos hin, if_pos rfl], show s.Cj 0 = 0 from by unfold bF.Cj; rw [if_pos hin]]
      exact Uj hin H
    · rw [(Fp hin hx).1, (Fp hin hx).2]
      exact WE hin hx H
  · have hin' : s.inn = false := by simpa using hin
    have hpe : s.yJ = 1 := by unfold bF.yJ; rw [if_neg hin]
    rw [show s.lD x = s from by unfold bF.lD; rw [if_neg hin], show s.Cj x = 1 from by unfold bF.Cj; rw [if_neg hin]]
    refine qc func31 ntmps31 ?_
    refine ku O (aI (bM O (dS O func81 (ru H) ?_)))
    rintro _ _ ⟨rfl, rfl⟩
    refine dZ O (bM O (aQ (gY O O) (jr O (fun h1 => ?_) (fun h => by exfalso; (try simp only [Z] at h); rw [hpe] at h; exact absurd h (by decide)))))
    (try simp only [Z] at h1)
    refine bM O (fA O (aA (dI fK O ?_)))
    rw [hpe]
    exact ⟨O, H⟩
end
end Go.Proofs.YtpdeedplgmbopaaGreatDoor
end
section
namespace Go.Proofs.YtpdeedplgmbopaaGreatDoor
open Go.RowKit
theorem afg {s : bF} (h : nT s) {G : List (List jl)} (h1 : ig G s.put ≤ ig s.here s.put) (h2 : ∀ g ∈ G, g ∈ s.here) : nT (s.lY G) := by
  obtain ⟨a1, a2, a3, a4, a5, a6⟩ := h
  refine ⟨a1, a2, a3, a4, ?_, ?_⟩
  · show ig (xk s.c.un s.c.place G s.c.place) s.put ≤ 16384
    rw [iL]; omega
  · intro k g hg
    have hg' : g ∈ xk s.c.un s.c.place G k := hg
    by_cases hk : k = s.c.place
    · subst hk; rw [iL] at hg'; exact a6 _ g (h2 g hg')
    · rw [xq _ _ hk] at hg'; exact a6 k g hg'
section
variable {w0 w : World} {F : HP} {e p : Nat} {s : bF} {x : Int}
end
structure Ip where
  kd : Int
  a : Int
  b : Int
  back : Bool
  text : List Int
structure Iq where
  kd : Int
  a : Int
  b : Int
  back : Bool
  v : Value
  text : List Int
instance : Inhabited Iq := ⟨⟨0, 0, 0, false, .slice none 0 0, []⟩⟩
def Iq.enc (p : Iq) : List Value := [.int .i64 p.kd, .int .i64 p.a, .int .i64 p.b, .bool p.back, p.v]
theorem Iq.Fa (p : Iq) : p.enc.length = 5 := rfl
def Iq.m (p : Iq) : Ip := ⟨p.kd, p.a, p.b, p.back, p.text⟩
def Iq.Reads (W : World) (p : Iq) : Prop := fJ W .i32 p.v p.text ∧ p.text.length ≤ 35184372087808
def bF.edit (s : bF) (p : Ip) : bF :=
  if p.kd = 0 then s.DK p.text else
  if p.kd = 1 then s.OE p.text else
  if p.kd = 2 then s.mG p.a p.b [] else
  if p.kd = 3 then s.mG p.a p.b p.text else
  if p.kd = 4 then s.xu p.a p.b p.back else
  if p.kd = 5 then s.tH p.a p.b p.back else
  if p.kd = 6 then s.xP else
  if p.kd = 7 then s.agG p.a else
  if p.kd = 8 then s.uF p.a else
  if p.kd = 9 then s.aea p.a else
  if p.kd = 10 then s.aeb else
  if p.kd = 11 then s.Bl else
  if p.kd = 17 then s.vV p.a else s
section
variable {w0 w : World} {F : HP} {e : Nat} {s : bF} {v : Value} {p : Ip}
end
def KG (e : TypeId) (k : IntKind) : List Value → List (List Int) → HP
  | [], [] => emp
  | v :: vs, l :: ls => jw e k v l • KG e k vs ls
  | _, _ => fact False
section
variable {w0 w : World} {F : HP} {e : TypeId} {k : IntKind} {v : Value} {l : List Int}
theorem V.abd (H : V w0 w F) : V w0 w (KG e k [] [] • F) := H.Qw
theorem Fq : ∀ (vs : List Value) (ls : List (List Int)), (KG e k vs ls • jw e k v l) = KG e k (vs ++ [v]) (ls ++ [l])
  | [], [] => by show (emp • jw e k v l) = (jw e k v l • emp); rw [zY]
  | u :: vs, m :: ls => by
    show ((jw e k u m • KG e k vs ls) • jw e k v l) = (jw e k u m • KG e k (vs ++ [v]) (ls ++ [l]))
    rw [dH, Fq vs ls]
  | [], m :: ls => by
    apply HP.ext; funext I h; apply propext
    constructor
    · intro hp; exact absurd ((D5 _ _ _ _).1 hp).1 id
    · intro hp
      cases ls with
      | nil => exact absurd (show False by obtain ⟨_, _, _, _, _, hb⟩ := hp; exact hb.1) id
      | cons x y => exact absurd (show False by obtain ⟨_, _, _, _, _, hb⟩ := hp; exact hb.1) id
  | u :: vs, [] => by
    apply HP.ext; funext I h; apply propext
    constructor
    · intro hp; exact absurd ((D5 _ _ _ _).1 hp).1 id
    · intro hp
      cases vs with
      | nil => exact absurd (show False by obtain ⟨_, _, _, _, _, hb⟩ := hp; exact hb.1) id
      | cons x y => exact absurd (show False by obtain ⟨_, _, _, _, _, hb⟩ := hp; exact hb.1) id
theorem V.Fq {vs : List Value} {ls : List (List Int)} (H : V w0 w (KG e k vs ls • jw e k v l • F)) : V w0 w (KG e k (vs ++ [v]) (ls ++ [l]) • F) := H.deep.of_eq (by rw [Go.Proofs.YtpdeedplgmbopaaGreatDoor.Fq])
end
end Go.Proofs.YtpdeedplgmbopaaGreatDoor
end
section
namespace Go.Proofs.YtpdeedplgmbopaaGreatDoor
open Go.RowKit
open _root_.Go.Proofs.Tryz
section
variable {w0 w : World} {F : HP} {e p ph pw pt pr pm : Nat} {s : bF} {k x place : Int} {hl : List tu} {base most : Int} {tx : Int → Option ByteArray} {v : Value}
theorem Uk (H : V w0 w (jC p hl base most • F)) : iQ prog 157 #[.pointer (some ⟨p, 0, none⟩), .int .i64 k] w fun v w' =>
  v = .tuple #[.agg #[.string (TJ hl k).1, .int .i64 (TJ hl k).2], .bool (decide (0 ≤ k ∧ k < hl.length))] ∧ V w0 w' (jC p hl base most • F) := by
 have hb : hl.length ≤ 4096 := by obtain ⟨v, h, _⟩ := H.hist; exact h.1
 refine qc func157 ntmps157 ?_
 refine iy (kF (iR (l := [_, _]) H zeroValue218 O) ?_)
 rintro _ w1 ⟨b1, rfl, H1⟩
 refine uf O (bM O (aQ (gW O O) (jm O (fun h1 => ?_) (fun h1 => ?_))))
 ·(try simp only [Z] at h1)
  refine bn (bn (bn (bn (je O O (iE (C9 (iy (aQ (fU (zl := [.string .empty, .int .i64 0]) (pl := [(0, 1), (1, 1)]) [_, _] nK zeroValue218 O (fun w => by kernel_rfl) O (.zero (zs := [.string .empty]) O (.zero (zs := [.int .i64 0]) O .nil)) O) (aJ (dG 0 (l' := [_, _]) (us := [_, _]) H1 sizeOf218 O O O (aG (aG bW)) O O) ?_)))))))))
  rintro _ w2 H2
  refine fA O (aA ?_)
  refine sS (.inl O) (XH results157 O O nK O (by rw [WG]; rfl) (H2).get.2) ?_
  exact ⟨by unfold TJ; rw [if_neg (by omega), decide_eq_false (by omega)], H2.right⟩
 ·(try simp only [Z] at h1)
  refine aY (bJ O (aY (bJ O (aY (dS O func117 (rE H1.f2) ?_)))))
  rintro _ w3 ⟨rfl, H3⟩
  refine aY (aQ (lI O O) (fG O O (jr O (fun h2 => ?_) (fun h2 => ?_))))
  ·(try simp only [Z] at h2)
   refine iy (aQ (fU (zl := [.string .empty, .int .i64 0]) (pl := [(0, 1), (1, 1)]) [_, _] nK zeroValue218 O (fun w => by kernel_rfl) O (.zero (zs := [.string .empty]) O (.zero (zs := [.int .i64 0]) O .nil)) O) (aJ (dG 0 (l' := [_, _]) (us := [_, _]) H3.f2 sizeOf218 O O O (aG (aG bW)) O O) ?_))
   rintro _ w4 H4
   refine fA O (aA ?_)
   refine sS (.inl O) (XH results157 O O nK O (by rw [WG]; rfl) (H4).get.2) ?_
   exact ⟨by unfold TJ; rw [if_neg (by omega), decide_eq_false (by omega)], H4.right⟩
  ·(try simp only [Z] at h2)
   refine fV (aI ?_)
   obtain ⟨m, rfl⟩ := Int.eq_ofNat_of_zero_le (show 0 ≤ k by omega)
   obtain ⟨V9, FQ, DY⟩ := (H3).hist
   refine aB (oq O O (bI 0 nG O sizeOf151 O (bI 0 nH O sizeOf149 O (fC iU O (DY).get.2 O (bJ O ?_)))))
   obtain ⟨agZ, ag0, ag1, abe⟩ := Rd.rW ((DY.f2).aP) (by omega)
   cases abe
   refine aQ (dM iU sizeOf218 O O (by omega)) (aQ (vP (ys := [_, _]) ((DY.f2).aP) (by omega) nK O sizeOf218 O (xY PO (by omega) default) O) (aJ (dG 0 (l' := [_, _]) (us := [_, _]) DY.f3 sizeOf218 O O O (aG (aG bW)) O O) ?_))
   rintro _ w6 H6
   refine fA O ?_
   refine sS (.inl O) (XH results157 O O nK O (by rw [WG]; rfl) (H6).get.2) ?_
   have Ho8 := H6.f3.f3
   have Vr := V.Ic FQ Ho8
   exact ⟨by unfold TJ; rw [if_pos (by omega), decide_eq_true (by omega)]; rfl, Vr.f2.right⟩
theorem Ir {x0 x1 x2 x3 x4 x5 x6 x7 x8 x9 x10 x12 y7 x14 x15 x16 x17 x18 x19 x20 x21 zV x23 x24 x25 Ak x27 x28 x29 x30 x31 x32 Bh : Value} (H : V w0 w (eP e (.cells (x0 :: x1 :: x2 :: x3 :: x4 :: x5 :: x6 :: x7 :: x8 :: x9 :: x10 :: .pointer (some ⟨ph, 0, none⟩) :: x12 :: y7 :: x14 :: x15 :: x16 :: x17 :: x18 :: x19 :: x20 :: x21 :: zV :: x23 :: x24 :: x25 :: Ak :: x27 :: x28 :: x29 :: x30 :: x31 :: x32 :: Bh :: []).toArray 82 (0, 0)) • jC ph hl base most • F)) : iQ prog 119 #[.pointer (some ⟨e, 0, none⟩), .int .i64 k] w fun v w' =>
    v = .string (Dl hl k) ∧ V w0 w' (eP e (.cells (x0 :: x1 :: x2 :: x3 :: x4 :: x5 :: x6 :: x7 :: x8 :: x9 :: x10 :: .pointer (some ⟨ph, 0, none⟩) :: x12 :: y7 :: x14 :: x15 :: x16 :: x17 :: x18 :: x19 :: x20 :: x21 :: zV :: x23 :: x24 :: x25 :: Ak :: x27 :: x28 :: x29 :: x30 :: x31 :: x32 :: Bh :: []).toArray 82 (0, 0)) • jC ph hl base most • F) := by
  refine qc func119 ntmps119 ?_
  refine ku O (bM O (dK O (bI 11 aj O sizeOf78 O (fC lM O (H).get.2 O (bJ O (dS O func157 (Uk H.f2) ?_))))))
  rintro _ w1 ⟨rfl, H1⟩
  refine bJ O (pW O O (pW O O (kF (iR (l := [_, _]) H1 zeroValue218 O) ?_)))
  rintro _ w2 ⟨b2, rfl, H2⟩
  refine aJ (dG 0 (l' := [_, _]) (us := [_, _]) H2 sizeOf218 O O O (aG (aG bW)) O O) ?_
  rintro _ w3 H3
  refine dZ O (iy (bI 0 nK O eG O (fC dw O (H3).get.2 O (fA O (dI results119 O ?_)))))
  exact ⟨O, H3.right.f2⟩
theorem Zf {t : ByteArray} (h : tx k = some t) : (xw tx k).getD (.string .empty) = .string t ∧ (xw tx k).isSome = true := by unfold xw; rw [h]; exact ⟨rfl, rfl⟩
theorem JZ : (xw tx k).isSome = (tx k).isSome := by unfold xw; cases tx k <;> rfl
theorem BX {x0 x1 x3 x4 x5 x6 x7 x8 x9 x10 x12 y7 x14 x15 x16 x17 x18 x19 x20 x21 zV x23 x24 x25 Ak x27 x28 x29 x30 x31 x32 Bh : Value} (H : V w0 w (eP e (.cells (x0 :: x1 :: .pointer (some ⟨pw, 0, none⟩) :: x3 :: x4 :: x5 :: x6 :: x7 :: x8 :: x9 :: x10 :: .pointer (some ⟨ph, 0, none⟩) :: x12 :: y7 :: x14 :: x15 :: x16 :: x17 :: x18 :: x19 :: x20 :: x21 :: zV :: x23 :: x24 :: x25 :: Ak :: x27 :: x28 :: x29 :: x30 :: x31 :: x32 :: Bh :: []).toArray 82 (0, 0)) • eP pw (.cells #[v, .map (some pt)] 122 (0, 0)) • iV uT pt (xw tx) • jC ph hl base most • F)) :
    iQ prog 118 #[.pointer (some ⟨e, 0, none⟩), .int .i64 k] w fun v' w' =>
    v' = .string (kJ hl tx k) ∧ V w0 w' (eP e (.cells (x0 :: x1 :: .pointer (some ⟨pw, 0, none⟩) :: x3 :: x4 :: x5 :: x6 :: x7 :: x8 :: x9 :: x10 :: .pointer (some ⟨ph, 0, none⟩) :: x12 :: y7 :: x14 :: x15 :: x16 :: x17 :: x18 :: x19 :: x20 :: x21 :: zV :: x23 :: x24 :: x25 :: Ak :: x27 :: x28 :: x29 :: x30 :: x31 :: x32 :: Bh :: []).toArray 82 (0, 0)) • eP pw (.cells #[v, .map (some pt)] 122 (0, 0)) • iV uT pt (xw tx) • jC ph hl base most • F) := by
  refine qc func118 ntmps118 ?_
  refine ku O (aI (bM O (dK O (bI 0 aj O aV O (bI 2 aK O sizeOf74 O (fC ni O (H).get.2 O (dK O (bI 1 iG O sizeOf120 O (fC underlying120 O (H.f2).get.2 O (bJ O (aQ (Ew (H.f3) underlying120 aC zeroValue9 O O) (bJ O (pW O O (pW O O (gU O (dZ O (bM O (jr O (fun h1 => ?_) (fun h1 => ?_)))))))))))))))))))
  · (try simp only [Z] at h1)
    obtain ⟨tt, htt⟩ := Option.isSome_iff_exists.1 (JZ (tx := tx) ▸ h1)
    refine bM O (fA O (aA (dI results118 O ?_)))
    exact ⟨by unfold kJ; rw [htt]; show (xw tx k).getD (.string .empty) = _; rw [(Zf htt).1]; rfl, H.f4.f4.f4.f4⟩
  · (try simp only [Z] at h1)
    have htt : tx k = none := by have := JZ (tx := tx) (k := k) ▸ h1; simpa using this
    refine fV (bM O (bJ O (dS O func119 (Ir H.f4.f2) ?_)))
    rintro _ w1 ⟨rfl, H1⟩
    refine fA O (dI results118 O ?_)
    exact ⟨by unfold kJ; rw [htt]; rfl, H1.f2.f4.f4.f4⟩
end
end Go.Proofs.YtpdeedplgmbopaaGreatDoor
end
