import Derived.Test.YtnhhmieghbfalaaGreatZ4
import Derived.Test.YtnhhmieghbfalaaGreatZ11
import Derived.Test.YtnhhmieghbfalaaGreatZ10
import Derived.Test.YtnhhmieghbfalaaGreatZ6
set_option linter.unusedSimpArgs false
set_option linter.unusedVariables false
/- Texts of mine, joined, their names in short: EdE EdU EEdit Owns EdS. -/
section
namespace Go.Proofs.YtnhhmieghbfalaaGreat
open Go.RowKit
open _root_.Go.Proofs.Tryz
theorem BO (s : bP) (on : Bool) : (s.dJ on).c.run = s.c.run := by unfold bP.dJ; split <;> rfl
theorem LH (s : bP) (on : Bool) : (s.dJ on).cls = s.cls := by unfold bP.dJ; split <;> rfl
theorem mJ {s s1 : bP} {on run : Bool} (h1 : s1 = s.jF) (hon : (s.typed && s.c.run) = on) (hrun : (s.typed && (!s.put.isEmpty || s.c.run)) = run) (h2 : (s1.dJ on).cls ≠ 2) :
    s.kK = { s1.dJ on with c := { (s1.dJ on).c with run := run, last := (s1.dJ on).cls, fr := 0, to := 0 } } := by
  subst h1 hon hrun
  have hc : (s.jF.dJ (s.typed && s.c.run)).cls = s.cls := by rw [LH]; unfold bP.jF; split <;> rfl
  unfold bP.kK
  rw [hc] at h2 ⊢
  dsimp only
  rw [if_pos h2]
theorem kV {s s1 : bP} {on run : Bool} (h1 : s1 = s.jF) (hon : (s.typed && s.c.run) = on) (hrun : (s.typed && (!s.put.isEmpty || s.c.run)) = run) (h2 : (s1.dJ on).cls = 2) :
    s.kK = { s1.dJ on with c := { (s1.dJ on).c with run := run, last := (s1.dJ on).cls } } := by
  subst h1 hon hrun
  have hc : (s.jF.dJ (s.typed && s.c.run)).cls = s.cls := by rw [LH]; unfold bP.jF; split <;> rfl
  unfold bP.kK
  rw [hc] at h2 ⊢
  dsimp only
  rw [if_neg (by omega)]
theorem wW {s : bP} (h : o8 s) : o8 s.jF := by
  obtain ⟨h1, h2, h3, h4, h5, h6⟩ := h
  unfold bP.jF
  split
  · exact ⟨h1, fun h => Bool.noConfusion h, h3, h4, h5, h6⟩
  · exact ⟨h1, fun h => Bool.noConfusion h, ⟨by show (-1 : Int) ≤ -1; decide, by show (-1 : Int) ≤ 1000000; decide⟩, h4, h5, h6⟩
theorem rU {l : List iO} : l.isEmpty = decide (l.length = 0) := by cases l <;> rfl
section
variable {w0 w : World} {F : HP} {e p : Nat} {s : bP} {x : Int}
theorem RY (hin : s.inn = true) (H : V w0 w (iL e s • F)) : iQ prog 17 #[.pointer (some ⟨e, 0, none⟩), .int .i64 0] w fun v w' => v = .int .i64 0 ∧ V w0 w' (iL e s.kK • F) := by
  have hpe : s.AU = 0 := by unfold bP.AU; rw [if_pos hin]
  refine qQ func17 ntmps17 ?_
  refine kW O (aO (bY O (fO O func32 (sQ H) ?_)))
  rintro _ _ ⟨rfl, rfl⟩
  refine jZ O (bY O (aZ (fF O O) (kE O (fun h => by exfalso; (try simp only [aK] at h); exact h hpe) (fun h1 => ?_))))
  (try simp only [aK] at h1)
  refine gX (aO ?_)
  obtain ⟨yD, yE, yF, yG, yH, yI, yJ, yK, wI, uY, uZ, vk, vw, vC, vF, vG, vH, vI, vJ, vK, iI, dK, mF, iJ⟩ := (H).JO
  refine aB (lM O O (Z 16 aj O aN O (aC (fU 16 iJ aN) ?_)))
  rintro _ w3 H3
  refine qJ (bY O (dA O (Z 31 aj O aN O (dL bf O (H3).get.2 O (aZ (kY O) (qG O (fun h2 => ?_) (fun h2 => ?_)))))))
  · (try simp only [aK] at h2)
    have har : s.argues = false := by simpa using h2
    have hs1 : ({ s.tV with inn := false } : bP) = s.jF := by unfold bP.jF; rw [if_neg (by simp [har])]
    refine cZ (cZ (nX O O (iF (Ko (aB (jw O O (lM O O (Z 13 aj O aN O (aC (fU 13 H3 aN) ?_)))))))))
    rintro _ w4 H4
    refine dA O (Z 14 aj O aN O (aC (fU 14 H4 aN) ?_))
    rintro _ w5 H5
    refine dA O (Z 15 aj O ah O (aC (fU 15 H5 ah) ?_))
    rintro _ w6 H6
    refine qJ (bY O (aZ (fF O O) (iF (FH O (fun h3 => ?_)))))
    (try simp only [aK] at h3)
    refine gX (aO ?_)
    have EG := H6.drew
    have kS := V.kp (EG.f11.f11.f11.f11.f11.f11.f11.f11.f11.f11.f11)
    refine wL [3, 9, 14] kS O (gK 0 O kS O (jL 1 O kS O (fH 2 O kS 28 aj O ah O (iY 3 O kS (fun W hW => jQ ay O ((Kp.h hW)).get.2 O) (jR 4 O kS (fun _ => je O O) ?_)))))
    refine AP 5 O O (by kernel_rfl) (by kernel_rfl) kS (nD O) (fun h4 => ?_) (fun h4 => ?_)
    · (try simp only [aK] at h4)
      have hc3 : s.cls = 3 := h4
      refine iM 6 O O O (by kernel_rfl) (by kernel_rfl) kS (fun _ => vS O) (nD O) ?_
      refine iM 7 O O O (by kernel_rfl) (by kernel_rfl) kS (fun _ => U4 O) (nD O) ?_
      refine iM 8 O O O (by kernel_rfl) (by kernel_rfl) kS (fun _ => J8 32 aj O O aN (by decide) O rfl) (nD O) ?_
      refine xA 9 O O O (by kernel_rfl) (by kernel_rfl) kS (by decide) (fun W hW => jk (eH bf O) O (mQ ((Kp.h hW)).get.2 O)) (nD O) ?_
      refine jR 10 O kS (fun _ => vT O O) (gK 11 O kS O (jL 12 O kS O (fH 13 O kS 33 aj O bn O (iY 14 O kS (fun W hW => jQ aQ O ((Kp.h hW)).get.2 O) (jR 15 O kS (fun _ => fA ((EG.f9).aG) aQ O) (jR 16 O kS (fun _ => gG O O) (jR 17 O kS (fun _ => iV O) (jR 18 O kS (fun _ => iV O) (qN (bC (bY O (dn O (qG O (fun h5 => ?_) (fun h5 => ?_))))))))))))))
      · (try simp only [aK] at h5)
        have hwh : s.whole = true := h5
        have hty : s.typed = true := by unfold bP.typed; rw [hc3, hwh]; rfl
        refine bK (dn O (bK (dA O (bK (Z 0 aj O aU O (bK (Z 10 aJ O aN O (bK (dL bf O (EG).get.2 O (nX O O ?_))))))))))
        have hwo := AY (EG.f11)
        have PK := EG.f11.right
        have HW0 := V.Fa (c := s.was) (u := [uY, uZ, vk, vw, vC, vF, vG, vH, vI, vJ, vK]) PK hwo
        obtain ⟨s1, rC, YK⟩ : ∃ s1, s1 = s.jF ∧ V w0 (w6.drew) (iL e s1 • F) := ⟨_, hs1, V.iH (hs1 ▸ wW iI) dK HW0.f11.f11.f11.f11.f11.f11.f11.f11.f11.f11⟩
        have hr1 : s1.c.run = s.c.run := by rw [rC]; unfold bP.jF; split <;> rfl
        refine fO O func43 (tC YK) ?_
        rintro _ w8 H8
        obtain ⟨on, hon, HZ⟩ : ∃ on, (s.typed && s.c.run) = on ∧ V w0 w8 (iL e (s1.dJ on) • F) := ⟨_, by rw [hty]; rfl, H8⟩
        refine qJ ?_
        obtain ⟨yD, yE, yF, yG, yH, yI, yJ, yK, wI, uY, uZ, vk, vw, vC, vF, vG, vH, vI, vJ, vK, iI, dK, mF, iJ⟩ := (HZ).JO
        refine aB (jw O O (qG O (fun h6 => ?_) (fun h6 => ?_)))
        · (try simp only [aK] at h6)
          have hw2 : s.whole = true := h6
          refine bK (dn O (bK (qG O (fun h7 => ?_) (fun h7 => ?_))))
          · (try simp only [aK] at h7)
            have hrun : (s.typed && (!s.put.isEmpty || s.c.run)) = true := by first | exact absurd (hw2.symm.trans hwh) (by decide) | (rw [rU, decide_eq_false (show ¬ s.put.length = 0 by omega), hty]; rfl)
            refine cZ (cZ (cZ (cZ (cZ (bK (nX O O (nX O O (dA O (Z 0 aj O aU O (Z 10 aJ O aN O (aC (fU 10 iJ aN) ?_)))))))))))
            rintro _ w10 rD
            refine pG O (lM O O (Z 28 aj O ah O (dL ay O (rD).get.2 O (dA O (Z 0 aj O aU O (Z 6 aJ O ah O (aC (fU 6 rD ah) ?_)))))))
            rintro _ Hr rX
            refine qJ (bY O (dA O (Z 28 aj O ah O (dL ay O (rX).get.2 O (aZ (fF O O) (kE O (fun h8 => ?_) (fun h8 => ?_)))))))
            · (try simp only [aK] at h8)
              have wX := mJ rC hon hrun h8
              refine aB (jw O O (dA O (Z 0 aj O aU O (Z 7 aJ O ah O (aC (fU 7 rX ah) ?_)))))
              rintro _ w12 vN
              refine dA O (Z 0 aj O aU O (Z 8 aJ O ah O (aC (fU 8 vN ah) ?_)))
              rintro _ TB AB
              refine iF (nM O (gy fD O ?_))
              refine ⟨O, ?_⟩
              first
                | exact absurd (hw2.symm.trans hwh) (by decide)
                | exact absurd (hwh.symm.trans hw2) (by decide)
                | (rw [wX]; exact V.iH iI dK AB.f11.f11.f11.f11.f11.f11.f11.f11.f11.f11.f11)
            · (try simp only [aK] at h8)
              have wX := kV rC hon hrun h8
              refine gX (nM O (gy fD O ?_))
              refine ⟨O, ?_⟩
              first
                | exact absurd (hw2.symm.trans hwh) (by decide)
                | exact absurd (hwh.symm.trans hw2) (by decide)
                | (rw [wX]; exact V.iH iI dK rX.f11.f11.f11.f11.f11.f11.f11.f11.f11.f11.f11)
          · (try simp only [aK] at h7)
            have hrun : (s.typed && (!s.put.isEmpty || s.c.run)) = (s1.dJ on).c.run := by first | exact absurd (hw2.symm.trans hwh) (by decide) | (rw [rU, decide_eq_true (show s.put.length = 0 by omega), hty, BO, hr1]; rfl)
            refine bK (dn O (bK (dA O (bK (Z 0 aj O aU O (bK (Z 10 aJ O aN O (bK (dL bf O (iJ).get.2 O (bK (lH O O (nX O O (dA O (Z 0 aj O aU O (Z 10 aJ O aN O (aC (fU 10 iJ aN) ?_))))))))))))))))
            rintro _ Qu AL
            refine pG O (lM O O (Z 28 aj O ah O (dL ay O (AL).get.2 O (dA O (Z 0 aj O aU O (Z 6 aJ O ah O (aC (fU 6 AL ah) ?_)))))))
            rintro _ TD Bz
            refine qJ (bY O (dA O (Z 28 aj O ah O (dL ay O (Bz).get.2 O (aZ (fF O O) (kE O (fun h9 => ?_) (fun h9 => ?_)))))))
            · (try simp only [aK] at h9)
              have wX := mJ rC hon hrun h9
              refine aB (jw O O (dA O (Z 0 aj O aU O (Z 7 aJ O ah O (aC (fU 7 Bz ah) ?_)))))
              rintro _ w16 wE
              refine dA O (Z 0 aj O aU O (Z 8 aJ O ah O (aC (fU 8 wE ah) ?_)))
              rintro _ ZQ Dh
              refine iF (nM O (gy fD O ?_))
              refine ⟨O, ?_⟩
              first
                | exact absurd (hw2.symm.trans hwh) (by decide)
                | exact absurd (hwh.symm.trans hw2) (by decide)
                | (rw [wX]; exact V.iH iI dK Dh.f11.f11.f11.f11.f11.f11.f11.f11.f11.f11.f11)
            · (try simp only [aK] at h9)
              have wX := kV rC hon hrun h9
              refine gX (nM O (gy fD O ?_))
              refine ⟨O, ?_⟩
              first
                | exact absurd (hw2.symm.trans hwh) (by decide)
                | exact absurd (hwh.symm.trans hw2) (by decide)
                | (rw [wX]; exact V.iH iI dK Bz.f11.f11.f11.f11.f11.f11.f11.f11.f11.f11.f11)
        · (try simp only [aK] at h6)
          have hw2 : s.whole = false := by simpa using h6
          have hrun : (s.typed && (!s.put.isEmpty || s.c.run)) = false := by first | exact absurd (hwh.symm.trans hw2) (by decide) | (rw [hty]; rfl)
          refine cZ (cZ (su (su (su (su (su (cZ (lH O O (dA O (Z 0 aj O aU O (Z 10 aJ O aN O (aC (fU 10 iJ aN) ?_))))))))))))
          rintro _ Xv Ef
          refine pG O (lM O O (Z 28 aj O ah O (dL ay O (Ef).get.2 O (dA O (Z 0 aj O aU O (Z 6 aJ O ah O (aC (fU 6 Ef ah) ?_)))))))
          rintro _ Xw zN
          refine qJ (bY O (dA O (Z 28 aj O ah O (dL ay O (zN).get.2 O (aZ (fF O O) (kE O (fun h10 => ?_) (fun h10 => ?_)))))))
          · (try simp only [aK] at h10)
            have wX := mJ rC hon hrun h10
            refine aB (jw O O (dA O (Z 0 aj O aU O (Z 7 aJ O ah O (aC (fU 7 zN ah) ?_)))))
            rintro _ XM Ci
            refine dA O (Z 0 aj O aU O (Z 8 aJ O ah O (aC (fU 8 Ci ah) ?_)))
            rintro _ Xx tK
            refine iF (nM O (gy fD O ?_))
            refine ⟨O, ?_⟩
            first
              | exact absurd (hw2.symm.trans hwh) (by decide)
              | exact absurd (hwh.symm.trans hw2) (by decide)
              | (rw [wX]; exact V.iH iI dK tK.f11.f11.f11.f11.f11.f11.f11.f11.f11.f11.f11)
          · (try simp only [aK] at h10)
            have wX := kV rC hon hrun h10
            refine gX (nM O (gy fD O ?_))
            refine ⟨O, ?_⟩
            first
              | exact absurd (hw2.symm.trans hwh) (by decide)
              | exact absurd (hwh.symm.trans hw2) (by decide)
              | (rw [wX]; exact V.iH iI dK zN.f11.f11.f11.f11.f11.f11.f11.f11.f11.f11.f11)
      · (try simp only [aK] at h5)
        have hwh : s.whole = false := by simpa using h5
        have hty : s.typed = false := by unfold bP.typed; rw [hc3, hwh]; rfl
        have hrun : (s.typed && (!s.put.isEmpty || s.c.run)) = false := by rw [hty]; rfl
        refine cZ (cZ (cZ (cZ (cZ (lH O O ?_)))))
        have hwo := AY (EG.f11)
        have Ld := EG.f11.right
        have HW0 := V.Fa (c := s.was) (u := [uY, uZ, vk, vw, vC, vF, vG, vH, vI, vJ, vK]) Ld hwo
        obtain ⟨s1, rC, YK⟩ : ∃ s1, s1 = s.jF ∧ V w0 (w6.drew) (iL e s1 • F) := ⟨_, hs1, V.iH (hs1 ▸ wW iI) dK HW0.f11.f11.f11.f11.f11.f11.f11.f11.f11.f11⟩
        have hr1 : s1.c.run = s.c.run := by rw [rC]; unfold bP.jF; split <;> rfl
        refine fO O func43 (tC YK) ?_
        rintro _ ZR BA
        obtain ⟨on, hon, HZ⟩ : ∃ on, (s.typed && s.c.run) = on ∧ V w0 ZR (iL e (s1.dJ on) • F) := ⟨_, by rw [hty]; rfl, BA⟩
        refine qJ ?_
        obtain ⟨yD, yE, yF, yG, yH, yI, yJ, yK, wI, uY, uZ, vk, vw, vC, vF, vG, vH, vI, vJ, vK, iI, dK, mF, iJ⟩ := (HZ).JO
        refine aB (jw O O (qG O (fun h11 => ?_) (fun h11 => ?_)))
        · (try simp only [aK] at h11)
          have hw2 : s.whole = true := h11
          refine bK (dn O (bK (qG O (fun h12 => ?_) (fun h12 => ?_))))
          · (try simp only [aK] at h12)
            have hrun : (s.typed && (!s.put.isEmpty || s.c.run)) = true := by first | exact absurd (hw2.symm.trans hwh) (by decide) | (rw [rU, decide_eq_false (show ¬ s.put.length = 0 by omega), hty]; rfl)
            refine cZ (cZ (cZ (cZ (cZ (bK (nX O O (nX O O (dA O (Z 0 aj O aU O (Z 10 aJ O aN O (aC (fU 10 iJ aN) ?_)))))))))))
            rintro _ w25 JE
            refine pG O (lM O O (Z 28 aj O ah O (dL ay O (JE).get.2 O (dA O (Z 0 aj O aU O (Z 6 aJ O ah O (aC (fU 6 JE ah) ?_)))))))
            rintro _ w26 EW
            refine qJ (bY O (dA O (Z 28 aj O ah O (dL ay O (EW).get.2 O (aZ (fF O O) (kE O (fun h13 => ?_) (fun h13 => ?_)))))))
            · (try simp only [aK] at h13)
              have wX := mJ rC hon hrun h13
              refine aB (jw O O (dA O (Z 0 aj O aU O (Z 7 aJ O ah O (aC (fU 7 EW ah) ?_)))))
              rintro _ w27 FP
              refine dA O (Z 0 aj O aU O (Z 8 aJ O ah O (aC (fU 8 FP ah) ?_)))
              rintro _ w28 MR
              refine iF (nM O (gy fD O ?_))
              refine ⟨O, ?_⟩
              first
                | exact absurd (hw2.symm.trans hwh) (by decide)
                | exact absurd (hwh.symm.trans hw2) (by decide)
                | (rw [wX]; exact V.iH iI dK MR.f11.f11.f11.f11.f11.f11.f11.f11.f11.f11.f11)
            · (try simp only [aK] at h13)
              have wX := kV rC hon hrun h13
              refine gX (nM O (gy fD O ?_))
              refine ⟨O, ?_⟩
              first
                | exact absurd (hw2.symm.trans hwh) (by decide)
                | exact absurd (hwh.symm.trans hw2) (by decide)
                | (rw [wX]; exact V.iH iI dK EW.f11.f11.f11.f11.f11.f11.f11.f11.f11.f11.f11)
          · (try simp only [aK] at h12)
            have hrun : (s.typed && (!s.put.isEmpty || s.c.run)) = (s1.dJ on).c.run := by first | exact absurd (hw2.symm.trans hwh) (by decide) | (rw [rU, decide_eq_true (show s.put.length = 0 by omega), hty, BO, hr1]; rfl)
            refine bK (dn O (bK (dA O (bK (Z 0 aj O aU O (bK (Z 10 aJ O aN O (bK (dL bf O (iJ).get.2 O (bK (lH O O (nX O O (dA O (Z 0 aj O aU O (Z 10 aJ O aN O (aC (fU 10 iJ aN) ?_))))))))))))))))
            rintro _ w29 Ji
            refine pG O (lM O O (Z 28 aj O ah O (dL ay O (Ji).get.2 O (dA O (Z 0 aj O aU O (Z 6 aJ O ah O (aC (fU 6 Ji ah) ?_)))))))
            rintro _ w30 JF
            refine qJ (bY O (dA O (Z 28 aj O ah O (dL ay O (JF).get.2 O (aZ (fF O O) (kE O (fun h14 => ?_) (fun h14 => ?_)))))))
            · (try simp only [aK] at h14)
              have wX := mJ rC hon hrun h14
              refine aB (jw O O (dA O (Z 0 aj O aU O (Z 7 aJ O ah O (aC (fU 7 JF ah) ?_)))))
              rintro _ w31 MS
              refine dA O (Z 0 aj O aU O (Z 8 aJ O ah O (aC (fU 8 MS ah) ?_)))
              rintro _ w32 Ht
              refine iF (nM O (gy fD O ?_))
              refine ⟨O, ?_⟩
              first
                | exact absurd (hw2.symm.trans hwh) (by decide)
                | exact absurd (hwh.symm.trans hw2) (by decide)
                | (rw [wX]; exact V.iH iI dK Ht.f11.f11.f11.f11.f11.f11.f11.f11.f11.f11.f11)
            · (try simp only [aK] at h14)
              have wX := kV rC hon hrun h14
              refine gX (nM O (gy fD O ?_))
              refine ⟨O, ?_⟩
              first
                | exact absurd (hw2.symm.trans hwh) (by decide)
                | exact absurd (hwh.symm.trans hw2) (by decide)
                | (rw [wX]; exact V.iH iI dK JF.f11.f11.f11.f11.f11.f11.f11.f11.f11.f11.f11)
        · (try simp only [aK] at h11)
          have hw2 : s.whole = false := by simpa using h11
          have hrun : (s.typed && (!s.put.isEmpty || s.c.run)) = false := by first | exact absurd (hwh.symm.trans hw2) (by decide) | (rw [hty]; rfl)
          refine cZ (cZ (su (su (su (su (su (cZ (lH O O (dA O (Z 0 aj O aU O (Z 10 aJ O aN O (aC (fU 10 iJ aN) ?_))))))))))))
          rintro _ w33 Pm
          refine pG O (lM O O (Z 28 aj O ah O (dL ay O (Pm).get.2 O (dA O (Z 0 aj O aU O (Z 6 aJ O ah O (aC (fU 6 Pm ah) ?_)))))))
          rintro _ w34 Lm
          refine qJ (bY O (dA O (Z 28 aj O ah O (dL ay O (Lm).get.2 O (aZ (fF O O) (kE O (fun h15 => ?_) (fun h15 => ?_)))))))
          · (try simp only [aK] at h15)
            have wX := mJ rC hon hrun h15
            refine aB (jw O O (dA O (Z 0 aj O aU O (Z 7 aJ O ah O (aC (fU 7 Lm ah) ?_)))))
            rintro _ w35 Ou
            refine dA O (Z 0 aj O aU O (Z 8 aJ O ah O (aC (fU 8 Ou ah) ?_)))
            rintro _ w36 UA
            refine iF (nM O (gy fD O ?_))
            refine ⟨O, ?_⟩
            first
              | exact absurd (hw2.symm.trans hwh) (by decide)
              | exact absurd (hwh.symm.trans hw2) (by decide)
              | (rw [wX]; exact V.iH iI dK UA.f11.f11.f11.f11.f11.f11.f11.f11.f11.f11.f11)
          · (try simp only [aK] at h15)
            have wX := kV rC hon hrun h15
            refine gX (nM O (gy fD O ?_))
            refine ⟨O, ?_⟩
            first
              | exact absurd (hw2.symm.trans hwh) (by decide)
              | exact absurd (hwh.symm.trans hw2) (by decide)
              | (rw [wX]; exact V.iH iI dK Lm.f11.f11.f11.f11.f11.f11.f11.f11.f11.f11.f11)
    · (try simp only [aK] at h4)
      have hty : s.typed = false := by unfold bP.typed; rw [beq_false_of_ne h4]; rfl
      have hrun : (s.typed && (!s.put.isEmpty || s.c.run)) = false := by rw [hty]; rfl
      refine Iy 6 O O O O (by kernel_rfl) (by kernel_rfl) kS (nD O) ?_
      refine Iy 7 O O O O (by kernel_rfl) (by kernel_rfl) kS (nD O) ?_
      refine Iy 8 O O O O (by kernel_rfl) (by kernel_rfl) kS (nD O) ?_
      refine Iy 9 O O O O (by kernel_rfl) (by kernel_rfl) kS (nD O) ?_
      refine jR 10 O kS (fun _ => J6 O O) (gK 11 O kS O (jL 12 O kS O (fH 13 O kS 33 aj O bn O (iY 14 O kS (fun W hW => jQ aQ O ((Kp.h hW)).get.2 O) (jR 15 O kS (fun _ => fA ((EG.f9).aG) aQ O) (jR 16 O kS (fun _ => gG O O) (jR 17 O kS (fun _ => iV O) (jR 18 O kS (fun _ => iV O) (qN (bC (bY O (jw O O (cZ (cZ (cZ (cZ (cZ (lH O O ?_))))))))))))))))))
      have hwo := AY (EG.f11)
      have ab7 := EG.f11.right
      have HW0 := V.Fa (c := s.was) (u := [uY, uZ, vk, vw, vC, vF, vG, vH, vI, vJ, vK]) ab7 hwo
      obtain ⟨s1, rC, YK⟩ : ∃ s1, s1 = s.jF ∧ V w0 (w6.drew) (iL e s1 • F) := ⟨_, hs1, V.iH (hs1 ▸ wW iI) dK HW0.f11.f11.f11.f11.f11.f11.f11.f11.f11.f11⟩
      have hr1 : s1.c.run = s.c.run := by rw [rC]; unfold bP.jF; split <;> rfl
      refine fO O func43 (tC YK) ?_
      rintro _ w38 Ov
      obtain ⟨on, hon, HZ⟩ : ∃ on, (s.typed && s.c.run) = on ∧ V w0 w38 (iL e (s1.dJ on) • F) := ⟨_, by rw [hty]; rfl, Ov⟩
      refine qJ ?_
      obtain ⟨yD, yE, yF, yG, yH, yI, yJ, yK, wI, uY, uZ, vk, vw, vC, vF, vG, vH, vI, vJ, vK, iI, dK, mF, iJ⟩ := (HZ).JO
      refine aB (jw O O (dn O (cZ (cZ (su (su (su (su (su (cZ (lH O O (dA O (Z 0 aj O aU O (Z 10 aJ O aN O (aC (fU 10 iJ aN) ?_)))))))))))))))
      rintro _ w40 H40
      refine pG O (lM O O (Z 28 aj O ah O (dL ay O (H40).get.2 O (dA O (Z 0 aj O aU O (Z 6 aJ O ah O (aC (fU 6 H40 ah) ?_)))))))
      rintro _ w41 Vt
      refine qJ (bY O (dA O (Z 28 aj O ah O (dL ay O (Vt).get.2 O (aZ (fF O O) (kE O (fun h16 => ?_) (fun h16 => ?_)))))))
      · (try simp only [aK] at h16)
        have wX := mJ rC hon hrun h16
        refine aB (jw O O (dA O (Z 0 aj O aU O (Z 7 aJ O ah O (aC (fU 7 Vt ah) ?_)))))
        rintro _ w42 ZT
        refine dA O (Z 0 aj O aU O (Z 8 aJ O ah O (aC (fU 8 ZT ah) ?_)))
        rintro _ w43 WB
        refine iF (nM O (gy fD O ?_))
        refine ⟨O, ?_⟩
        first
          | exact absurd (hw2.symm.trans hwh) (by decide)
          | exact absurd (hwh.symm.trans hw2) (by decide)
          | (rw [wX]; exact V.iH iI dK WB.f11.f11.f11.f11.f11.f11.f11.f11.f11.f11.f11)
      · (try simp only [aK] at h16)
        have wX := kV rC hon hrun h16
        refine gX (nM O (gy fD O ?_))
        refine ⟨O, ?_⟩
        first
          | exact absurd (hw2.symm.trans hwh) (by decide)
          | exact absurd (hwh.symm.trans hw2) (by decide)
          | (rw [wX]; exact V.iH iI dK Vt.f11.f11.f11.f11.f11.f11.f11.f11.f11.f11.f11)
  · (try simp only [aK] at h2)
    have har : s.argues = true := by simpa using h2
    have hs1 : ({ s with inn := false } : bP) = s.jF := by unfold bP.jF; rw [if_pos har]
    refine bK (dn O (bK (aZ (fF O O) (lH O O (iF (FH O (fun h17 => ?_)))))))
    (try simp only [aK] at h17)
    refine gX (aO (bY O (aZ (fF O O) (iF (FH O (fun h18 => ?_))))))
    (try simp only [aK] at h18)
    refine gX (aO ?_)
    have Aq := H3.drew
    have jh := V.kp (Aq.f11.f11.f11.f11.f11.f11.f11.f11.f11.f11.f11)
    refine wL [3, 9, 14] jh O (gK 0 O jh O (jL 1 O jh O (fH 2 O jh 28 aj O ah O (iY 3 O jh (fun W hW => jQ ay O ((Kp.h hW)).get.2 O) (jR 4 O jh (fun _ => je O O) ?_)))))
    refine AP 5 O O (by kernel_rfl) (by kernel_rfl) jh (nD O) (fun h19 => ?_) (fun h19 => ?_)
    · (try simp only [aK] at h19)
      have hc3 : s.cls = 3 := h19
      refine iM 6 O O O (by kernel_rfl) (by kernel_rfl) jh (fun _ => vS O) (nD O) ?_
      refine iM 7 O O O (by kernel_rfl) (by kernel_rfl) jh (fun _ => U4 O) (nD O) ?_
      refine iM 8 O O O (by kernel_rfl) (by kernel_rfl) jh (fun _ => J8 32 aj O O aN (by decide) O rfl) (nD O) ?_
      refine xA 9 O O O (by kernel_rfl) (by kernel_rfl) jh (by decide) (fun W hW => jk (eH bf O) O (mQ ((Kp.h hW)).get.2 O)) (nD O) ?_
      refine jR 10 O jh (fun _ => vT O O) (gK 11 O jh O (jL 12 O jh O (fH 13 O jh 33 aj O bn O (iY 14 O jh (fun W hW => jQ aQ O ((Kp.h hW)).get.2 O) (jR 15 O jh (fun _ => fA ((Aq.f9).aG) aQ O) (jR 16 O jh (fun _ => gG O O) (jR 17 O jh (fun _ => iV O) (jR 18 O jh (fun _ => iV O) (qN (bC (bY O (dn O (qG O (fun h20 => ?_) (fun h20 => ?_))))))))))))))
      · (try simp only [aK] at h20)
        have hwh : s.whole = true := h20
        have hty : s.typed = true := by unfold bP.typed; rw [hc3, hwh]; rfl
        refine bK (dn O (bK (dA O (bK (Z 0 aj O aU O (bK (Z 10 aJ O aN O (bK (dL bf O (Aq).get.2 O (nX O O ?_))))))))))
        have hwo := AY (Aq.f11)
        have afj := Aq.f11.right
        have HW0 := V.Fa (c := s.was) (u := [uY, uZ, vk, vw, vC, vF, vG, vH, vI, vJ, vK]) afj hwo
        obtain ⟨s1, rC, YK⟩ : ∃ s1, s1 = s.jF ∧ V w0 (w3.drew) (iL e s1 • F) := ⟨_, hs1, V.iH (hs1 ▸ wW iI) dK HW0.f11.f11.f11.f11.f11.f11.f11.f11.f11.f11⟩
        have hr1 : s1.c.run = s.c.run := by rw [rC]; unfold bP.jF; split <;> rfl
        refine fO O func43 (tC YK) ?_
        rintro _ w45 JR
        obtain ⟨on, hon, HZ⟩ : ∃ on, (s.typed && s.c.run) = on ∧ V w0 w45 (iL e (s1.dJ on) • F) := ⟨_, by rw [hty]; rfl, JR⟩
        refine qJ ?_
        obtain ⟨yD, yE, yF, yG, yH, yI, yJ, yK, wI, uY, uZ, vk, vw, vC, vF, vG, vH, vI, vJ, vK, iI, dK, mF, iJ⟩ := (HZ).JO
        refine aB (jw O O (qG O (fun h21 => ?_) (fun h21 => ?_)))
        · (try simp only [aK] at h21)
          have hw2 : s.whole = true := h21
          refine bK (dn O (bK (qG O (fun h22 => ?_) (fun h22 => ?_))))
          · (try simp only [aK] at h22)
            have hrun : (s.typed && (!s.put.isEmpty || s.c.run)) = true := by first | exact absurd (hw2.symm.trans hwh) (by decide) | (rw [rU, decide_eq_false (show ¬ s.put.length = 0 by omega), hty]; rfl)
            refine cZ (cZ (cZ (cZ (cZ (bK (nX O O (nX O O (dA O (Z 0 aj O aU O (Z 10 aJ O aN O (aC (fU 10 iJ aN) ?_)))))))))))
            rintro _ w47 VG
            refine pG O (lM O O (Z 28 aj O ah O (dL ay O (VG).get.2 O (dA O (Z 0 aj O aU O (Z 6 aJ O ah O (aC (fU 6 VG ah) ?_)))))))
            rintro _ w48 ZU
            refine qJ (bY O (dA O (Z 28 aj O ah O (dL ay O (ZU).get.2 O (aZ (fF O O) (kE O (fun h23 => ?_) (fun h23 => ?_)))))))
            · (try simp only [aK] at h23)
              have wX := mJ rC hon hrun h23
              refine aB (jw O O (dA O (Z 0 aj O aU O (Z 7 aJ O ah O (aC (fU 7 ZU ah) ?_)))))
              rintro _ w49 H49
              refine dA O (Z 0 aj O aU O (Z 8 aJ O ah O (aC (fU 8 H49 ah) ?_)))
              rintro _ w50 Vu
              refine iF (nM O (gy fD O ?_))
              refine ⟨O, ?_⟩
              first
                | exact absurd (hw2.symm.trans hwh) (by decide)
                | exact absurd (hwh.symm.trans hw2) (by decide)
                | (rw [wX]; exact V.iH iI dK Vu.f11.f11.f11.f11.f11.f11.f11.f11.f11.f11.f11)
            · (try simp only [aK] at h23)
              have wX := kV rC hon hrun h23
              refine gX (nM O (gy fD O ?_))
              refine ⟨O, ?_⟩
              first
                | exact absurd (hw2.symm.trans hwh) (by decide)
                | exact absurd (hwh.symm.trans hw2) (by decide)
                | (rw [wX]; exact V.iH iI dK ZU.f11.f11.f11.f11.f11.f11.f11.f11.f11.f11.f11)
          · (try simp only [aK] at h22)
            have hrun : (s.typed && (!s.put.isEmpty || s.c.run)) = (s1.dJ on).c.run := by first | exact absurd (hw2.symm.trans hwh) (by decide) | (rw [rU, decide_eq_true (show s.put.length = 0 by omega), hty, BO, hr1]; rfl)
            refine bK (dn O (bK (dA O (bK (Z 0 aj O aU O (bK (Z 10 aJ O aN O (bK (dL bf O (iJ).get.2 O (bK (lH O O (nX O O (dA O (Z 0 aj O aU O (Z 10 aJ O aN O (aC (fU 10 iJ aN) ?_))))))))))))))))
            rintro _ w51 H51
            refine pG O (lM O O (Z 28 aj O ah O (dL ay O (H51).get.2 O (dA O (Z 0 aj O aU O (Z 6 aJ O ah O (aC (fU 6 H51 ah) ?_)))))))
            rintro _ w52 H52
            refine qJ (bY O (dA O (Z 28 aj O ah O (dL ay O (H52).get.2 O (aZ (fF O O) (kE O (fun h24 => ?_) (fun h24 => ?_)))))))
            · (try simp only [aK] at h24)
              have wX := mJ rC hon hrun h24
              refine aB (jw O O (dA O (Z 0 aj O aU O (Z 7 aJ O ah O (aC (fU 7 H52 ah) ?_)))))
              rintro _ w53 H53
              refine dA O (Z 0 aj O aU O (Z 8 aJ O ah O (aC (fU 8 H53 ah) ?_)))
              rintro _ w54 H54
              refine iF (nM O (gy fD O ?_))
              refine ⟨O, ?_⟩
              first
                | exact absurd (hw2.symm.trans hwh) (by decide)
                | exact absurd (hwh.symm.trans hw2) (by decide)
                | (rw [wX]; exact V.iH iI dK H54.f11.f11.f11.f11.f11.f11.f11.f11.f11.f11.f11)
            · (try simp only [aK] at h24)
              have wX := kV rC hon hrun h24
              refine gX (nM O (gy fD O ?_))
              refine ⟨O, ?_⟩
              first
                | exact absurd (hw2.symm.trans hwh) (by decide)
                | exact absurd (hwh.symm.trans hw2) (by decide)
                | (rw [wX]; exact V.iH iI dK H52.f11.f11.f11.f11.f11.f11.f11.f11.f11.f11.f11)
        · (try simp only [aK] at h21)
          have hw2 : s.whole = false := by simpa using h21
          have hrun : (s.typed && (!s.put.isEmpty || s.c.run)) = false := by first | exact absurd (hwh.symm.trans hw2) (by decide) | (rw [hty]; rfl)
          refine cZ (cZ (su (su (su (su (su (cZ (lH O O (dA O (Z 0 aj O aU O (Z 10 aJ O aN O (aC (fU 10 iJ aN) ?_))))))))))))
          rintro _ w55 H55
          refine pG O (lM O O (Z 28 aj O ah O (dL ay O (H55).get.2 O (dA O (Z 0 aj O aU O (Z 6 aJ O ah O (aC (fU 6 H55 ah) ?_)))))))
          rintro _ w56 H56
          refine qJ (bY O (dA O (Z 28 aj O ah O (dL ay O (H56).get.2 O (aZ (fF O O) (kE O (fun h25 => ?_) (fun h25 => ?_)))))))
          · (try simp only [aK] at h25)
            have wX := mJ rC hon hrun h25
            refine aB (jw O O (dA O (Z 0 aj O aU O (Z 7 aJ O ah O (aC (fU 7 H56 ah) ?_)))))
            rintro _ w57 H57
            refine dA O (Z 0 aj O aU O (Z 8 aJ O ah O (aC (fU 8 H57 ah) ?_)))
            rintro _ w58 Yv
            refine iF (nM O (gy fD O ?_))
            refine ⟨O, ?_⟩
            first
              | exact absurd (hw2.symm.trans hwh) (by decide)
              | exact absurd (hwh.symm.trans hw2) (by decide)
              | (rw [wX]; exact V.iH iI dK Yv.f11.f11.f11.f11.f11.f11.f11.f11.f11.f11.f11)
          · (try simp only [aK] at h25)
            have wX := kV rC hon hrun h25
            refine gX (nM O (gy fD O ?_))
            refine ⟨O, ?_⟩
            first
              | exact absurd (hw2.symm.trans hwh) (by decide)
              | exact absurd (hwh.symm.trans hw2) (by decide)
              | (rw [wX]; exact V.iH iI dK H56.f11.f11.f11.f11.f11.f11.f11.f11.f11.f11.f11)
      · (try simp only [aK] at h20)
        have hwh : s.whole = false := by simpa using h20
        have hty : s.typed = false := by unfold bP.typed; rw [hc3, hwh]; rfl
        have hrun : (s.typed && (!s.put.isEmpty || s.c.run)) = false := by rw [hty]; rfl
        refine cZ (cZ (cZ (cZ (cZ (lH O O ?_)))))
        have hwo := AY (Aq.f11)
        have afk := Aq.f11.right
        have HW0 := V.Fa (c := s.was) (u := [uY, uZ, vk, vw, vC, vF, vG, vH, vI, vJ, vK]) afk hwo
        obtain ⟨s1, rC, YK⟩ : ∃ s1, s1 = s.jF ∧ V w0 (w3.drew) (iL e s1 • F) := ⟨_, hs1, V.iH (hs1 ▸ wW iI) dK HW0.f11.f11.f11.f11.f11.f11.f11.f11.f11.f11⟩
        have hr1 : s1.c.run = s.c.run := by rw [rC]; unfold bP.jF; split <;> rfl
        refine fO O func43 (tC YK) ?_
        rintro _ w60 H60
        obtain ⟨on, hon, HZ⟩ : ∃ on, (s.typed && s.c.run) = on ∧ V w0 w60 (iL e (s1.dJ on) • F) := ⟨_, by rw [hty]; rfl, H60⟩
        refine qJ ?_
        obtain ⟨yD, yE, yF, yG, yH, yI, yJ, yK, wI, uY, uZ, vk, vw, vC, vF, vG, vH, vI, vJ, vK, iI, dK, mF, iJ⟩ := (HZ).JO
        refine aB (jw O O (qG O (fun h26 => ?_) (fun h26 => ?_)))
        · (try simp only [aK] at h26)
          have hw2 : s.whole = true := h26
          refine bK (dn O (bK (qG O (fun h27 => ?_) (fun h27 => ?_))))
          · (try simp only [aK] at h27)
            have hrun : (s.typed && (!s.put.isEmpty || s.c.run)) = true := by first | exact absurd (hw2.symm.trans hwh) (by decide) | (rw [rU, decide_eq_false (show ¬ s.put.length = 0 by omega), hty]; rfl)
            refine cZ (cZ (cZ (cZ (cZ (bK (nX O O (nX O O (dA O (Z 0 aj O aU O (Z 10 aJ O aN O (aC (fU 10 iJ aN) ?_)))))))))))
            rintro _ w62 H62
            refine pG O (lM O O (Z 28 aj O ah O (dL ay O (H62).get.2 O (dA O (Z 0 aj O aU O (Z 6 aJ O ah O (aC (fU 6 H62 ah) ?_)))))))
            rintro _ w63 H63
            refine qJ (bY O (dA O (Z 28 aj O ah O (dL ay O (H63).get.2 O (aZ (fF O O) (kE O (fun h28 => ?_) (fun h28 => ?_)))))))
            · (try simp only [aK] at h28)
              have wX := mJ rC hon hrun h28
              refine aB (jw O O (dA O (Z 0 aj O aU O (Z 7 aJ O ah O (aC (fU 7 H63 ah) ?_)))))
              rintro _ w64 H64
              refine dA O (Z 0 aj O aU O (Z 8 aJ O ah O (aC (fU 8 H64 ah) ?_)))
              rintro _ w65 H65
              refine iF (nM O (gy fD O ?_))
              refine ⟨O, ?_⟩
              first
                | exact absurd (hw2.symm.trans hwh) (by decide)
                | exact absurd (hwh.symm.trans hw2) (by decide)
                | (rw [wX]; exact V.iH iI dK H65.f11.f11.f11.f11.f11.f11.f11.f11.f11.f11.f11)
            · (try simp only [aK] at h28)
              have wX := kV rC hon hrun h28
              refine gX (nM O (gy fD O ?_))
              refine ⟨O, ?_⟩
              first
                | exact absurd (hw2.symm.trans hwh) (by decide)
                | exact absurd (hwh.symm.trans hw2) (by decide)
                | (rw [wX]; exact V.iH iI dK H63.f11.f11.f11.f11.f11.f11.f11.f11.f11.f11.f11)
          · (try simp only [aK] at h27)
            have hrun : (s.typed && (!s.put.isEmpty || s.c.run)) = (s1.dJ on).c.run := by first | exact absurd (hw2.symm.trans hwh) (by decide) | (rw [rU, decide_eq_true (show s.put.length = 0 by omega), hty, BO, hr1]; rfl)
            refine bK (dn O (bK (dA O (bK (Z 0 aj O aU O (bK (Z 10 aJ O aN O (bK (dL bf O (iJ).get.2 O (bK (lH O O (nX O O (dA O (Z 0 aj O aU O (Z 10 aJ O aN O (aC (fU 10 iJ aN) ?_))))))))))))))))
            rintro _ w66 H66
            refine pG O (lM O O (Z 28 aj O ah O (dL ay O (H66).get.2 O (dA O (Z 0 aj O aU O (Z 6 aJ O ah O (aC (fU 6 H66 ah) ?_)))))))
            rintro _ w67 H67
            refine qJ (bY O (dA O (Z 28 aj O ah O (dL ay O (H67).get.2 O (aZ (fF O O) (kE O (fun h29 => ?_) (fun h29 => ?_)))))))
            · (try simp only [aK] at h29)
              have wX := mJ rC hon hrun h29
              refine aB (jw O O (dA O (Z 0 aj O aU O (Z 7 aJ O ah O (aC (fU 7 H67 ah) ?_)))))
              rintro _ w68 H68
              refine dA O (Z 0 aj O aU O (Z 8 aJ O ah O (aC (fU 8 H68 ah) ?_)))
              rintro _ w69 H69
              refine iF (nM O (gy fD O ?_))
              refine ⟨O, ?_⟩
              first
                | exact absurd (hw2.symm.trans hwh) (by decide)
                | exact absurd (hwh.symm.trans hw2) (by decide)
                | (rw [wX]; exact V.iH iI dK H69.f11.f11.f11.f11.f11.f11.f11.f11.f11.f11.f11)
            · (try simp only [aK] at h29)
              have wX := kV rC hon hrun h29
              refine gX (nM O (gy fD O ?_))
              refine ⟨O, ?_⟩
              first
                | exact absurd (hw2.symm.trans hwh) (by decide)
                | exact absurd (hwh.symm.trans hw2) (by decide)
                | (rw [wX]; exact V.iH iI dK H67.f11.f11.f11.f11.f11.f11.f11.f11.f11.f11.f11)
        · (try simp only [aK] at h26)
          have hw2 : s.whole = false := by simpa using h26
          have hrun : (s.typed && (!s.put.isEmpty || s.c.run)) = false := by first | exact absurd (hwh.symm.trans hw2) (by decide) | (rw [hty]; rfl)
          refine cZ (cZ (su (su (su (su (su (cZ (lH O O (dA O (Z 0 aj O aU O (Z 10 aJ O aN O (aC (fU 10 iJ aN) ?_))))))))))))
          rintro _ w70 H70
          refine pG O (lM O O (Z 28 aj O ah O (dL ay O (H70).get.2 O (dA O (Z 0 aj O aU O (Z 6 aJ O ah O (aC (fU 6 H70 ah) ?_)))))))
          rintro _ w71 H71
          refine qJ (bY O (dA O (Z 28 aj O ah O (dL ay O (H71).get.2 O (aZ (fF O O) (kE O (fun h30 => ?_) (fun h30 => ?_)))))))
          · (try simp only [aK] at h30)
            have wX := mJ rC hon hrun h30
            refine aB (jw O O (dA O (Z 0 aj O aU O (Z 7 aJ O ah O (aC (fU 7 H71 ah) ?_)))))
            rintro _ w72 H72
            refine dA O (Z 0 aj O aU O (Z 8 aJ O ah O (aC (fU 8 H72 ah) ?_)))
            rintro _ w73 H73
            refine iF (nM O (gy fD O ?_))
            refine ⟨O, ?_⟩
            first
              | exact absurd (hw2.symm.trans hwh) (by decide)
              | exact absurd (hwh.symm.trans hw2) (by decide)
              | (rw [wX]; exact V.iH iI dK H73.f11.f11.f11.f11.f11.f11.f11.f11.f11.f11.f11)
          · (try simp only [aK] at h30)
            have wX := kV rC hon hrun h30
            refine gX (nM O (gy fD O ?_))
            refine ⟨O, ?_⟩
            first
              | exact absurd (hw2.symm.trans hwh) (by decide)
              | exact absurd (hwh.symm.trans hw2) (by decide)
              | (rw [wX]; exact V.iH iI dK H71.f11.f11.f11.f11.f11.f11.f11.f11.f11.f11.f11)
    · (try simp only [aK] at h19)
      have hty : s.typed = false := by unfold bP.typed; rw [beq_false_of_ne h19]; rfl
      have hrun : (s.typed && (!s.put.isEmpty || s.c.run)) = false := by rw [hty]; rfl
      refine Iy 6 O O O O (by kernel_rfl) (by kernel_rfl) jh (nD O) ?_
      refine Iy 7 O O O O (by kernel_rfl) (by kernel_rfl) jh (nD O) ?_
      refine Iy 8 O O O O (by kernel_rfl) (by kernel_rfl) jh (nD O) ?_
      refine Iy 9 O O O O (by kernel_rfl) (by kernel_rfl) jh (nD O) ?_
      refine jR 10 O jh (fun _ => J6 O O) (gK 11 O jh O (jL 12 O jh O (fH 13 O jh 33 aj O bn O (iY 14 O jh (fun W hW => jQ aQ O ((Kp.h hW)).get.2 O) (jR 15 O jh (fun _ => fA ((Aq.f9).aG) aQ O) (jR 16 O jh (fun _ => gG O O) (jR 17 O jh (fun _ => iV O) (jR 18 O jh (fun _ => iV O) (qN (bC (bY O (jw O O (cZ (cZ (cZ (cZ (cZ (lH O O ?_))))))))))))))))))
      have hwo := AY (Aq.f11)
      have afl := Aq.f11.right
      have HW0 := V.Fa (c := s.was) (u := [uY, uZ, vk, vw, vC, vF, vG, vH, vI, vJ, vK]) afl hwo
      obtain ⟨s1, rC, YK⟩ : ∃ s1, s1 = s.jF ∧ V w0 (w3.drew) (iL e s1 • F) := ⟨_, hs1, V.iH (hs1 ▸ wW iI) dK HW0.f11.f11.f11.f11.f11.f11.f11.f11.f11.f11⟩
      have hr1 : s1.c.run = s.c.run := by rw [rC]; unfold bP.jF; split <;> rfl
      refine fO O func43 (tC YK) ?_
      rintro _ w75 H75
      obtain ⟨on, hon, HZ⟩ : ∃ on, (s.typed && s.c.run) = on ∧ V w0 w75 (iL e (s1.dJ on) • F) := ⟨_, by rw [hty]; rfl, H75⟩
      refine qJ ?_
      obtain ⟨yD, yE, yF, yG, yH, yI, yJ, yK, wI, uY, uZ, vk, vw, vC, vF, vG, vH, vI, vJ, vK, iI, dK, mF, iJ⟩ := (HZ).JO
      refine aB (jw O O (dn O (cZ (cZ (su (su (su (su (su (cZ (lH O O (dA O (Z 0 aj O aU O (Z 10 aJ O aN O (aC (fU 10 iJ aN) ?_)))))))))))))))
      rintro _ w77 H77
      refine pG O (lM O O (Z 28 aj O ah O (dL ay O (H77).get.2 O (dA O (Z 0 aj O aU O (Z 6 aJ O ah O (aC (fU 6 H77 ah) ?_)))))))
      rintro _ w78 H78
      refine qJ (bY O (dA O (Z 28 aj O ah O (dL ay O (H78).get.2 O (aZ (fF O O) (kE O (fun h31 => ?_) (fun h31 => ?_)))))))
      · (try simp only [aK] at h31)
        have wX := mJ rC hon hrun h31
        refine aB (jw O O (dA O (Z 0 aj O aU O (Z 7 aJ O ah O (aC (fU 7 H78 ah) ?_)))))
        rintro _ w79 H79
        refine dA O (Z 0 aj O aU O (Z 8 aJ O ah O (aC (fU 8 H79 ah) ?_)))
        rintro _ w80 H80
        refine iF (nM O (gy fD O ?_))
        refine ⟨O, ?_⟩
        first
          | exact absurd (hw2.symm.trans hwh) (by decide)
          | exact absurd (hwh.symm.trans hw2) (by decide)
          | (rw [wX]; exact V.iH iI dK H80.f11.f11.f11.f11.f11.f11.f11.f11.f11.f11.f11)
      · (try simp only [aK] at h31)
        have wX := kV rC hon hrun h31
        refine gX (nM O (gy fD O ?_))
        refine ⟨O, ?_⟩
        first
          | exact absurd (hw2.symm.trans hwh) (by decide)
          | exact absurd (hwh.symm.trans hw2) (by decide)
          | (rw [wX]; exact V.iH iI dK H78.f11.f11.f11.f11.f11.f11.f11.f11.f11.f11.f11)
theorem D8 {s : bP} {x : Int} (hin : s.inn = true) (hx : x ≠ 0) : s.lS x = s.zf ∧ s.Dp x = x := by
  unfold bP.lS bP.Dp
  rw [if_pos hin, if_neg hx, if_pos hin]; exact ⟨rfl, rfl⟩
theorem UE {s : bP} (h : o8 s) (hin : s.inn = true) : o8 s.zf := by
  obtain ⟨h1, h2, h3⟩ := h.2.1 hin
  exact ⟨h1, fun h => Bool.noConfusion h, ⟨by show (-1 : Int) ≤ -1; decide, by show (-1 : Int) ≤ 1000000; decide⟩, by simp [bP.zf], h2, h3⟩
theorem UF (hin : s.inn = true) (hx : x ≠ 0) (H : V w0 w (iL e s • F)) : iQ prog 17 #[.pointer (some ⟨e, 0, none⟩), .int .i64 x] w fun v w' => v = .int .i64 x ∧ V w0 w' (iL e s.zf • F) := by
 have hpe : s.AU = 0 := by unfold bP.AU; rw [if_pos hin]
 refine qQ func17 ntmps17 ?_
 refine kW O (aO (bY O (fO O func32 (sQ H) ?_)))
 rintro _ _ ⟨rfl, rfl⟩
 refine jZ O (bY O (aZ (fF O O) (kE O (fun h => by exfalso; (try simp only [aK] at h); exact h hpe) (fun h1 => ?_))))
 (try simp only [aK] at h1)
 refine gX (aO ?_)
 obtain ⟨yD, yE, yF, yG, yH, yI, yJ, yK, wI, uY, uZ, vk, vw, vC, vF, vG, vH, vI, vJ, vK, iI, dK, mF, iJ⟩ := (H).JO
 have HI := iJ
 rw [hin] at HI
 obtain ⟨qb, qr, qw, qt, qm, hu, HW⟩ := (HI.f11).was
 simp only [Rw, List.cons.injEq, and_true] at hu
 obtain ⟨rfl, rfl, rfl, rfl, rfl, rfl, rfl, rfl, rfl, rfl, rfl⟩ := hu
 refine aB (lM O O (Z 16 aj O aN O (aC (fU 16 HW.f6 aN) ?_)))
 rintro _ w3 H3
 refine qJ (bY O (dA O (Z 31 aj O aN O (dL bf O (H3).get.2 O (aZ (kY O) (qG O (fun h2 => ?_) (fun h2 => ?_)))))))
 ·(try simp only [aK] at h2)
  refine cZ (cZ (nX O O (iF (Ko (aB (jw O O (lM O O (Z 13 aj O aN O (aC (fU 13 H3 aN) ?_)))))))))
  rintro _ w4 H4
  refine dA O (Z 14 aj O aN O (aC (fU 14 H4 aN) ?_))
  rintro _ w5 H5
  refine dA O (Z 15 aj O ah O (aC (fU 15 H5 ah) ?_))
  rintro _ w6 H6
  refine qJ (bY O (aZ (fF O O) (kE O (fun h3 => ?_) (fun h => by exfalso; (try simp only [aK] at h); exact hx h))))
  (try simp only [aK] at h3)
  refine bY O (lM O O (Z 17 aj O aU O (aZ (qX 17 (xs := [_, _, _, _, _, _, _, _, _, _, _]) aJ O aU O O (H6).get.2 O) (dA O (Z 0 aj O aU O (aC (dD 0 (l' := [_, _, _, _, _, _, _, _, _, _, _, _, _, _, _, _, _, _, _, _, _, _, _, _, _, _, _, _, _, _, _, _, _, _]) (us := [_, _, _, _, _, _, _, _, _, _, _]) H6 aU O O O (aH (aH (aH (aH (aH (aH (aH (aH (aH (aH (aH bG))))))))))) O O) ?_))))))
  rintro _ w7 H7
  refine pG O (dA O (Z 12 aj O sizeOf68 O (dL underlying68 O (H7).get.2 O (fO O func42 (Gh H7.f13) ?_))))
  rintro _ w8 ⟨rfl, H8⟩
  refine pG O (jw O O (lM O O (Z 0 aj O aU O (Z 6 aJ O ah O (aC (fU 6 H8.f2 ah) ?_)))))
  rintro _ w9 H9
  refine dA O (Z 0 aj O aU O (Z 7 aJ O ah O (aC (fU 7 H9 ah) ?_)))
  rintro _ w10 rD
  refine dA O (Z 0 aj O aU O (Z 8 aJ O ah O (aC (fU 8 rD ah) ?_)))
  rintro _ Hr rX
  refine dA O (Z 33 aj O bn O (aC (fU 33 rX bn) ?_))
  rintro _ w12 vN
  refine pG O (jP O (aV (gy fD O ?_)))
  exact ⟨O, V.UC (s := s.zf) (UE iI hin) O O vN.f8.right.f8.right.f8.right.f8.right.f8.right.f9.right.f9.right.f2.f8.f8.f8.f8.f8.f8.f8⟩
 ·(try simp only [aK] at h2)
  refine bK (dn O (bK (aZ (fF O O) (lH O O (kE O (fun h4 => ?_) (fun h => by exfalso; (try simp only [aK] at h); exact hx h))))))
  (try simp only [aK] at h4)
  refine aB (jw O O (lM O O (Z 13 aj O aN O (aC (fU 13 H3 aN) ?_))))
  rintro _ TB AB
  refine dA O (Z 14 aj O aN O (aC (fU 14 AB aN) ?_))
  rintro _ Qu AL
  refine dA O (Z 15 aj O ah O (aC (fU 15 AL ah) ?_))
  rintro _ TD Bz
  refine qJ (bY O (aZ (fF O O) (kE O (fun h5 => ?_) (fun h => by exfalso; (try simp only [aK] at h); exact hx h))))
  (try simp only [aK] at h5)
  refine bY O (lM O O (Z 17 aj O aU O (aZ (qX 17 (xs := [_, _, _, _, _, _, _, _, _, _, _]) aJ O aU O O (Bz).get.2 O) (dA O (Z 0 aj O aU O (aC (dD 0 (l' := [_, _, _, _, _, _, _, _, _, _, _, _, _, _, _, _, _, _, _, _, _, _, _, _, _, _, _, _, _, _, _, _, _, _]) (us := [_, _, _, _, _, _, _, _, _, _, _]) Bz aU O O O (aH (aH (aH (aH (aH (aH (aH (aH (aH (aH (aH bG))))))))))) O O) ?_))))))
  rintro _ w16 wE
  refine pG O (dA O (Z 12 aj O sizeOf68 O (dL underlying68 O (wE).get.2 O (fO O func42 (Gh wE.f13) ?_))))
  rintro _ ZQ ⟨rfl, Dh⟩
  refine pG O (jw O O (lM O O (Z 0 aj O aU O (Z 6 aJ O ah O (aC (fU 6 Dh.f2 ah) ?_)))))
  rintro _ Xv Ef
  refine dA O (Z 0 aj O aU O (Z 7 aJ O ah O (aC (fU 7 Ef ah) ?_)))
  rintro _ Xw zN
  refine dA O (Z 0 aj O aU O (Z 8 aJ O ah O (aC (fU 8 zN ah) ?_)))
  rintro _ XM Ci
  refine dA O (Z 33 aj O bn O (aC (fU 33 Ci bn) ?_))
  rintro _ Xx tK
  refine pG O (jP O (aV (gy fD O ?_)))
  exact ⟨O, V.UC (s := s.zf) (UE iI hin) O O tK.f8.right.f8.right.f8.right.f8.right.f8.right.f9.right.f9.right.f2.f8.f8.f8.f8.f8.f8.f8⟩
theorem LJ (H : V w0 w (iL e s • F)) : iQ prog 17 #[.pointer (some ⟨e, 0, none⟩), .int .i64 x] w fun v w' => v = .int .i64 (s.Dp x) ∧ V w0 w' (iL e (s.lS x) • F) := by
  by_cases hin : s.inn = true
  · by_cases hx : x = 0
    · subst hx
      rw [show s.lS 0 = s.kK from by unfold bP.lS; rw [if_pos hin, if_pos rfl], show s.Dp 0 = 0 from by unfold bP.Dp; rw [if_pos hin]]
      exact RY hin H
    · rw [(D8 hin hx).1, (D8 hin hx).2]
      exact UF hin hx H
  · have hin' : s.inn = false := by simpa using hin
    have hpe : s.AU = 1 := by unfold bP.AU; rw [if_neg hin]
    rw [show s.lS x = s from by unfold bP.lS; rw [if_neg hin], show s.Dp x = 1 from by unfold bP.Dp; rw [if_neg hin]]
    refine qQ func17 ntmps17 ?_
    refine kW O (aO (bY O (fO O func32 (sQ H) ?_)))
    rintro _ _ ⟨rfl, rfl⟩
    refine jZ O (bY O (aZ (fF O O) (kE O (fun h1 => ?_) (fun h => by exfalso; (try simp only [aK] at h); rw [hpe] at h; exact absurd h (by decide)))))
    (try simp only [aK] at h1)
    refine bY O (jP O (aV (gy fD O ?_)))
    rw [hpe]
    exact ⟨O, H⟩
end
end Go.Proofs.YtnhhmieghbfalaaGreat
end
section
namespace Go.Proofs.YtnhhmieghbfalaaGreat
open Go.RowKit
theorem acd {s : bP} (h : o8 s) {G : List (List iO)} (h1 : fQ G s.put ≤ fQ s.here s.put) (h2 : ∀ g ∈ G, g ∈ s.here) : o8 (s.lG G) := by
  obtain ⟨a1, a2, a3, a4, a5, a6⟩ := h
  refine ⟨a1, a2, a3, a4, ?_, ?_⟩
  · show fQ (uq s.c.un s.c.place G s.c.place) s.put ≤ 16384
    rw [gW]; omega
  · intro k g hg
    have hg' : g ∈ uq s.c.un s.c.place G k := hg
    by_cases hk : k = s.c.place
    · subst hk; rw [gW] at hg'; exact a6 _ g (h2 g hg')
    · rw [uw _ _ hk] at hg'; exact a6 k g hg'
section
variable {w0 w : World} {F : HP} {e p : Nat} {s : bP} {x : Int}
end
structure EH where
  kd : Int
  a : Int
  b : Int
  back : Bool
  text : List Int
structure Gm where
  kd : Int
  a : Int
  b : Int
  back : Bool
  v : Value
  text : List Int
instance : Inhabited Gm := ⟨⟨0, 0, 0, false, .slice none 0 0, []⟩⟩
def Gm.enc (p : Gm) : List Value := [.int .i64 p.kd, .int .i64 p.a, .int .i64 p.b, .bool p.back, p.v]
theorem Gm.DY (p : Gm) : p.enc.length = 5 := rfl
def Gm.m (p : Gm) : EH := ⟨p.kd, p.a, p.b, p.back, p.text⟩
def Gm.Reads (W : World) (p : Gm) : Prop := oL W .i32 p.v p.text ∧ p.text.length ≤ 35184372087808
def bP.edit (s : bP) (p : EH) : bP :=
  if p.kd = 0 then s.mW p.text else
  if p.kd = 1 then s.Am p.text else
  if p.kd = 2 then s.iR p.a p.b [] else
  if p.kd = 3 then s.iR p.a p.b p.text else
  if p.kd = 4 then s.sO p.a p.b p.back else
  if p.kd = 5 then s.qB p.a p.b p.back else
  if p.kd = 6 then s.zW else
  if p.kd = 7 then s.adp p.a else
  if p.kd = 8 then s.Ri p.a else
  if p.kd = 9 then s.aa5 p.a else
  if p.kd = 10 then s.aa6 else
  if p.kd = 11 then s.zY else
  if p.kd = 17 then s.aa8 p.a else s
section
variable {w0 w : World} {F : HP} {e : Nat} {s : bP} {v : Value} {p : EH}
end
def sS (e : TypeId) (k : IntKind) : List Value → List (List Int) → HP
  | [], [] => emp
  | v :: vs, l :: ls => jg e k v l • sS e k vs ls
  | _, _ => fact False
section
variable {w0 w : World} {F : HP} {e : TypeId} {k : IntKind} {v : Value} {l : List Int}
theorem V.YL (H : V w0 w F) : V w0 w (sS e k [] [] • F) := H.O4
theorem V.Gn : ∀ {vs : List Value} {ls : List (List Int)} {F : HP}, V w0 w (sS e k vs ls • F) → vs.length = ls.length
  | [], [], _, _ => rfl
  | v :: vs, l :: ls, _, H => by simpa using V.Gn (V.right (V.flat H))
  | [], _ :: _, _, H => absurd H.fact.1 id
  | _ :: _, [], _, H => absurd H.fact.1 id
theorem yU : ∀ (vs : List Value) (ls : List (List Int)), (sS e k vs ls • jg e k v l) = sS e k (vs ++ [v]) (ls ++ [l])
  | [], [] => by show (emp • jg e k v l) = (jg e k v l • emp); rw [yX]
  | u :: vs, m :: ls => by
    show ((jg e k u m • sS e k vs ls) • jg e k v l) = (jg e k u m • sS e k (vs ++ [v]) (ls ++ [l]))
    rw [dI, yU vs ls]
  | [], m :: ls => by
    apply HP.ext; funext I h; apply propext
    constructor
    · intro hp; exact absurd ((CU _ _ _ _).1 hp).1 id
    · intro hp
      cases ls with
      | nil => exact absurd (show False by obtain ⟨_, _, _, _, _, hb⟩ := hp; exact hb.1) id
      | cons x y => exact absurd (show False by obtain ⟨_, _, _, _, _, hb⟩ := hp; exact hb.1) id
  | u :: vs, [] => by
    apply HP.ext; funext I h; apply propext
    constructor
    · intro hp; exact absurd ((CU _ _ _ _).1 hp).1 id
    · intro hp
      cases vs with
      | nil => exact absurd (show False by obtain ⟨_, _, _, _, _, hb⟩ := hp; exact hb.1) id
      | cons x y => exact absurd (show False by obtain ⟨_, _, _, _, _, hb⟩ := hp; exact hb.1) id
theorem V.yU {vs : List Value} {ls : List (List Int)} (H : V w0 w (sS e k vs ls • jg e k v l • F)) : V w0 w (sS e k (vs ++ [v]) (ls ++ [l]) • F) := H.deep.of_eq (by rw [Go.Proofs.YtnhhmieghbfalaaGreat.yU])
theorem V.D9 : ∀ {vs : List Value} {ls : List (List Int)} {F : HP} {j : Nat}, V w0 w (sS e k vs ls • F) → j < ls.length →
    ∃ R : HP, V w0 w (jg e k (vs.getD j undef) (ls.getD j []) • R • F) ∧ ∀ l' w' F', V w0 w' (jg e k (vs.getD j undef) l' • R • F') → V w0 w' (sS e k vs (ls.set j l') • F')
  | [], [], _, j, _, hj => by simp at hj
  | v :: vs, l :: ls, F, 0, H, _ => ⟨sS e k vs ls, H.flat, fun l' w' F' H' => H'.deep⟩
  | v :: vs, l :: ls, F, j + 1, H, hj => by
    obtain ⟨R, h1, h2⟩ := V.D9 (j := j) H.flat.swap (by simpa using hj)
    refine ⟨R • jg e k v l, by simpa [dI] using h1, fun l' w' F' H' => ?_⟩
    have := h2 l' w' (jg e k v l • F') (H'.of_eq (by simp only [List.getD_cons_succ]; ac_rfl))
    exact this.swap.deep
  | [], _ :: _, _, _, H, _ => absurd H.fact.1 id
  | _ :: _, [], _, _, H, _ => absurd H.fact.1 id
theorem V.Gp {vs : List Value} {ls : List (List Int)} {j : Nat} (H : V w0 w (sS e k vs ls • F)) (hj : j < ls.length) : oL w k (vs.getD j undef) (ls.getD j []) := by
  obtain ⟨R, h, _⟩ := H.D9 hj
  exact h.aG
theorem V.Ea {vs : List Value} {ls : List (List Int)} (H : V w0 w (sS e k vs ls • F)) : ∀ u ∈ vs, u.oneCell' = true := by
  intro u hu
  obtain ⟨j, hj, rfl⟩ := List.getElem_of_mem hu
  have := (H.Gp (j := j) (by rw [← H.Gn]; exact hj)).one
  rwa [List.getD_eq_getElem?_getD, List.getElem?_eq_getElem hj] at this
end
end Go.Proofs.YtnhhmieghbfalaaGreat
end
section
namespace Go.Proofs.YtnhhmieghbfalaaGreat
open Go.RowKit
open _root_.Go.Proofs.Tryz
section
variable {w0 w : World} {F : HP} {e p ph pw pt pr pm : Nat} {s : bP} {k x place : Int} {hl : List o7} {base most : Int} {tx : Int → Option ByteArray} {v : Value}
theorem RZ (H : V w0 w (iP p hl base most • F)) : iQ prog 130 #[.pointer (some ⟨p, 0, none⟩), .int .i64 k] w fun v w' =>
  v = .tuple #[.agg #[.string (Rh hl k).1, .int .i64 (Rh hl k).2], .bool (decide (0 ≤ k ∧ k < hl.length))] ∧ V w0 w' (iP p hl base most • F) := by
 have hb : hl.length ≤ 4096 := by obtain ⟨v, h, _⟩ := H.hist; exact h.1
 refine qQ func130 ntmps130 ?_
 refine lQ (jW (gq (l := [_, _]) H mg O) ?_)
 rintro _ w1 ⟨b1, rfl, H1⟩
 refine uK O (bY O (aZ (iE O O) (qG O (fun h1 => ?_) (fun h1 => ?_))))
 ·(try simp only [aK] at h1)
  refine cZ (cZ (cZ (cZ (nX O O (iF (Ko (lQ (aZ (fC (zl := [.string .empty, .int .i64 0]) (pl := [(0, 1), (1, 1)]) [_, _] iU mg O (fun w => by kernel_rfl) O (.zero (zs := [.string .empty]) O (.zero (zs := [.int .i64 0]) O .nil)) O) (aC (dD 0 (l' := [_, _]) (us := [_, _]) H1 jX O O O (aH (aH bG)) O O) ?_)))))))))
  rintro _ w2 H2
  refine jP O (aV ?_)
  refine qO (.inl O) (U6 results130 O O iU O (by rw [YM]; rfl) (H2).get.2) ?_
  exact ⟨by unfold Rh; rw [if_neg (by omega), decide_eq_false (by omega)], H2.right⟩
 ·(try simp only [aK] at h1)
  refine bK (dn O (bK (dn O (bK (fO O func97 (ru H1.f2) ?_)))))
  rintro _ w3 ⟨rfl, H3⟩
  refine bK (aZ (Cc O O) (lH O O (kE O (fun h2 => ?_) (fun h2 => ?_))))
  ·(try simp only [aK] at h2)
   refine lQ (aZ (fC (zl := [.string .empty, .int .i64 0]) (pl := [(0, 1), (1, 1)]) [_, _] iU mg O (fun w => by kernel_rfl) O (.zero (zs := [.string .empty]) O (.zero (zs := [.int .i64 0]) O .nil)) O) (aC (dD 0 (l' := [_, _]) (us := [_, _]) H3.f2 jX O O O (aH (aH bG)) O O) ?_))
   rintro _ w4 H4
   refine jP O (aV ?_)
   refine qO (.inl O) (U6 results130 O O iU O (by rw [YM]; rfl) (H4).get.2) ?_
   exact ⟨by unfold Rh; rw [if_neg (by omega), decide_eq_false (by omega)], H4.right⟩
  ·(try simp only [aK] at h2)
   refine gX (aO ?_)
   obtain ⟨m, rfl⟩ := Int.eq_ofNat_of_zero_le (show 0 ≤ k by omega)
   obtain ⟨PO, uX, xH⟩ := (H3).hist
   refine aB (lM O O (Z 0 ig O mD O (Z 0 iq O jJ O (dL bZ O (xH).get.2 O (dn O ?_)))))
   obtain ⟨adG, adH, adI, YN⟩ := Rd.qP ((xH.f2).aG) (by omega)
   cases YN
   refine aZ (eG bZ jX O O (by omega)) (aZ (mV (ys := [_, _]) ((xH.f2).aG) (by omega) iU O jX O (mM yR (by omega) default) O) (aC (dD 0 (l' := [_, _]) (us := [_, _]) xH.f3 jX O O O (aH (aH bG)) O O) ?_))
   rintro _ w6 H6
   refine jP O ?_
   refine qO (.inl O) (U6 results130 O O iU O (by rw [YM]; rfl) (H6).get.2) ?_
   have YD := H6.f3.f3
   have TF := V.DZ uX YD
   exact ⟨by unfold Rh; rw [if_pos (by omega), decide_eq_true (by omega)]; rfl, TF.f2.right⟩
theorem Gq {x0 x1 x2 x3 x4 x5 x6 x7 x8 x9 x10 x12 tZ x14 x15 x16 x17 x18 x19 x20 x21 uD x23 x24 x25 uI x27 x28 x29 x30 x31 x32 vM : Value} (H : V w0 w (eF e (.cells (x0 :: x1 :: x2 :: x3 :: x4 :: x5 :: x6 :: x7 :: x8 :: x9 :: x10 :: .pointer (some ⟨ph, 0, none⟩) :: x12 :: tZ :: x14 :: x15 :: x16 :: x17 :: x18 :: x19 :: x20 :: x21 :: uD :: x23 :: x24 :: x25 :: uI :: x27 :: x28 :: x29 :: x30 :: x31 :: x32 :: vM :: []).toArray 71 (0, 0)) • iP ph hl base most • F)) : iQ prog 99 #[.pointer (some ⟨e, 0, none⟩), .int .i64 k] w fun v w' =>
    v = .string (yB hl k) ∧ V w0 w' (eF e (.cells (x0 :: x1 :: x2 :: x3 :: x4 :: x5 :: x6 :: x7 :: x8 :: x9 :: x10 :: .pointer (some ⟨ph, 0, none⟩) :: x12 :: tZ :: x14 :: x15 :: x16 :: x17 :: x18 :: x19 :: x20 :: x21 :: uD :: x23 :: x24 :: x25 :: uI :: x27 :: x28 :: x29 :: x30 :: x31 :: x32 :: vM :: []).toArray 71 (0, 0)) • iP ph hl base most • F) := by
  refine qQ func99 ntmps99 ?_
  refine kW O (bY O (dA O (Z 11 aj O sizeOf45 O (dL nS O (H).get.2 O (dn O (fO O func130 (RZ H.f2) ?_))))))
  rintro _ w1 ⟨rfl, H1⟩
  refine dn O (xZ O O (xZ O O (jW (gq (l := [_, _]) H1 mg O) ?_)))
  rintro _ w2 ⟨b2, rfl, H2⟩
  refine aC (dD 0 (l' := [_, _]) (us := [_, _]) H2 jX O O O (aH (aH bG)) O O) ?_
  rintro _ w3 H3
  refine jZ O (lQ (Z 0 iU O qV O (dL lD O (H3).get.2 O (jP O (gy results99 O ?_)))))
  exact ⟨O, H3.right.f2⟩
theorem WM {t : ByteArray} (h : tx k = some t) : (wu tx k).getD (.string .empty) = .string t ∧ (wu tx k).isSome = true := by unfold wu; rw [h]; exact ⟨rfl, rfl⟩
theorem IV : (wu tx k).isSome = (tx k).isSome := by unfold wu; cases tx k <;> rfl
theorem Ar {x0 x1 x3 x4 x5 x6 x7 x8 x9 x10 x12 tZ x14 x15 x16 x17 x18 x19 x20 x21 uD x23 x24 x25 uI x27 x28 x29 x30 x31 x32 vM : Value} (H : V w0 w (eF e (.cells (x0 :: x1 :: .pointer (some ⟨pw, 0, none⟩) :: x3 :: x4 :: x5 :: x6 :: x7 :: x8 :: x9 :: x10 :: .pointer (some ⟨ph, 0, none⟩) :: x12 :: tZ :: x14 :: x15 :: x16 :: x17 :: x18 :: x19 :: x20 :: x21 :: uD :: x23 :: x24 :: x25 :: uI :: x27 :: x28 :: x29 :: x30 :: x31 :: x32 :: vM :: []).toArray 71 (0, 0)) • eF pw (.cells #[v, .map (some pt)] 97 (0, 0)) • jM uy pt (wu tx) • iP ph hl base most • F)) :
    iQ prog 98 #[.pointer (some ⟨e, 0, none⟩), .int .i64 k] w fun v' w' =>
    v' = .string (iK hl tx k) ∧ V w0 w' (eF e (.cells (x0 :: x1 :: .pointer (some ⟨pw, 0, none⟩) :: x3 :: x4 :: x5 :: x6 :: x7 :: x8 :: x9 :: x10 :: .pointer (some ⟨ph, 0, none⟩) :: x12 :: tZ :: x14 :: x15 :: x16 :: x17 :: x18 :: x19 :: x20 :: x21 :: uD :: x23 :: x24 :: x25 :: uI :: x27 :: x28 :: x29 :: x30 :: x31 :: x32 :: vM :: []).toArray 71 (0, 0)) • eF pw (.cells #[v, .map (some pt)] 97 (0, 0)) • jM uy pt (wu tx) • iP ph hl base most • F) := by
  refine qQ func98 ntmps98 ?_
  refine kW O (aO (bY O (dA O (Z 0 aj O aU O (Z 2 aJ O sizeOf64 O (dL nU O (H).get.2 O (dA O (Z 1 iG O sizeOf95 O (dL underlying95 O (H.f2).get.2 O (dn O (aZ (Rn (H.f3) underlying95 ay zeroValue9 O O) (dn O (xZ O O (xZ O O (oD O (jZ O (bY O (kE O (fun h1 => ?_) (fun h1 => ?_)))))))))))))))))))
  · (try simp only [aK] at h1)
    obtain ⟨tt, htt⟩ := Option.isSome_iff_exists.1 (IV (tx := tx) ▸ h1)
    refine bY O (jP O (aV (gy results98 O ?_)))
    exact ⟨by unfold iK; rw [htt]; show (wu tx k).getD (.string .empty) = _; rw [(WM htt).1]; rfl, H.f4.f4.f4.f4⟩
  · (try simp only [aK] at h1)
    have htt : tx k = none := by have := IV (tx := tx) (k := k) ▸ h1; simpa using this
    refine gX (bY O (dn O (fO O func99 (Gq H.f4.f2) ?_)))
    rintro _ w1 ⟨rfl, H1⟩
    refine jP O (gy results98 O ?_)
    exact ⟨by unfold iK; rw [htt]; rfl, H1.f2.f4.f4.f4⟩
end
end Go.Proofs.YtnhhmieghbfalaaGreat
end
