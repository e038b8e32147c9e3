import Derived.Test.YtpdeedplgmbopaaGreatDoorZ4
import Derived.Test.YtpdeedplgmbopaaGreatDoorZ15
import Derived.Test.YtpdeedplgmbopaaGreatDoorZ7
set_option linter.unusedSimpArgs false
set_option linter.unusedVariables false
/- Texts of mine, joined, their names in short: EdE EdU Owns EdS. -/
section
namespace Go.Proofs.YtpdeedplgmbopaaGreatDoor
open Go.RowKit
open _root_.Go.Proofs.Tryz
theorem BN (s : bC) (on : Bool) : (s.fM on).c.run = s.c.run := by unfold bC.fM; split <;> rfl
theorem Lj (s : bC) (on : Bool) : (s.fM on).cls = s.cls := by unfold bC.fM; split <;> rfl
theorem kX {s s1 : bC} {on run : Bool} (h1 : s1 = s.jg) (hon : (s.typed && s.c.run) = on) (hrun : (s.typed && (!s.put.isEmpty || s.c.run)) = run) (h2 : (s1.fM on).cls ≠ 2) :
    s.jT = { s1.fM on with c := { (s1.fM on).c with run := run, last := (s1.fM on).cls, fr := 0, to := 0 } } := by
  subst h1 hon hrun
  have hc : (s.jg.fM (s.typed && s.c.run)).cls = s.cls := by rw [Lj]; unfold bC.jg; split <;> rfl
  unfold bC.jT
  rw [hc] at h2 ⊢
  dsimp only
  rw [if_pos h2]
theorem kE {s s1 : bC} {on run : Bool} (h1 : s1 = s.jg) (hon : (s.typed && s.c.run) = on) (hrun : (s.typed && (!s.put.isEmpty || s.c.run)) = run) (h2 : (s1.fM on).cls = 2) :
    s.jT = { s1.fM on with c := { (s1.fM on).c with run := run, last := (s1.fM on).cls } } := by
  subst h1 hon hrun
  have hc : (s.jg.fM (s.typed && s.c.run)).cls = s.cls := by rw [Lj]; unfold bC.jg; split <;> rfl
  unfold bC.jT
  rw [hc] at h2 ⊢
  dsimp only
  rw [if_neg (by omega)]
theorem wQ {s : bC} (h : lI s) : lI s.jg := by
  obtain ⟨h1, h2, h3, h4, h5, h6⟩ := h
  unfold bC.jg
  split
  · exact ⟨h1, fun h => Bool.noConfusion h, h3, h4, h5, h6⟩
  · exact ⟨h1, fun h => Bool.noConfusion h, ⟨by show (-1 : Int) ≤ -1; decide, by show (-1 : Int) ≤ 1000000; decide⟩, h4, h5, h6⟩
theorem qP {l : List jl} : l.isEmpty = decide (l.length = 0) := by cases l <;> rfl
section
variable {w0 w : World} {F : HP} {e p : Nat} {s : bC} {x : Int}
theorem Rz (hin : s.inn = true) (H : V w0 w (fF e s • F)) : iI prog 31 #[.pointer (some ⟨e, 0, none⟩), .int .i64 0] w fun v w' => v = .int .i64 0 ∧ V w0 w' (fF e s.jT • F) := by
  have hpe : s.AU = 0 := by unfold bC.AU; rw [if_pos hin]
  refine oN func31 ntmps31 ?_
  refine jR O (aO (bT O (dS O func81 (ql H) ?_)))
  rintro _ _ ⟨rfl, rfl⟩
  refine fP O (bT O (Z (iM O O) (jL O (fun h => by exfalso; (try simp only [aA] at h); exact h hpe) (fun h1 => ?_))))
  (try simp only [aA] at h1)
  refine gQ (aO ?_)
  obtain ⟨yG, yH, yI, yJ, yK, yL, yM, yN, wu, uK, uM, uN, uO, uP, uQ, uS, uT, uU, uV, uX, iD, dG, kW, iO⟩ := (H).Ii
  refine aC (nK O O (bJ 16 ah O aP O (aI (eU 16 iO aP) ?_)))
  rintro _ w3 H3
  refine qR (bT O (dL O (bJ 31 ah O aP O (fV bZ O (H3).get.2 O (Z (lC O) (jJ O (fun h2 => ?_) (fun h2 => ?_)))))))
  · (try simp only [aA] at h2)
    have har : s.argues = false := by simpa using h2
    have hs1 : ({ s.qX with inn := false } : bC) = s.jg := by unfold bC.jg; rw [if_neg (by simp [har])]
    refine bF (bF (jh O O (iL (C9 (aC (jO O O (nK O O (bJ 13 ah O aP O (aI (eU 13 H3 aP) ?_)))))))))
    rintro _ w4 H4
    refine dL O (bJ 14 ah O aP O (aI (eU 14 H4 aP) ?_))
    rintro _ w5 H5
    refine dL O (bJ 15 ah O ay O (aI (eU 15 H5 ay) ?_))
    rintro _ w6 H6
    refine qR (bT O (Z (iM O O) (iL (PZ O (fun h3 => ?_)))))
    (try simp only [aA] at h3)
    refine gQ (aO ?_)
    have EZ := H6.drew
    have ku := V.kp (EZ.f11.f11.f11.f11.f11.f11.f11.f11.f11.f11.f11)
    refine y9 [3, 9, 14] ku O (iU 0 O ku O (jY 1 O ku O (iq 2 O ku 28 ah O ay O (jQ 3 O ku (fun W hW => kF aH O ((Kp.h hW)).get.2 O) (jB 4 O ku (fun _ => dX O O) ?_)))))
    refine AA 5 O O (by kernel_rfl) (by kernel_rfl) ku (kY O) (fun h4 => ?_) (fun h4 => ?_)
    · (try simp only [aA] at h4)
      have hc3 : s.cls = 3 := h4
      refine dV 6 O O O (by kernel_rfl) (by kernel_rfl) ku (fun _ => sO O) (kY O) ?_
      refine dV 7 O O O (by kernel_rfl) (by kernel_rfl) ku (fun _ => Qc O) (kY O) ?_
      refine dV 8 O O O (by kernel_rfl) (by kernel_rfl) ku (fun _ => F6 32 ah O O aP (by decide) O rfl) (kY O) ?_
      refine xk 9 O O O (by kernel_rfl) (by kernel_rfl) ku (by decide) (fun W hW => fG (dA bZ O) O (kC ((Kp.h hW)).get.2 O)) (kY O) ?_
      refine jB 10 O ku (fun _ => yZ O O) (iU 11 O ku O (jY 12 O ku O (iq 13 O ku 33 ah O bM O (jQ 14 O ku (fun W hW => kF aV O ((Kp.h hW)).get.2 O) (jB 15 O ku (fun _ => kH ((EZ.f9).aQ) aV O) (jB 16 O ku (fun _ => dY O O) (jB 17 O ku (fun _ => dR O) (jB 18 O ku (fun _ => dR O) (ru (aW (bT O (bP O (jJ O (fun h5 => ?_) (fun h5 => ?_))))))))))))))
      · (try simp only [aA] at h5)
        have hwh : s.whole = true := h5
        have hty : s.typed = true := by unfold bC.typed; rw [hc3, hwh]; rfl
        refine bg (bP O (bg (dL O (bg (bJ 0 ah O aU O (bg (bJ 10 aJ O aP O (bg (fV bZ O (EZ).get.2 O (jh O O ?_))))))))))
        have hwo := zx (EZ.f11)
        have Hd7 := EZ.f11.right
        have HW0 := V.FD (c := s.was) (u := [uK, uM, uN, uO, uP, uQ, uS, uT, uU, uV, uX]) Hd7 hwo
        obtain ⟨s1, qE, ZI⟩ : ∃ s1, s1 = s.jg ∧ V w0 (w6.drew) (fF e s1 • F) := ⟨_, hs1, V.iF (hs1 ▸ wQ iD) dG HW0.f11.f11.f11.f11.f11.f11.f11.f11.f11.f11⟩
        have hr1 : s1.c.run = s.c.run := by rw [qE]; unfold bC.jg; split <;> rfl
        refine dS O func84 (sF ZI) ?_
        rintro _ w8 H8
        obtain ⟨on, hon, HZ⟩ : ∃ on, (s.typed && s.c.run) = on ∧ V w0 w8 (fF e (s1.fM on) • F) := ⟨_, by rw [hty]; rfl, H8⟩
        refine qR ?_
        obtain ⟨yG, yH, yI, yJ, yK, yL, yM, yN, wu, uK, uM, uN, uO, uP, uQ, uS, uT, uU, uV, uX, iD, dG, kW, iO⟩ := (HZ).Ii
        refine aC (jO O O (jJ O (fun h6 => ?_) (fun h6 => ?_)))
        · (try simp only [aA] at h6)
          have hw2 : s.whole = true := h6
          refine bg (bP O (bg (jJ O (fun h7 => ?_) (fun h7 => ?_))))
          · (try simp only [aA] at h7)
            have hrun : (s.typed && (!s.put.isEmpty || s.c.run)) = true := by first | exact absurd (hw2.symm.trans hwh) (by decide) | (rw [qP, decide_eq_false (show ¬ s.put.length = 0 by omega), hty]; rfl)
            refine bF (bF (bF (bF (bF (bg (jh O O (jh O O (dL O (bJ 0 ah O aU O (bJ 10 aJ O aP O (aI (eU 10 iO aP) ?_)))))))))))
            rintro _ w10 pW
            refine rZ O (nK O O (bJ 28 ah O ay O (fV aH O (pW).get.2 O (dL O (bJ 0 ah O aU O (bJ 6 aJ O ay O (aI (eU 6 pW ay) ?_)))))))
            rintro _ FX sW
            refine qR (bT O (dL O (bJ 28 ah O ay O (fV aH O (sW).get.2 O (Z (iM O O) (jL O (fun h8 => ?_) (fun h8 => ?_)))))))
            · (try simp only [aA] at h8)
              have wR := kX qE hon hrun h8
              refine aC (jO O O (dL O (bJ 0 ah O aU O (bJ 7 aJ O ay O (aI (eU 7 sW ay) ?_)))))
              rintro _ w12 wL
              refine dL O (bJ 0 ah O aU O (bJ 8 aJ O ay O (aI (eU 8 wL ay) ?_)))
              rintro _ Qs xZ
              refine iL (jP O (dK eH O ?_))
              refine ⟨O, ?_⟩
              first
                | exact absurd (hw2.symm.trans hwh) (by decide)
                | exact absurd (hwh.symm.trans hw2) (by decide)
                | (rw [wR]; exact V.iF iD dG xZ.f11.f11.f11.f11.f11.f11.f11.f11.f11.f11.f11)
            · (try simp only [aA] at h8)
              have wR := kE qE hon hrun h8
              refine gQ (jP O (dK eH O ?_))
              refine ⟨O, ?_⟩
              first
                | exact absurd (hw2.symm.trans hwh) (by decide)
                | exact absurd (hwh.symm.trans hw2) (by decide)
                | (rw [wR]; exact V.iF iD dG sW.f11.f11.f11.f11.f11.f11.f11.f11.f11.f11.f11)
          · (try simp only [aA] at h7)
            have hrun : (s.typed && (!s.put.isEmpty || s.c.run)) = (s1.fM on).c.run := by first | exact absurd (hw2.symm.trans hwh) (by decide) | (rw [qP, decide_eq_true (show s.put.length = 0 by omega), hty, BN, hr1]; rfl)
            refine bg (bP O (bg (dL O (bg (bJ 0 ah O aU O (bg (bJ 10 aJ O aP O (bg (fV bZ O (iO).get.2 O (bg (ig O O (jh O O (dL O (bJ 0 ah O aU O (bJ 10 aJ O aP O (aI (eU 10 iO aP) ?_))))))))))))))))
            rintro _ P6 Az
            refine rZ O (nK O O (bJ 28 ah O ay O (fV aH O (Az).get.2 O (dL O (bJ 0 ah O aU O (bJ 6 aJ O ay O (aI (eU 6 Az ay) ?_)))))))
            rintro _ Qu zI
            refine qR (bT O (dL O (bJ 28 ah O ay O (fV aH O (zI).get.2 O (Z (iM O O) (jL O (fun h9 => ?_) (fun h9 => ?_)))))))
            · (try simp only [aA] at h9)
              have wR := kX qE hon hrun h9
              refine aC (jO O O (dL O (bJ 0 ah O aU O (bJ 7 aJ O ay O (aI (eU 7 zI ay) ?_)))))
              rintro _ w16 uY
              refine dL O (bJ 0 ah O aU O (bJ 8 aJ O ay O (aI (eU 8 uY ay) ?_)))
              rintro _ Yr EH
              refine iL (jP O (dK eH O ?_))
              refine ⟨O, ?_⟩
              first
                | exact absurd (hw2.symm.trans hwh) (by decide)
                | exact absurd (hwh.symm.trans hw2) (by decide)
                | (rw [wR]; exact V.iF iD dG EH.f11.f11.f11.f11.f11.f11.f11.f11.f11.f11.f11)
            · (try simp only [aA] at h9)
              have wR := kE qE hon hrun h9
              refine gQ (jP O (dK eH O ?_))
              refine ⟨O, ?_⟩
              first
                | exact absurd (hw2.symm.trans hwh) (by decide)
                | exact absurd (hwh.symm.trans hw2) (by decide)
                | (rw [wR]; exact V.iF iD dG zI.f11.f11.f11.f11.f11.f11.f11.f11.f11.f11.f11)
        · (try simp only [aA] at h6)
          have hw2 : s.whole = false := by simpa using h6
          have hrun : (s.typed && (!s.put.isEmpty || s.c.run)) = false := by first | exact absurd (hwh.symm.trans hw2) (by decide) | (rw [hty]; rfl)
          refine bF (bF (mY (mY (mY (mY (mY (bF (ig O O (dL O (bJ 0 ah O aU O (bJ 10 aJ O aP O (aI (eU 10 iO aP) ?_))))))))))))
          rintro _ Ym Eb
          refine rZ O (nK O O (bJ 28 ah O ay O (fV aH O (Eb).get.2 O (dL O (bJ 0 ah O aU O (bJ 6 aJ O ay O (aI (eU 6 Eb ay) ?_)))))))
          rintro _ w19 Dl
          refine qR (bT O (dL O (bJ 28 ah O ay O (fV aH O (Dl).get.2 O (Z (iM O O) (jL O (fun h10 => ?_) (fun h10 => ?_)))))))
          · (try simp only [aA] at h10)
            have wR := kX qE hon hrun h10
            refine aC (jO O O (dL O (bJ 0 ah O aU O (bJ 7 aJ O ay O (aI (eU 7 Dl ay) ?_)))))
            rintro _ w20 Di
            refine dL O (bJ 0 ah O aU O (bJ 8 aJ O ay O (aI (eU 8 Di ay) ?_)))
            rintro _ w21 vN
            refine iL (jP O (dK eH O ?_))
            refine ⟨O, ?_⟩
            first
              | exact absurd (hw2.symm.trans hwh) (by decide)
              | exact absurd (hwh.symm.trans hw2) (by decide)
              | (rw [wR]; exact V.iF iD dG vN.f11.f11.f11.f11.f11.f11.f11.f11.f11.f11.f11)
          · (try simp only [aA] at h10)
            have wR := kE qE hon hrun h10
            refine gQ (jP O (dK eH O ?_))
            refine ⟨O, ?_⟩
            first
              | exact absurd (hw2.symm.trans hwh) (by decide)
              | exact absurd (hwh.symm.trans hw2) (by decide)
              | (rw [wR]; exact V.iF iD dG Dl.f11.f11.f11.f11.f11.f11.f11.f11.f11.f11.f11)
      · (try simp only [aA] at h5)
        have hwh : s.whole = false := by simpa using h5
        have hty : s.typed = false := by unfold bC.typed; rw [hc3, hwh]; rfl
        have hrun : (s.typed && (!s.put.isEmpty || s.c.run)) = false := by rw [hty]; rfl
        refine bF (bF (bF (bF (bF (ig O O ?_)))))
        have hwo := zx (EZ.f11)
        have O9 := EZ.f11.right
        have HW0 := V.FD (c := s.was) (u := [uK, uM, uN, uO, uP, uQ, uS, uT, uU, uV, uX]) O9 hwo
        obtain ⟨s1, qE, ZI⟩ : ∃ s1, s1 = s.jg ∧ V w0 (w6.drew) (fF e s1 • F) := ⟨_, hs1, V.iF (hs1 ▸ wQ iD) dG HW0.f11.f11.f11.f11.f11.f11.f11.f11.f11.f11⟩
        have hr1 : s1.c.run = s.c.run := by rw [qE]; unfold bC.jg; split <;> rfl
        refine dS O func84 (sF ZI) ?_
        rintro _ w23 Ce
        obtain ⟨on, hon, HZ⟩ : ∃ on, (s.typed && s.c.run) = on ∧ V w0 w23 (fF e (s1.fM on) • F) := ⟨_, by rw [hty]; rfl, Ce⟩
        refine qR ?_
        obtain ⟨yG, yH, yI, yJ, yK, yL, yM, yN, wu, uK, uM, uN, uO, uP, uQ, uS, uT, uU, uV, uX, iD, dG, kW, iO⟩ := (HZ).Ii
        refine aC (jO O O (jJ O (fun h11 => ?_) (fun h11 => ?_)))
        · (try simp only [aA] at h11)
          have hw2 : s.whole = true := h11
          refine bg (bP O (bg (jJ O (fun h12 => ?_) (fun h12 => ?_))))
          · (try simp only [aA] at h12)
            have hrun : (s.typed && (!s.put.isEmpty || s.c.run)) = true := by first | exact absurd (hw2.symm.trans hwh) (by decide) | (rw [qP, decide_eq_false (show ¬ s.put.length = 0 by omega), hty]; rfl)
            refine bF (bF (bF (bF (bF (bg (jh O O (jh O O (dL O (bJ 0 ah O aU O (bJ 10 aJ O aP O (aI (eU 10 iO aP) ?_)))))))))))
            rintro _ w25 TJ
            refine rZ O (nK O O (bJ 28 ah O ay O (fV aH O (TJ).get.2 O (dL O (bJ 0 ah O aU O (bJ 6 aJ O ay O (aI (eU 6 TJ ay) ?_)))))))
            rintro _ w26 Vo
            refine qR (bT O (dL O (bJ 28 ah O ay O (fV aH O (Vo).get.2 O (Z (iM O O) (jL O (fun h13 => ?_) (fun h13 => ?_)))))))
            · (try simp only [aA] at h13)
              have wR := kX qE hon hrun h13
              refine aC (jO O O (dL O (bJ 0 ah O aU O (bJ 7 aJ O ay O (aI (eU 7 Vo ay) ?_)))))
              rintro _ w27 IW
              refine dL O (bJ 0 ah O aU O (bJ 8 aJ O ay O (aI (eU 8 IW ay) ?_)))
              rintro _ w28 H28
              refine iL (jP O (dK eH O ?_))
              refine ⟨O, ?_⟩
              first
                | exact absurd (hw2.symm.trans hwh) (by decide)
                | exact absurd (hwh.symm.trans hw2) (by decide)
                | (rw [wR]; exact V.iF iD dG H28.f11.f11.f11.f11.f11.f11.f11.f11.f11.f11.f11)
            · (try simp only [aA] at h13)
              have wR := kE qE hon hrun h13
              refine gQ (jP O (dK eH O ?_))
              refine ⟨O, ?_⟩
              first
                | exact absurd (hw2.symm.trans hwh) (by decide)
                | exact absurd (hwh.symm.trans hw2) (by decide)
                | (rw [wR]; exact V.iF iD dG Vo.f11.f11.f11.f11.f11.f11.f11.f11.f11.f11.f11)
          · (try simp only [aA] at h12)
            have hrun : (s.typed && (!s.put.isEmpty || s.c.run)) = (s1.fM on).c.run := by first | exact absurd (hw2.symm.trans hwh) (by decide) | (rw [qP, decide_eq_true (show s.put.length = 0 by omega), hty, BN, hr1]; rfl)
            refine bg (bP O (bg (dL O (bg (bJ 0 ah O aU O (bg (bJ 10 aJ O aP O (bg (fV bZ O (iO).get.2 O (bg (ig O O (jh O O (dL O (bJ 0 ah O aU O (bJ 10 aJ O aP O (aI (eU 10 iO aP) ?_))))))))))))))))
            rintro _ w29 X6
            refine rZ O (nK O O (bJ 28 ah O ay O (fV aH O (X6).get.2 O (dL O (bJ 0 ah O aU O (bJ 6 aJ O ay O (aI (eU 6 X6 ay) ?_)))))))
            rintro _ w30 Vp
            refine qR (bT O (dL O (bJ 28 ah O ay O (fV aH O (Vp).get.2 O (Z (iM O O) (jL O (fun h14 => ?_) (fun h14 => ?_)))))))
            · (try simp only [aA] at h14)
              have wR := kX qE hon hrun h14
              refine aC (jO O O (dL O (bJ 0 ah O aU O (bJ 7 aJ O ay O (aI (eU 7 Vp ay) ?_)))))
              rintro _ w31 SV
              refine dL O (bJ 0 ah O aU O (bJ 8 aJ O ay O (aI (eU 8 SV ay) ?_)))
              rintro _ w32 NH
              refine iL (jP O (dK eH O ?_))
              refine ⟨O, ?_⟩
              first
                | exact absurd (hw2.symm.trans hwh) (by decide)
                | exact absurd (hwh.symm.trans hw2) (by decide)
                | (rw [wR]; exact V.iF iD dG NH.f11.f11.f11.f11.f11.f11.f11.f11.f11.f11.f11)
            · (try simp only [aA] at h14)
              have wR := kE qE hon hrun h14
              refine gQ (jP O (dK eH O ?_))
              refine ⟨O, ?_⟩
              first
                | exact absurd (hw2.symm.trans hwh) (by decide)
                | exact absurd (hwh.symm.trans hw2) (by decide)
                | (rw [wR]; exact V.iF iD dG Vp.f11.f11.f11.f11.f11.f11.f11.f11.f11.f11.f11)
        · (try simp only [aA] at h11)
          have hw2 : s.whole = false := by simpa using h11
          have hrun : (s.typed && (!s.put.isEmpty || s.c.run)) = false := by first | exact absurd (hwh.symm.trans hw2) (by decide) | (rw [hty]; rfl)
          refine bF (bF (mY (mY (mY (mY (mY (bF (ig O O (dL O (bJ 0 ah O aU O (bJ 10 aJ O aP O (aI (eU 10 iO aP) ?_))))))))))))
          rintro _ w33 WI
          refine rZ O (nK O O (bJ 28 ah O ay O (fV aH O (WI).get.2 O (dL O (bJ 0 ah O aU O (bJ 6 aJ O ay O (aI (eU 6 WI ay) ?_)))))))
          rintro _ w34 Y9
          refine qR (bT O (dL O (bJ 28 ah O ay O (fV aH O (Y9).get.2 O (Z (iM O O) (jL O (fun h15 => ?_) (fun h15 => ?_)))))))
          · (try simp only [aA] at h15)
            have wR := kX qE hon hrun h15
            refine aC (jO O O (dL O (bJ 0 ah O aU O (bJ 7 aJ O ay O (aI (eU 7 Y9 ay) ?_)))))
            rintro _ w35 H35
            refine dL O (bJ 0 ah O aU O (bJ 8 aJ O ay O (aI (eU 8 H35 ay) ?_)))
            rintro _ w36 H36
            refine iL (jP O (dK eH O ?_))
            refine ⟨O, ?_⟩
            first
              | exact absurd (hw2.symm.trans hwh) (by decide)
              | exact absurd (hwh.symm.trans hw2) (by decide)
              | (rw [wR]; exact V.iF iD dG H36.f11.f11.f11.f11.f11.f11.f11.f11.f11.f11.f11)
          · (try simp only [aA] at h15)
            have wR := kE qE hon hrun h15
            refine gQ (jP O (dK eH O ?_))
            refine ⟨O, ?_⟩
            first
              | exact absurd (hw2.symm.trans hwh) (by decide)
              | exact absurd (hwh.symm.trans hw2) (by decide)
              | (rw [wR]; exact V.iF iD dG Y9.f11.f11.f11.f11.f11.f11.f11.f11.f11.f11.f11)
    · (try simp only [aA] at h4)
      have hty : s.typed = false := by unfold bC.typed; rw [beq_false_of_ne h4]; rfl
      have hrun : (s.typed && (!s.put.isEmpty || s.c.run)) = false := by rw [hty]; rfl
      refine y8 6 O O O O (by kernel_rfl) (by kernel_rfl) ku (kY O) ?_
      refine y8 7 O O O O (by kernel_rfl) (by kernel_rfl) ku (kY O) ?_
      refine y8 8 O O O O (by kernel_rfl) (by kernel_rfl) ku (kY O) ?_
      refine y8 9 O O O O (by kernel_rfl) (by kernel_rfl) ku (kY O) ?_
      refine jB 10 O ku (fun _ => F5 O O) (iU 11 O ku O (jY 12 O ku O (iq 13 O ku 33 ah O bM O (jQ 14 O ku (fun W hW => kF aV O ((Kp.h hW)).get.2 O) (jB 15 O ku (fun _ => kH ((EZ.f9).aQ) aV O) (jB 16 O ku (fun _ => dY O O) (jB 17 O ku (fun _ => dR O) (jB 18 O ku (fun _ => dR O) (ru (aW (bT O (jO O O (bF (bF (bF (bF (bF (ig O O ?_))))))))))))))))))
      have hwo := zx (EZ.f11)
      have ade := EZ.f11.right
      have HW0 := V.FD (c := s.was) (u := [uK, uM, uN, uO, uP, uQ, uS, uT, uU, uV, uX]) ade hwo
      obtain ⟨s1, qE, ZI⟩ : ∃ s1, s1 = s.jg ∧ V w0 (w6.drew) (fF e s1 • F) := ⟨_, hs1, V.iF (hs1 ▸ wQ iD) dG HW0.f11.f11.f11.f11.f11.f11.f11.f11.f11.f11⟩
      have hr1 : s1.c.run = s.c.run := by rw [qE]; unfold bC.jg; split <;> rfl
      refine dS O func84 (sF ZI) ?_
      rintro _ w38 Um
      obtain ⟨on, hon, HZ⟩ : ∃ on, (s.typed && s.c.run) = on ∧ V w0 w38 (fF e (s1.fM on) • F) := ⟨_, by rw [hty]; rfl, Um⟩
      refine qR ?_
      obtain ⟨yG, yH, yI, yJ, yK, yL, yM, yN, wu, uK, uM, uN, uO, uP, uQ, uS, uT, uU, uV, uX, iD, dG, kW, iO⟩ := (HZ).Ii
      refine aC (jO O O (bP O (bF (bF (mY (mY (mY (mY (mY (bF (ig O O (dL O (bJ 0 ah O aU O (bJ 10 aJ O aP O (aI (eU 10 iO aP) ?_)))))))))))))))
      rintro _ w40 H40
      refine rZ O (nK O O (bJ 28 ah O ay O (fV aH O (H40).get.2 O (dL O (bJ 0 ah O aU O (bJ 6 aJ O ay O (aI (eU 6 H40 ay) ?_)))))))
      rintro _ w41 H41
      refine qR (bT O (dL O (bJ 28 ah O ay O (fV aH O (H41).get.2 O (Z (iM O O) (jL O (fun h16 => ?_) (fun h16 => ?_)))))))
      · (try simp only [aA] at h16)
        have wR := kX qE hon hrun h16
        refine aC (jO O O (dL O (bJ 0 ah O aU O (bJ 7 aJ O ay O (aI (eU 7 H41 ay) ?_)))))
        rintro _ w42 H42
        refine dL O (bJ 0 ah O aU O (bJ 8 aJ O ay O (aI (eU 8 H42 ay) ?_)))
        rintro _ w43 H43
        refine iL (jP O (dK eH O ?_))
        refine ⟨O, ?_⟩
        first
          | exact absurd (hw2.symm.trans hwh) (by decide)
          | exact absurd (hwh.symm.trans hw2) (by decide)
          | (rw [wR]; exact V.iF iD dG H43.f11.f11.f11.f11.f11.f11.f11.f11.f11.f11.f11)
      · (try simp only [aA] at h16)
        have wR := kE qE hon hrun h16
        refine gQ (jP O (dK eH O ?_))
        refine ⟨O, ?_⟩
        first
          | exact absurd (hw2.symm.trans hwh) (by decide)
          | exact absurd (hwh.symm.trans hw2) (by decide)
          | (rw [wR]; exact V.iF iD dG H41.f11.f11.f11.f11.f11.f11.f11.f11.f11.f11.f11)
  · (try simp only [aA] at h2)
    have har : s.argues = true := by simpa using h2
    have hs1 : ({ s with inn := false } : bC) = s.jg := by unfold bC.jg; rw [if_pos har]
    refine bg (bP O (bg (Z (iM O O) (ig O O (iL (PZ O (fun h17 => ?_)))))))
    (try simp only [aA] at h17)
    refine gQ (aO (bT O (Z (iM O O) (iL (PZ O (fun h18 => ?_))))))
    (try simp only [aA] at h18)
    refine gQ (aO ?_)
    have Au := H3.drew
    have iY := V.kp (Au.f11.f11.f11.f11.f11.f11.f11.f11.f11.f11.f11)
    refine y9 [3, 9, 14] iY O (iU 0 O iY O (jY 1 O iY O (iq 2 O iY 28 ah O ay O (jQ 3 O iY (fun W hW => kF aH O ((Kp.h hW)).get.2 O) (jB 4 O iY (fun _ => dX O O) ?_)))))
    refine AA 5 O O (by kernel_rfl) (by kernel_rfl) iY (kY O) (fun h19 => ?_) (fun h19 => ?_)
    · (try simp only [aA] at h19)
      have hc3 : s.cls = 3 := h19
      refine dV 6 O O O (by kernel_rfl) (by kernel_rfl) iY (fun _ => sO O) (kY O) ?_
      refine dV 7 O O O (by kernel_rfl) (by kernel_rfl) iY (fun _ => Qc O) (kY O) ?_
      refine dV 8 O O O (by kernel_rfl) (by kernel_rfl) iY (fun _ => F6 32 ah O O aP (by decide) O rfl) (kY O) ?_
      refine xk 9 O O O (by kernel_rfl) (by kernel_rfl) iY (by decide) (fun W hW => fG (dA bZ O) O (kC ((Kp.h hW)).get.2 O)) (kY O) ?_
      refine jB 10 O iY (fun _ => yZ O O) (iU 11 O iY O (jY 12 O iY O (iq 13 O iY 33 ah O bM O (jQ 14 O iY (fun W hW => kF aV O ((Kp.h hW)).get.2 O) (jB 15 O iY (fun _ => kH ((Au.f9).aQ) aV O) (jB 16 O iY (fun _ => dY O O) (jB 17 O iY (fun _ => dR O) (jB 18 O iY (fun _ => dR O) (ru (aW (bT O (bP O (jJ O (fun h20 => ?_) (fun h20 => ?_))))))))))))))
      · (try simp only [aA] at h20)
        have hwh : s.whole = true := h20
        have hty : s.typed = true := by unfold bC.typed; rw [hc3, hwh]; rfl
        refine bg (bP O (bg (dL O (bg (bJ 0 ah O aU O (bg (bJ 10 aJ O aP O (bg (fV bZ O (Au).get.2 O (jh O O ?_))))))))))
        have hwo := zx (Au.f11)
        have agw := Au.f11.right
        have HW0 := V.FD (c := s.was) (u := [uK, uM, uN, uO, uP, uQ, uS, uT, uU, uV, uX]) agw hwo
        obtain ⟨s1, qE, ZI⟩ : ∃ s1, s1 = s.jg ∧ V w0 (w3.drew) (fF e s1 • F) := ⟨_, hs1, V.iF (hs1 ▸ wQ iD) dG HW0.f11.f11.f11.f11.f11.f11.f11.f11.f11.f11⟩
        have hr1 : s1.c.run = s.c.run := by rw [qE]; unfold bC.jg; split <;> rfl
        refine dS O func84 (sF ZI) ?_
        rintro _ w45 SX
        obtain ⟨on, hon, HZ⟩ : ∃ on, (s.typed && s.c.run) = on ∧ V w0 w45 (fF e (s1.fM on) • F) := ⟨_, by rw [hty]; rfl, SX⟩
        refine qR ?_
        obtain ⟨yG, yH, yI, yJ, yK, yL, yM, yN, wu, uK, uM, uN, uO, uP, uQ, uS, uT, uU, uV, uX, iD, dG, kW, iO⟩ := (HZ).Ii
        refine aC (jO O O (jJ O (fun h21 => ?_) (fun h21 => ?_)))
        · (try simp only [aA] at h21)
          have hw2 : s.whole = true := h21
          refine bg (bP O (bg (jJ O (fun h22 => ?_) (fun h22 => ?_))))
          · (try simp only [aA] at h22)
            have hrun : (s.typed && (!s.put.isEmpty || s.c.run)) = true := by first | exact absurd (hw2.symm.trans hwh) (by decide) | (rw [qP, decide_eq_false (show ¬ s.put.length = 0 by omega), hty]; rfl)
            refine bF (bF (bF (bF (bF (bg (jh O O (jh O O (dL O (bJ 0 ah O aU O (bJ 10 aJ O aP O (aI (eU 10 iO aP) ?_)))))))))))
            rintro _ w47 H47
            refine rZ O (nK O O (bJ 28 ah O ay O (fV aH O (H47).get.2 O (dL O (bJ 0 ah O aU O (bJ 6 aJ O ay O (aI (eU 6 H47 ay) ?_)))))))
            rintro _ w48 H48
            refine qR (bT O (dL O (bJ 28 ah O ay O (fV aH O (H48).get.2 O (Z (iM O O) (jL O (fun h23 => ?_) (fun h23 => ?_)))))))
            · (try simp only [aA] at h23)
              have wR := kX qE hon hrun h23
              refine aC (jO O O (dL O (bJ 0 ah O aU O (bJ 7 aJ O ay O (aI (eU 7 H48 ay) ?_)))))
              rintro _ w49 H49
              refine dL O (bJ 0 ah O aU O (bJ 8 aJ O ay O (aI (eU 8 H49 ay) ?_)))
              rintro _ w50 H50
              refine iL (jP O (dK eH O ?_))
              refine ⟨O, ?_⟩
              first
                | exact absurd (hw2.symm.trans hwh) (by decide)
                | exact absurd (hwh.symm.trans hw2) (by decide)
                | (rw [wR]; exact V.iF iD dG H50.f11.f11.f11.f11.f11.f11.f11.f11.f11.f11.f11)
            · (try simp only [aA] at h23)
              have wR := kE qE hon hrun h23
              refine gQ (jP O (dK eH O ?_))
              refine ⟨O, ?_⟩
              first
                | exact absurd (hw2.symm.trans hwh) (by decide)
                | exact absurd (hwh.symm.trans hw2) (by decide)
                | (rw [wR]; exact V.iF iD dG H48.f11.f11.f11.f11.f11.f11.f11.f11.f11.f11.f11)
          · (try simp only [aA] at h22)
            have hrun : (s.typed && (!s.put.isEmpty || s.c.run)) = (s1.fM on).c.run := by first | exact absurd (hw2.symm.trans hwh) (by decide) | (rw [qP, decide_eq_true (show s.put.length = 0 by omega), hty, BN, hr1]; rfl)
            refine bg (bP O (bg (dL O (bg (bJ 0 ah O aU O (bg (bJ 10 aJ O aP O (bg (fV bZ O (iO).get.2 O (bg (ig O O (jh O O (dL O (bJ 0 ah O aU O (bJ 10 aJ O aP O (aI (eU 10 iO aP) ?_))))))))))))))))
            rintro _ w51 H51
            refine rZ O (nK O O (bJ 28 ah O ay O (fV aH O (H51).get.2 O (dL O (bJ 0 ah O aU O (bJ 6 aJ O ay O (aI (eU 6 H51 ay) ?_)))))))
            rintro _ w52 H52
            refine qR (bT O (dL O (bJ 28 ah O ay O (fV aH O (H52).get.2 O (Z (iM O O) (jL O (fun h24 => ?_) (fun h24 => ?_)))))))
            · (try simp only [aA] at h24)
              have wR := kX qE hon hrun h24
              refine aC (jO O O (dL O (bJ 0 ah O aU O (bJ 7 aJ O ay O (aI (eU 7 H52 ay) ?_)))))
              rintro _ w53 H53
              refine dL O (bJ 0 ah O aU O (bJ 8 aJ O ay O (aI (eU 8 H53 ay) ?_)))
              rintro _ w54 H54
              refine iL (jP O (dK eH O ?_))
              refine ⟨O, ?_⟩
              first
                | exact absurd (hw2.symm.trans hwh) (by decide)
                | exact absurd (hwh.symm.trans hw2) (by decide)
                | (rw [wR]; exact V.iF iD dG H54.f11.f11.f11.f11.f11.f11.f11.f11.f11.f11.f11)
            · (try simp only [aA] at h24)
              have wR := kE qE hon hrun h24
              refine gQ (jP O (dK eH O ?_))
              refine ⟨O, ?_⟩
              first
                | exact absurd (hw2.symm.trans hwh) (by decide)
                | exact absurd (hwh.symm.trans hw2) (by decide)
                | (rw [wR]; exact V.iF iD dG H52.f11.f11.f11.f11.f11.f11.f11.f11.f11.f11.f11)
        · (try simp only [aA] at h21)
          have hw2 : s.whole = false := by simpa using h21
          have hrun : (s.typed && (!s.put.isEmpty || s.c.run)) = false := by first | exact absurd (hwh.symm.trans hw2) (by decide) | (rw [hty]; rfl)
          refine bF (bF (mY (mY (mY (mY (mY (bF (ig O O (dL O (bJ 0 ah O aU O (bJ 10 aJ O aP O (aI (eU 10 iO aP) ?_))))))))))))
          rintro _ w55 H55
          refine rZ O (nK O O (bJ 28 ah O ay O (fV aH O (H55).get.2 O (dL O (bJ 0 ah O aU O (bJ 6 aJ O ay O (aI (eU 6 H55 ay) ?_)))))))
          rintro _ w56 H56
          refine qR (bT O (dL O (bJ 28 ah O ay O (fV aH O (H56).get.2 O (Z (iM O O) (jL O (fun h25 => ?_) (fun h25 => ?_)))))))
          · (try simp only [aA] at h25)
            have wR := kX qE hon hrun h25
            refine aC (jO O O (dL O (bJ 0 ah O aU O (bJ 7 aJ O ay O (aI (eU 7 H56 ay) ?_)))))
            rintro _ w57 H57
            refine dL O (bJ 0 ah O aU O (bJ 8 aJ O ay O (aI (eU 8 H57 ay) ?_)))
            rintro _ w58 H58
            refine iL (jP O (dK eH O ?_))
            refine ⟨O, ?_⟩
            first
              | exact absurd (hw2.symm.trans hwh) (by decide)
              | exact absurd (hwh.symm.trans hw2) (by decide)
              | (rw [wR]; exact V.iF iD dG H58.f11.f11.f11.f11.f11.f11.f11.f11.f11.f11.f11)
          · (try simp only [aA] at h25)
            have wR := kE qE hon hrun h25
            refine gQ (jP O (dK eH O ?_))
            refine ⟨O, ?_⟩
            first
              | exact absurd (hw2.symm.trans hwh) (by decide)
              | exact absurd (hwh.symm.trans hw2) (by decide)
              | (rw [wR]; exact V.iF iD dG H56.f11.f11.f11.f11.f11.f11.f11.f11.f11.f11.f11)
      · (try simp only [aA] at h20)
        have hwh : s.whole = false := by simpa using h20
        have hty : s.typed = false := by unfold bC.typed; rw [hc3, hwh]; rfl
        have hrun : (s.typed && (!s.put.isEmpty || s.c.run)) = false := by rw [hty]; rfl
        refine bF (bF (bF (bF (bF (ig O O ?_)))))
        have hwo := zx (Au.f11)
        have agx := Au.f11.right
        have HW0 := V.FD (c := s.was) (u := [uK, uM, uN, uO, uP, uQ, uS, uT, uU, uV, uX]) agx hwo
        obtain ⟨s1, qE, ZI⟩ : ∃ s1, s1 = s.jg ∧ V w0 (w3.drew) (fF e s1 • F) := ⟨_, hs1, V.iF (hs1 ▸ wQ iD) dG HW0.f11.f11.f11.f11.f11.f11.f11.f11.f11.f11⟩
        have hr1 : s1.c.run = s.c.run := by rw [qE]; unfold bC.jg; split <;> rfl
        refine dS O func84 (sF ZI) ?_
        rintro _ w60 H60
        obtain ⟨on, hon, HZ⟩ : ∃ on, (s.typed && s.c.run) = on ∧ V w0 w60 (fF e (s1.fM on) • F) := ⟨_, by rw [hty]; rfl, H60⟩
        refine qR ?_
        obtain ⟨yG, yH, yI, yJ, yK, yL, yM, yN, wu, uK, uM, uN, uO, uP, uQ, uS, uT, uU, uV, uX, iD, dG, kW, iO⟩ := (HZ).Ii
        refine aC (jO O O (jJ O (fun h26 => ?_) (fun h26 => ?_)))
        · (try simp only [aA] at h26)
          have hw2 : s.whole = true := h26
          refine bg (bP O (bg (jJ O (fun h27 => ?_) (fun h27 => ?_))))
          · (try simp only [aA] at h27)
            have hrun : (s.typed && (!s.put.isEmpty || s.c.run)) = true := by first | exact absurd (hw2.symm.trans hwh) (by decide) | (rw [qP, decide_eq_false (show ¬ s.put.length = 0 by omega), hty]; rfl)
            refine bF (bF (bF (bF (bF (bg (jh O O (jh O O (dL O (bJ 0 ah O aU O (bJ 10 aJ O aP O (aI (eU 10 iO aP) ?_)))))))))))
            rintro _ w62 H62
            refine rZ O (nK O O (bJ 28 ah O ay O (fV aH O (H62).get.2 O (dL O (bJ 0 ah O aU O (bJ 6 aJ O ay O (aI (eU 6 H62 ay) ?_)))))))
            rintro _ w63 H63
            refine qR (bT O (dL O (bJ 28 ah O ay O (fV aH O (H63).get.2 O (Z (iM O O) (jL O (fun h28 => ?_) (fun h28 => ?_)))))))
            · (try simp only [aA] at h28)
              have wR := kX qE hon hrun h28
              refine aC (jO O O (dL O (bJ 0 ah O aU O (bJ 7 aJ O ay O (aI (eU 7 H63 ay) ?_)))))
              rintro _ w64 H64
              refine dL O (bJ 0 ah O aU O (bJ 8 aJ O ay O (aI (eU 8 H64 ay) ?_)))
              rintro _ w65 H65
              refine iL (jP O (dK eH O ?_))
              refine ⟨O, ?_⟩
              first
                | exact absurd (hw2.symm.trans hwh) (by decide)
                | exact absurd (hwh.symm.trans hw2) (by decide)
                | (rw [wR]; exact V.iF iD dG H65.f11.f11.f11.f11.f11.f11.f11.f11.f11.f11.f11)
            · (try simp only [aA] at h28)
              have wR := kE qE hon hrun h28
              refine gQ (jP O (dK eH O ?_))
              refine ⟨O, ?_⟩
              first
                | exact absurd (hw2.symm.trans hwh) (by decide)
                | exact absurd (hwh.symm.trans hw2) (by decide)
                | (rw [wR]; exact V.iF iD dG H63.f11.f11.f11.f11.f11.f11.f11.f11.f11.f11.f11)
          · (try simp only [aA] at h27)
            have hrun : (s.typed && (!s.put.isEmpty || s.c.run)) = (s1.fM on).c.run := by first | exact absurd (hw2.symm.trans hwh) (by decide) | (rw [qP, decide_eq_true (show s.put.length = 0 by omega), hty, BN, hr1]; rfl)
            refine bg (bP O (bg (dL O (bg (bJ 0 ah O aU O (bg (bJ 10 aJ O aP O (bg (fV bZ O (iO).get.2 O (bg (ig O O (jh O O (dL O (bJ 0 ah O aU O (bJ 10 aJ O aP O (aI (eU 10 iO aP) ?_))))))))))))))))
            rintro _ w66 H66
            refine rZ O (nK O O (bJ 28 ah O ay O (fV aH O (H66).get.2 O (dL O (bJ 0 ah O aU O (bJ 6 aJ O ay O (aI (eU 6 H66 ay) ?_)))))))
            rintro _ w67 H67
            refine qR (bT O (dL O (bJ 28 ah O ay O (fV aH O (H67).get.2 O (Z (iM O O) (jL O (fun h29 => ?_) (fun h29 => ?_)))))))
            · (try simp only [aA] at h29)
              have wR := kX qE hon hrun h29
              refine aC (jO O O (dL O (bJ 0 ah O aU O (bJ 7 aJ O ay O (aI (eU 7 H67 ay) ?_)))))
              rintro _ w68 H68
              refine dL O (bJ 0 ah O aU O (bJ 8 aJ O ay O (aI (eU 8 H68 ay) ?_)))
              rintro _ w69 H69
              refine iL (jP O (dK eH O ?_))
              refine ⟨O, ?_⟩
              first
                | exact absurd (hw2.symm.trans hwh) (by decide)
                | exact absurd (hwh.symm.trans hw2) (by decide)
                | (rw [wR]; exact V.iF iD dG H69.f11.f11.f11.f11.f11.f11.f11.f11.f11.f11.f11)
            · (try simp only [aA] at h29)
              have wR := kE qE hon hrun h29
              refine gQ (jP O (dK eH O ?_))
              refine ⟨O, ?_⟩
              first
                | exact absurd (hw2.symm.trans hwh) (by decide)
                | exact absurd (hwh.symm.trans hw2) (by decide)
                | (rw [wR]; exact V.iF iD dG H67.f11.f11.f11.f11.f11.f11.f11.f11.f11.f11.f11)
        · (try simp only [aA] at h26)
          have hw2 : s.whole = false := by simpa using h26
          have hrun : (s.typed && (!s.put.isEmpty || s.c.run)) = false := by first | exact absurd (hwh.symm.trans hw2) (by decide) | (rw [hty]; rfl)
          refine bF (bF (mY (mY (mY (mY (mY (bF (ig O O (dL O (bJ 0 ah O aU O (bJ 10 aJ O aP O (aI (eU 10 iO aP) ?_))))))))))))
          rintro _ w70 H70
          refine rZ O (nK O O (bJ 28 ah O ay O (fV aH O (H70).get.2 O (dL O (bJ 0 ah O aU O (bJ 6 aJ O ay O (aI (eU 6 H70 ay) ?_)))))))
          rintro _ w71 H71
          refine qR (bT O (dL O (bJ 28 ah O ay O (fV aH O (H71).get.2 O (Z (iM O O) (jL O (fun h30 => ?_) (fun h30 => ?_)))))))
          · (try simp only [aA] at h30)
            have wR := kX qE hon hrun h30
            refine aC (jO O O (dL O (bJ 0 ah O aU O (bJ 7 aJ O ay O (aI (eU 7 H71 ay) ?_)))))
            rintro _ w72 H72
            refine dL O (bJ 0 ah O aU O (bJ 8 aJ O ay O (aI (eU 8 H72 ay) ?_)))
            rintro _ w73 H73
            refine iL (jP O (dK eH O ?_))
            refine ⟨O, ?_⟩
            first
              | exact absurd (hw2.symm.trans hwh) (by decide)
              | exact absurd (hwh.symm.trans hw2) (by decide)
              | (rw [wR]; exact V.iF iD dG H73.f11.f11.f11.f11.f11.f11.f11.f11.f11.f11.f11)
          · (try simp only [aA] at h30)
            have wR := kE qE hon hrun h30
            refine gQ (jP O (dK eH O ?_))
            refine ⟨O, ?_⟩
            first
              | exact absurd (hw2.symm.trans hwh) (by decide)
              | exact absurd (hwh.symm.trans hw2) (by decide)
              | (rw [wR]; exact V.iF iD dG H71.f11.f11.f11.f11.f11.f11.f11.f11.f11.f11.f11)
    · (try simp only [aA] at h19)
      have hty : s.typed = false := by unfold bC.typed; rw [beq_false_of_ne h19]; rfl
      have hrun : (s.typed && (!s.put.isEmpty || s.c.run)) = false := by rw [hty]; rfl
      refine y8 6 O O O O (by kernel_rfl) (by kernel_rfl) iY (kY O) ?_
      refine y8 7 O O O O (by kernel_rfl) (by kernel_rfl) iY (kY O) ?_
      refine y8 8 O O O O (by kernel_rfl) (by kernel_rfl) iY (kY O) ?_
      refine y8 9 O O O O (by kernel_rfl) (by kernel_rfl) iY (kY O) ?_
      refine jB 10 O iY (fun _ => F5 O O) (iU 11 O iY O (jY 12 O iY O (iq 13 O iY 33 ah O bM O (jQ 14 O iY (fun W hW => kF aV O ((Kp.h hW)).get.2 O) (jB 15 O iY (fun _ => kH ((Au.f9).aQ) aV O) (jB 16 O iY (fun _ => dY O O) (jB 17 O iY (fun _ => dR O) (jB 18 O iY (fun _ => dR O) (ru (aW (bT O (jO O O (bF (bF (bF (bF (bF (ig O O ?_))))))))))))))))))
      have hwo := zx (Au.f11)
      have agy := Au.f11.right
      have HW0 := V.FD (c := s.was) (u := [uK, uM, uN, uO, uP, uQ, uS, uT, uU, uV, uX]) agy hwo
      obtain ⟨s1, qE, ZI⟩ : ∃ s1, s1 = s.jg ∧ V w0 (w3.drew) (fF e s1 • F) := ⟨_, hs1, V.iF (hs1 ▸ wQ iD) dG HW0.f11.f11.f11.f11.f11.f11.f11.f11.f11.f11⟩
      have hr1 : s1.c.run = s.c.run := by rw [qE]; unfold bC.jg; split <;> rfl
      refine dS O func84 (sF ZI) ?_
      rintro _ w75 H75
      obtain ⟨on, hon, HZ⟩ : ∃ on, (s.typed && s.c.run) = on ∧ V w0 w75 (fF e (s1.fM on) • F) := ⟨_, by rw [hty]; rfl, H75⟩
      refine qR ?_
      obtain ⟨yG, yH, yI, yJ, yK, yL, yM, yN, wu, uK, uM, uN, uO, uP, uQ, uS, uT, uU, uV, uX, iD, dG, kW, iO⟩ := (HZ).Ii
      refine aC (jO O O (bP O (bF (bF (mY (mY (mY (mY (mY (bF (ig O O (dL O (bJ 0 ah O aU O (bJ 10 aJ O aP O (aI (eU 10 iO aP) ?_)))))))))))))))
      rintro _ w77 H77
      refine rZ O (nK O O (bJ 28 ah O ay O (fV aH O (H77).get.2 O (dL O (bJ 0 ah O aU O (bJ 6 aJ O ay O (aI (eU 6 H77 ay) ?_)))))))
      rintro _ w78 H78
      refine qR (bT O (dL O (bJ 28 ah O ay O (fV aH O (H78).get.2 O (Z (iM O O) (jL O (fun h31 => ?_) (fun h31 => ?_)))))))
      · (try simp only [aA] at h31)
        have wR := kX qE hon hrun h31
        refine aC (jO O O (dL O (bJ 0 ah O aU O (bJ 7 aJ O ay O (aI (eU 7 H78 ay) ?_)))))
        rintro _ w79 H79
        refine dL O (bJ 0 ah O aU O (bJ 8 aJ O ay O (aI (eU 8 H79 ay) ?_)))
        rintro _ w80 H80
        refine iL (jP O (dK eH O ?_))
        refine ⟨O, ?_⟩
        first
          | exact absurd (hw2.symm.trans hwh) (by decide)
          | exact absurd (hwh.symm.trans hw2) (by decide)
          | (rw [wR]; exact V.iF iD dG H80.f11.f11.f11.f11.f11.f11.f11.f11.f11.f11.f11)
      · (try simp only [aA] at h31)
        have wR := kE qE hon hrun h31
        refine gQ (jP O (dK eH O ?_))
        refine ⟨O, ?_⟩
        first
          | exact absurd (hw2.symm.trans hwh) (by decide)
          | exact absurd (hwh.symm.trans hw2) (by decide)
          | (rw [wR]; exact V.iF iD dG H78.f11.f11.f11.f11.f11.f11.f11.f11.f11.f11.f11)
theorem Eo {s : bC} {x : Int} (hin : s.inn = true) (hx : x ≠ 0) : s.jZ x = s.zn ∧ s.AQ x = x := by
  unfold bC.jZ bC.AQ
  rw [if_pos hin, if_neg hx, if_pos hin]; exact ⟨rfl, rfl⟩
theorem UA {s : bC} (h : lI s) (hin : s.inn = true) : lI s.zn := by
  obtain ⟨h1, h2, h3⟩ := h.2.1 hin
  exact ⟨h1, fun h => Bool.noConfusion h, ⟨by show (-1 : Int) ≤ -1; decide, by show (-1 : Int) ≤ 1000000; decide⟩, by simp [bC.zn], h2, h3⟩
theorem UC (hin : s.inn = true) (hx : x ≠ 0) (H : V w0 w (fF e s • F)) : iI prog 31 #[.pointer (some ⟨e, 0, none⟩), .int .i64 x] w fun v w' => v = .int .i64 x ∧ V w0 w' (fF e s.zn • F) := by
 have hpe : s.AU = 0 := by unfold bC.AU; rw [if_pos hin]
 refine oN func31 ntmps31 ?_
 refine jR O (aO (bT O (dS O func81 (ql H) ?_)))
 rintro _ _ ⟨rfl, rfl⟩
 refine fP O (bT O (Z (iM O O) (jL O (fun h => by exfalso; (try simp only [aA] at h); exact h hpe) (fun h1 => ?_))))
 (try simp only [aA] at h1)
 refine gQ (aO ?_)
 obtain ⟨yG, yH, yI, yJ, yK, yL, yM, yN, wu, uK, uM, uN, uO, uP, uQ, uS, uT, uU, uV, uX, iD, dG, kW, iO⟩ := (H).Ii
 have HI := iO
 rw [hin] at HI
 obtain ⟨qb, qr, qw, qt, qm, hu, HW⟩ := (HI.f11).was
 simp only [QV, List.cons.injEq, and_true] at hu
 obtain ⟨rfl, rfl, rfl, rfl, rfl, rfl, rfl, rfl, rfl, rfl, rfl⟩ := hu
 refine aC (nK O O (bJ 16 ah O aP O (aI (eU 16 HW.f6 aP) ?_)))
 rintro _ w3 H3
 refine qR (bT O (dL O (bJ 31 ah O aP O (fV bZ O (H3).get.2 O (Z (lC O) (jJ O (fun h2 => ?_) (fun h2 => ?_)))))))
 ·(try simp only [aA] at h2)
  refine bF (bF (jh O O (iL (C9 (aC (jO O O (nK O O (bJ 13 ah O aP O (aI (eU 13 H3 aP) ?_)))))))))
  rintro _ w4 H4
  refine dL O (bJ 14 ah O aP O (aI (eU 14 H4 aP) ?_))
  rintro _ w5 H5
  refine dL O (bJ 15 ah O ay O (aI (eU 15 H5 ay) ?_))
  rintro _ w6 H6
  refine qR (bT O (Z (iM O O) (jL O (fun h3 => ?_) (fun h => by exfalso; (try simp only [aA] at h); exact hx h))))
  (try simp only [aA] at h3)
  refine bT O (nK O O (bJ 17 ah O aU O (Z (pX 17 (xs := [_, _, _, _, _, _, _, _, _, _, _]) aJ O aU O O (H6).get.2 O) (dL O (bJ 0 ah O aU O (aI (dw 0 (l' := [_, _, _, _, _, _, _, _, _, _, _, _, _, _, _, _, _, _, _, _, _, _, _, _, _, _, _, _, _, _, _, _, _, _]) (us := [_, _, _, _, _, _, _, _, _, _, _]) H6 aU O O O (aG (aG (aG (aG (aG (aG (aG (aG (aG (aG (aG bQ))))))))))) O O) ?_))))))
  rintro _ w7 H7
  refine rZ O (dL O (bJ 12 ah O sizeOf79 O (fV underlying79 O (H7).get.2 O (dS O func83 (Gu H7.f13) ?_))))
  rintro _ w8 ⟨rfl, H8⟩
  refine rZ O (jO O O (nK O O (bJ 0 ah O aU O (bJ 6 aJ O ay O (aI (eU 6 H8.f2 ay) ?_)))))
  rintro _ w9 H9
  refine dL O (bJ 0 ah O aU O (bJ 7 aJ O ay O (aI (eU 7 H9 ay) ?_)))
  rintro _ w10 pW
  refine dL O (bJ 0 ah O aU O (bJ 8 aJ O ay O (aI (eU 8 pW ay) ?_)))
  rintro _ FX sW
  refine dL O (bJ 33 ah O bM O (aI (eU 33 sW bM) ?_))
  rintro _ w12 wL
  refine rZ O (fC O (aB (dK eH O ?_)))
  exact ⟨O, V.Un (s := s.zn) (UA iD hin) O O wL.f8.right.f8.right.f8.right.f8.right.f8.right.f9.right.f9.right.f2.f8.f8.f8.f8.f8.f8.f8⟩
 ·(try simp only [aA] at h2)
  refine bg (bP O (bg (Z (iM O O) (ig O O (jL O (fun h4 => ?_) (fun h => by exfalso; (try simp only [aA] at h); exact hx h))))))
  (try simp only [aA] at h4)
  refine aC (jO O O (nK O O (bJ 13 ah O aP O (aI (eU 13 H3 aP) ?_))))
  rintro _ Qs xZ
  refine dL O (bJ 14 ah O aP O (aI (eU 14 xZ aP) ?_))
  rintro _ P6 Az
  refine dL O (bJ 15 ah O ay O (aI (eU 15 Az ay) ?_))
  rintro _ Qu zI
  refine qR (bT O (Z (iM O O) (jL O (fun h5 => ?_) (fun h => by exfalso; (try simp only [aA] at h); exact hx h))))
  (try simp only [aA] at h5)
  refine bT O (nK O O (bJ 17 ah O aU O (Z (pX 17 (xs := [_, _, _, _, _, _, _, _, _, _, _]) aJ O aU O O (zI).get.2 O) (dL O (bJ 0 ah O aU O (aI (dw 0 (l' := [_, _, _, _, _, _, _, _, _, _, _, _, _, _, _, _, _, _, _, _, _, _, _, _, _, _, _, _, _, _, _, _, _, _]) (us := [_, _, _, _, _, _, _, _, _, _, _]) zI aU O O O (aG (aG (aG (aG (aG (aG (aG (aG (aG (aG (aG bQ))))))))))) O O) ?_))))))
  rintro _ w16 uY
  refine rZ O (dL O (bJ 12 ah O sizeOf79 O (fV underlying79 O (uY).get.2 O (dS O func83 (Gu uY.f13) ?_))))
  rintro _ Yr ⟨rfl, EH⟩
  refine rZ O (jO O O (nK O O (bJ 0 ah O aU O (bJ 6 aJ O ay O (aI (eU 6 EH.f2 ay) ?_)))))
  rintro _ Ym Eb
  refine dL O (bJ 0 ah O aU O (bJ 7 aJ O ay O (aI (eU 7 Eb ay) ?_)))
  rintro _ w19 Dl
  refine dL O (bJ 0 ah O aU O (bJ 8 aJ O ay O (aI (eU 8 Dl ay) ?_)))
  rintro _ w20 Di
  refine dL O (bJ 33 ah O bM O (aI (eU 33 Di bM) ?_))
  rintro _ w21 vN
  refine rZ O (fC O (aB (dK eH O ?_)))
  exact ⟨O, V.Un (s := s.zn) (UA iD hin) O O vN.f8.right.f8.right.f8.right.f8.right.f8.right.f9.right.f9.right.f2.f8.f8.f8.f8.f8.f8.f8⟩
theorem BO (H : V w0 w (fF e s • F)) : iI prog 31 #[.pointer (some ⟨e, 0, none⟩), .int .i64 x] w fun v w' => v = .int .i64 (s.AQ x) ∧ V w0 w' (fF e (s.jZ x) • F) := by
  by_cases hin : s.inn = true
  · by_cases hx : x = 0
    · subst hx
      rw [show s.jZ 0 = s.jT from by unfold bC.jZ; rw [if_pos hin, if_pos rfl], show s.AQ 0 = 0 from by unfold bC.AQ; rw [if_pos hin]]
      exact Rz hin H
    · rw [(Eo hin hx).1, (Eo hin hx).2]
      exact UC hin hx H
  · have hin' : s.inn = false := by simpa using hin
    have hpe : s.AU = 1 := by unfold bC.AU; rw [if_neg hin]
    rw [show s.jZ x = s from by unfold bC.jZ; rw [if_neg hin], show s.AQ x = 1 from by unfold bC.AQ; rw [if_neg hin]]
    refine oN func31 ntmps31 ?_
    refine jR O (aO (bT O (dS O func81 (ql H) ?_)))
    rintro _ _ ⟨rfl, rfl⟩
    refine fP O (bT O (Z (iM O O) (jL O (fun h1 => ?_) (fun h => by exfalso; (try simp only [aA] at h); rw [hpe] at h; exact absurd h (by decide)))))
    (try simp only [aA] at h1)
    refine bT O (fC O (aB (dK eH O ?_)))
    rw [hpe]
    exact ⟨O, H⟩
end
end Go.Proofs.YtpdeedplgmbopaaGreatDoor
end
section
namespace Go.Proofs.YtpdeedplgmbopaaGreatDoor
open Go.RowKit
theorem adf {s : bC} (h : lI s) {G : List (List jl)} (h1 : gG G s.put ≤ gG s.here s.put) (h2 : ∀ g ∈ G, g ∈ s.here) : lI (s.mJ G) := by
  obtain ⟨a1, a2, a3, a4, a5, a6⟩ := h
  refine ⟨a1, a2, a3, a4, ?_, ?_⟩
  · show gG (vS s.c.un s.c.place G s.c.place) s.put ≤ 16384
    rw [iE]; omega
  · intro k g hg
    have hg' : g ∈ vS s.c.un s.c.place G k := hg
    by_cases hk : k = s.c.place
    · subst hk; rw [iE] at hg'; exact a6 _ g (h2 g hg')
    · rw [tC _ _ hk] at hg'; exact a6 k g hg'
section
variable {w0 w : World} {F : HP} {e p : Nat} {s : bC} {x : Int}
end
def BP (e : TypeId) (k : IntKind) : List Value → List (List Int) → HP
  | [], [] => emp
  | v :: vs, l :: ls => jW e k v l • BP e k vs ls
  | _, _ => fact False
section
variable {w0 w : World} {F : HP} {e : TypeId} {k : IntKind} {v : Value} {l : List Int}
theorem V.ZJ (H : V w0 w F) : V w0 w (BP e k [] [] • F) := H.Ot
theorem Ep : ∀ (vs : List Value) (ls : List (List Int)), (BP e k vs ls • jW e k v l) = BP e k (vs ++ [v]) (ls ++ [l])
  | [], [] => by show (emp • jW e k v l) = (jW e k v l • emp); rw [yX]
  | u :: vs, m :: ls => by
    show ((jW e k u m • BP e k vs ls) • jW e k v l) = (jW e k u m • BP e k (vs ++ [v]) (ls ++ [l]))
    rw [dD, Ep vs ls]
  | [], m :: ls => by
    apply HP.ext; funext I h; apply propext
    constructor
    · intro hp; exact absurd ((CW _ _ _ _).1 hp).1 id
    · intro hp
      cases ls with
      | nil => exact absurd (show False by obtain ⟨_, _, _, _, _, hb⟩ := hp; exact hb.1) id
      | cons x y => exact absurd (show False by obtain ⟨_, _, _, _, _, hb⟩ := hp; exact hb.1) id
  | u :: vs, [] => by
    apply HP.ext; funext I h; apply propext
    constructor
    · intro hp; exact absurd ((CW _ _ _ _).1 hp).1 id
    · intro hp
      cases vs with
      | nil => exact absurd (show False by obtain ⟨_, _, _, _, _, hb⟩ := hp; exact hb.1) id
      | cons x y => exact absurd (show False by obtain ⟨_, _, _, _, _, hb⟩ := hp; exact hb.1) id
theorem V.Ep {vs : List Value} {ls : List (List Int)} (H : V w0 w (BP e k vs ls • jW e k v l • F)) : V w0 w (BP e k (vs ++ [v]) (ls ++ [l]) • F) := H.deep.of_eq (by rw [Go.Proofs.YtpdeedplgmbopaaGreatDoor.Ep])
theorem V.Ob : ∀ {vs : List Value} {ls : List (List Int)} {F : HP} {j : Nat}, V w0 w (BP e k vs ls • F) → j < ls.length →
    ∃ R : HP, V w0 w (jW e k (vs.getD j undef) (ls.getD j []) • R • F) ∧ ∀ l' w' F', V w0 w' (jW e k (vs.getD j undef) l' • R • F') → V w0 w' (BP e k vs (ls.set j l') • F')
  | [], [], _, j, _, hj => by simp at hj
  | v :: vs, l :: ls, F, 0, H, _ => ⟨BP e k vs ls, H.flat, fun l' w' F' H' => H'.deep⟩
  | v :: vs, l :: ls, F, j + 1, H, hj => by
    obtain ⟨R, h1, h2⟩ := V.Ob (j := j) H.flat.swap (by simpa using hj)
    refine ⟨R • jW e k v l, by simpa [dD] using h1, fun l' w' F' H' => ?_⟩
    have := h2 l' w' (jW e k v l • F') (H'.of_eq (by simp only [List.getD_cons_succ]; ac_rfl))
    exact this.swap.deep
  | [], _ :: _, _, _, H, _ => absurd H.fact.1 id
  | _ :: _, [], _, _, H, _ => absurd H.fact.1 id
theorem V.VZ {vs : List Value} {ls : List (List Int)} {j : Nat} (H : V w0 w (BP e k vs ls • F)) (hj : j < ls.length) : gJ w k (vs.getD j undef) (ls.getD j []) := by
  obtain ⟨R, h, _⟩ := H.Ob hj
  exact h.aQ
end
end Go.Proofs.YtpdeedplgmbopaaGreatDoor
end
section
namespace Go.Proofs.YtpdeedplgmbopaaGreatDoor
open Go.RowKit
open _root_.Go.Proofs.Tryz
section
variable {w0 w : World} {F : HP} {e p ph pw pt pr pm : Nat} {s : bC} {k x place : Int} {hl : List qN} {base most : Int} {tx : Int → Option ByteArray} {v : Value}
theorem RD (H : V w0 w (iT p hl base most • F)) : iI prog 157 #[.pointer (some ⟨p, 0, none⟩), .int .i64 k] w fun v w' =>
  v = .tuple #[.agg #[.string (QH hl k).1, .int .i64 (QH hl k).2], .bool (decide (0 ≤ k ∧ k < hl.length))] ∧ V w0 w' (iT p hl base most • F) := by
 have hb : hl.length ≤ 4096 := by obtain ⟨v, h, _⟩ := H.hist; exact h.1
 refine oN func157 ntmps157 ?_
 refine iV (jV (iy (l := [_, _]) H zeroValue218 O) ?_)
 rintro _ w1 ⟨b1, rfl, H1⟩
 refine vY O (bT O (Z (gB O O) (jJ O (fun h1 => ?_) (fun h1 => ?_))))
 ·(try simp only [aA] at h1)
  refine bF (bF (bF (bF (jh O O (iL (C9 (iV (Z (eP (zl := [.string .empty, .int .i64 0]) (pl := [(0, 1), (1, 1)]) [_, _] lZ zeroValue218 O (fun w => by kernel_rfl) O (.zero (zs := [.string .empty]) O (.zero (zs := [.int .i64 0]) O .nil)) O) (aI (dw 0 (l' := [_, _]) (us := [_, _]) H1 sizeOf218 O O O (aG (aG bQ)) O O) ?_)))))))))
  rintro _ w2 H2
  refine fC O (aB ?_)
  refine rD (.inl O) (Vg results157 O O lZ O (by rw [UD]; rfl) (H2).get.2) ?_
  exact ⟨by unfold QH; rw [if_neg (by omega), decide_eq_false (by omega)], H2.right⟩
 ·(try simp only [aA] at h1)
  refine bg (bP O (bg (bP O (bg (dS O func117 (qy H1.f2) ?_)))))
  rintro _ w3 ⟨rfl, H3⟩
  refine bg (Z (mX O O) (ig O O (jL O (fun h2 => ?_) (fun h2 => ?_))))
  ·(try simp only [aA] at h2)
   refine iV (Z (eP (zl := [.string .empty, .int .i64 0]) (pl := [(0, 1), (1, 1)]) [_, _] lZ zeroValue218 O (fun w => by kernel_rfl) O (.zero (zs := [.string .empty]) O (.zero (zs := [.int .i64 0]) O .nil)) O) (aI (dw 0 (l' := [_, _]) (us := [_, _]) H3.f2 sizeOf218 O O O (aG (aG bQ)) O O) ?_))
   rintro _ w4 H4
   refine fC O (aB ?_)
   refine rD (.inl O) (Vg results157 O O lZ O (by rw [UD]; rfl) (H4).get.2) ?_
   exact ⟨by unfold QH; rw [if_neg (by omega), decide_eq_false (by omega)], H4.right⟩
  ·(try simp only [aA] at h2)
   refine gQ (aO ?_)
   obtain ⟨m, rfl⟩ := Int.eq_ofNat_of_zero_le (show 0 ≤ k by omega)
   obtain ⟨Uc, EC, CU⟩ := (H3).hist
   refine aC (nK O O (bJ 0 lW O sizeOf151 O (bJ 0 lX O sizeOf149 O (fV gW O (CU).get.2 O (bP O ?_)))))
   obtain ⟨aeB, aeC, aeD, Zl⟩ := Rd.rG ((CU.f2).aQ) (by omega)
   cases Zl
   refine Z (dP gW sizeOf218 O O (by omega)) (Z (uy (ys := [_, _]) ((CU.f2).aQ) (by omega) lZ O sizeOf218 O (wO NQ (by omega) default) O) (aI (dw 0 (l' := [_, _]) (us := [_, _]) CU.f3 sizeOf218 O O O (aG (aG bQ)) O O) ?_))
   rintro _ w6 H6
   refine fC O ?_
   refine rD (.inl O) (Vg results157 O O lZ O (by rw [UD]; rfl) (H6).get.2) ?_
   have Ho8 := H6.f3.f3
   have X7 := V.Gq EC Ho8
   exact ⟨by unfold QH; rw [if_pos (by omega), decide_eq_true (by omega)]; rfl, X7.f2.right⟩
theorem GI {x0 x1 x2 x3 x4 x5 x6 x7 x8 x9 x10 x12 xY x14 x15 x16 x17 x18 x19 x20 x21 yT x23 x24 x25 zf x27 x28 x29 x30 x31 x32 zO : Value} (H : V w0 w (dW e (.cells (x0 :: x1 :: x2 :: x3 :: x4 :: x5 :: x6 :: x7 :: x8 :: x9 :: x10 :: .pointer (some ⟨ph, 0, none⟩) :: x12 :: xY :: x14 :: x15 :: x16 :: x17 :: x18 :: x19 :: x20 :: x21 :: yT :: x23 :: x24 :: x25 :: zf :: x27 :: x28 :: x29 :: x30 :: x31 :: x32 :: zO :: []).toArray 82 (0, 0)) • iT ph hl base most • F)) : iI prog 119 #[.pointer (some ⟨e, 0, none⟩), .int .i64 k] w fun v w' =>
    v = .string (zS hl k) ∧ V w0 w' (dW e (.cells (x0 :: x1 :: x2 :: x3 :: x4 :: x5 :: x6 :: x7 :: x8 :: x9 :: x10 :: .pointer (some ⟨ph, 0, none⟩) :: x12 :: xY :: x14 :: x15 :: x16 :: x17 :: x18 :: x19 :: x20 :: x21 :: yT :: x23 :: x24 :: x25 :: zf :: x27 :: x28 :: x29 :: x30 :: x31 :: x32 :: zO :: []).toArray 82 (0, 0)) • iT ph hl base most • F) := by
  refine oN func119 ntmps119 ?_
  refine jR O (bT O (dL O (bJ 11 ah O sizeOf78 O (fV kR O (H).get.2 O (bP O (dS O func157 (RD H.f2) ?_))))))
  rintro _ w1 ⟨rfl, H1⟩
  refine bP O (uf O O (uf O O (jV (iy (l := [_, _]) H1 zeroValue218 O) ?_)))
  rintro _ w2 ⟨b2, rfl, H2⟩
  refine aI (dw 0 (l' := [_, _]) (us := [_, _]) H2 sizeOf218 O O O (aG (aG bQ)) O O) ?_
  rintro _ w3 H3
  refine fP O (iV (bJ 0 lZ O oK O (fV kM O (H3).get.2 O (fC O (dK results119 O ?_)))))
  exact ⟨O, H3.right.f2⟩
theorem Xv {t : ByteArray} (h : tx k = some t) : (vU tx k).getD (.string .empty) = .string t ∧ (vU tx k).isSome = true := by unfold vU; rw [h]; exact ⟨rfl, rfl⟩
theorem Ja : (vU tx k).isSome = (tx k).isSome := by unfold vU; cases tx k <;> rfl
theorem Aw {x0 x1 x3 x4 x5 x6 x7 x8 x9 x10 x12 xY x14 x15 x16 x17 x18 x19 x20 x21 yT x23 x24 x25 zf x27 x28 x29 x30 x31 x32 zO : Value} (H : V w0 w (dW e (.cells (x0 :: x1 :: .pointer (some ⟨pw, 0, none⟩) :: x3 :: x4 :: x5 :: x6 :: x7 :: x8 :: x9 :: x10 :: .pointer (some ⟨ph, 0, none⟩) :: x12 :: xY :: x14 :: x15 :: x16 :: x17 :: x18 :: x19 :: x20 :: x21 :: yT :: x23 :: x24 :: x25 :: zf :: x27 :: x28 :: x29 :: x30 :: x31 :: x32 :: zO :: []).toArray 82 (0, 0)) • dW pw (.cells #[v, .map (some pt)] 122 (0, 0)) • gX tK pt (vU tx) • iT ph hl base most • F)) :
    iI prog 118 #[.pointer (some ⟨e, 0, none⟩), .int .i64 k] w fun v' w' =>
    v' = .string (jC hl tx k) ∧ V w0 w' (dW e (.cells (x0 :: x1 :: .pointer (some ⟨pw, 0, none⟩) :: x3 :: x4 :: x5 :: x6 :: x7 :: x8 :: x9 :: x10 :: .pointer (some ⟨ph, 0, none⟩) :: x12 :: xY :: x14 :: x15 :: x16 :: x17 :: x18 :: x19 :: x20 :: x21 :: yT :: x23 :: x24 :: x25 :: zf :: x27 :: x28 :: x29 :: x30 :: x31 :: x32 :: zO :: []).toArray 82 (0, 0)) • dW pw (.cells #[v, .map (some pt)] 122 (0, 0)) • gX tK pt (vU tx) • iT ph hl base most • F) := by
  refine oN func118 ntmps118 ?_
  refine jR O (aO (bT O (dL O (bJ 0 ah O aU O (bJ 2 aJ O sizeOf74 O (fV lS O (H).get.2 O (dL O (bJ 1 gq O sizeOf120 O (fV underlying120 O (H.f2).get.2 O (bP O (Z (DC (H.f3) underlying120 aH zeroValue9 O O) (bP O (uf O O (uf O O (iJ O (fP O (bT O (jL O (fun h1 => ?_) (fun h1 => ?_)))))))))))))))))))
  · (try simp only [aA] at h1)
    obtain ⟨tt, htt⟩ := Option.isSome_iff_exists.1 (Ja (tx := tx) ▸ h1)
    refine bT O (fC O (aB (dK results118 O ?_)))
    exact ⟨by unfold jC; rw [htt]; show (vU tx k).getD (.string .empty) = _; rw [(Xv htt).1]; rfl, H.f4.f4.f4.f4⟩
  · (try simp only [aA] at h1)
    have htt : tx k = none := by have := Ja (tx := tx) (k := k) ▸ h1; simpa using this
    refine gQ (bT O (bP O (dS O func119 (GI H.f4.f2) ?_)))
    rintro _ w1 ⟨rfl, H1⟩
    refine fC O (dK results118 O ?_)
    exact ⟨by unfold jC; rw [htt]; rfl, H1.f2.f4.f4.f4⟩
end
end Go.Proofs.YtpdeedplgmbopaaGreatDoor
end
