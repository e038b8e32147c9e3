import Derived.Test.YtpdeedplgmbopaaGreatDoorZ4
import Derived.Test.YtpdeedplgmbopaaGreatDoorZ15
import Derived.Test.YtpdeedplgmbopaaGreatDoorZ7
set_option linter.unusedSimpArgs false
set_option linter.unusedVariables false
/- Texts of mine, joined, their names in short: EdE EdU Owns EdS. -/
section
namespace Go.Proofs.YtpdeedplgmbopaaGreatDoor
open Go.RowKit
open _root_.Go.Proofs.Tryz
theorem Ce (s : bn) (on : Bool) : (s.fU on).c.run = s.c.run := by unfold bn.fU; split <;> rfl
theorem Lm (s : bn) (on : Bool) : (s.fU on).cls = s.cls := by unfold bn.fU; split <;> rfl
theorem kZ {s s1 : bn} {on run : Bool} (h1 : s1 = s.jh) (hon : (s.typed && s.c.run) = on) (hrun : (s.typed && (!s.put.isEmpty || s.c.run)) = run) (h2 : (s1.fU on).cls ≠ 2) :
    s.jX = { s1.fU on with c := { (s1.fU on).c with run := run, last := (s1.fU on).cls, fr := 0, to := 0 } } := by
  subst h1 hon hrun
  have hc : (s.jh.fU (s.typed && s.c.run)).cls = s.cls := by rw [Lm]; unfold bn.jh; split <;> rfl
  unfold bn.jX
  rw [hc] at h2 ⊢
  dsimp only
  rw [if_pos h2]
theorem kH {s s1 : bn} {on run : Bool} (h1 : s1 = s.jh) (hon : (s.typed && s.c.run) = on) (hrun : (s.typed && (!s.put.isEmpty || s.c.run)) = run) (h2 : (s1.fU on).cls = 2) :
    s.jX = { s1.fU on with c := { (s1.fU on).c with run := run, last := (s1.fU on).cls } } := by
  subst h1 hon hrun
  have hc : (s.jh.fU (s.typed && s.c.run)).cls = s.cls := by rw [Lm]; unfold bn.jh; split <;> rfl
  unfold bn.jX
  rw [hc] at h2 ⊢
  dsimp only
  rw [if_neg (by omega)]
theorem wX {s : bn} (h : mM s) : mM s.jh := by
  obtain ⟨h1, h2, h3, h4, h5, h6⟩ := h
  unfold bn.jh
  split
  · exact ⟨h1, fun h => Bool.noConfusion h, h3, h4, h5, h6⟩
  · exact ⟨h1, fun h => Bool.noConfusion h, ⟨by show (-1 : Int) ≤ -1; decide, by show (-1 : Int) ≤ 1000000; decide⟩, h4, h5, h6⟩
theorem qU {l : List jm} : l.isEmpty = decide (l.length = 0) := by cases l <;> rfl
section
variable {w0 w : World} {F : HP} {e p : Nat} {s : bn} {x : Int}
theorem RY (hin : s.inn = true) (H : V w0 w (eP e s • F)) : iE prog 31 #[.pointer (some ⟨e, 0, none⟩), .int .i64 0] w fun v w' => v = .int .i64 0 ∧ V w0 w' (eP e s.jX • F) := by
  have hpe : s.Bg = 0 := by unfold bn.Bg; rw [if_pos hin]
  refine oV func31 ntmps31 ?_
  refine jQ O (aN (bQ O (dS O func81 (nS H) ?_)))
  rintro _ _ ⟨rfl, rfl⟩
  refine fG O (bQ O (Z (ig O O) (jB O (fun h => by exfalso; (try simp only [aA] at h); exact h hpe) (fun h1 => ?_))))
  (try simp only [aA] at h1)
  refine gG (aN ?_)
  obtain ⟨wM, wO, wP, wQ, wR, wS, wU, wV, uN, tu, tC, tH, tJ, tK, tN, tV, tX, tY, tZ, uf, gK, dD, kM, iw⟩ := (H).GI
  refine aC (nG O O (bJ 16 ah O aP O (aJ (eX 16 iw aP) ?_)))
  rintro _ w3 H3
  refine qQ (bQ O (dK O (bJ 31 ah O aP O (fM bY O (H3).get.2 O (Z (lJ O) (jG O (fun h2 => ?_) (fun h2 => ?_)))))))
  · (try simp only [aA] at h2)
    have har : s.argues = false := by simpa using h2
    have hs1 : ({ s.ru with inn := false } : bn) = s.jh := by unfold bn.jh; rw [if_neg (by simp [har])]
    refine bF (bF (iU O O (iJ (CP (aC (jR O O (nG O O (bJ 13 ah O aP O (aJ (eX 13 H3 aP) ?_)))))))))
    rintro _ w4 H4
    refine dK O (bJ 14 ah O aP O (aJ (eX 14 H4 aP) ?_))
    rintro _ w5 H5
    refine dK O (bJ 15 ah O ay O (aJ (eX 15 H5 ay) ?_))
    rintro _ w6 H6
    refine qQ (bQ O (Z (ig O O) (iJ (Qg O (fun h3 => ?_)))))
    (try simp only [aA] at h3)
    refine gG (aN ?_)
    have Fe := H6.drew
    have kE := V.kp (Fe.f11.f11.f11.f11.f11.f11.f11.f11.f11.f11.f11)
    refine yH [3, 9, 14] kE O (iQ 0 O kE O (jU 1 O kE O (gU 2 O kE 28 ah O ay O (jO 3 O kE (fun W hW => jV aH O ((Kp.h hW)).get.2 O) (jC 4 O kE (fun _ => dX O O) ?_)))))
    refine JQ 5 O O (by kernel_rfl) (by kernel_rfl) kE (oz O) (fun h4 => ?_) (fun h4 => ?_)
    · (try simp only [aA] at h4)
      have hc3 : s.cls = 3 := h4
      refine kQ 6 O O O (by kernel_rfl) (by kernel_rfl) kE (fun _ => Fj O) (oz O) ?_
      refine kQ 7 O O O (by kernel_rfl) (by kernel_rfl) kE (fun _ => Qn O) (oz O) ?_
      refine kQ 8 O O O (by kernel_rfl) (by kernel_rfl) kE (fun _ => Gi 32 ah O O aP (by decide) O rfl) (oz O) ?_
      refine Dl 9 O O O (by kernel_rfl) (by kernel_rfl) kE (by decide) (fun W hW => fK (dA bY O) O (kF ((Kp.h hW)).get.2 O)) (oz O) ?_
      refine jC 10 O kE (fun _ => Gg O O) (iQ 11 O kE O (jU 12 O kE O (gU 13 O kE 33 ah O bP O (jO 14 O kE (fun W hW => jV aW O ((Kp.h hW)).get.2 O) (jC 15 O kE (fun _ => kK ((Fe.f9).aS) aW O) (jC 16 O kE (fun _ => dY O O) (jC 17 O kE (fun _ => dR O) (jC 18 O kE (fun _ => dR O) (qV (aX (bQ O (bT O (jG O (fun h5 => ?_) (fun h5 => ?_))))))))))))))
      · (try simp only [aA] at h5)
        have hwh : s.whole = true := h5
        have hty : s.typed = true := by unfold bn.typed; rw [hc3, hwh]; rfl
        refine bg (bT O (bg (dK O (bg (bJ 0 ah O aU O (bg (bJ 10 aI O aP O (bg (fM bY O (Fe).get.2 O (iU O O ?_))))))))))
        have hwo := zG (Fe.f11)
        have Hd7 := Fe.f11.right
        have HW0 := V.FM (c := s.was) (u := [tu, tC, tH, tJ, tK, tN, tV, tX, tY, tZ, uf]) Hd7 hwo
        obtain ⟨s1, qK, ZW⟩ : ∃ s1, s1 = s.jh ∧ V w0 (w6.drew) (eP e s1 • F) := ⟨_, hs1, V.iq (hs1 ▸ wX gK) dD HW0.f11.f11.f11.f11.f11.f11.f11.f11.f11.f11⟩
        have hr1 : s1.c.run = s.c.run := by rw [qK]; unfold bn.jh; split <;> rfl
        refine dS O func84 (sQ ZW) ?_
        rintro _ w8 H8
        obtain ⟨on, hon, HZ⟩ : ∃ on, (s.typed && s.c.run) = on ∧ V w0 w8 (eP e (s1.fU on) • F) := ⟨_, by rw [hty]; rfl, H8⟩
        refine qQ ?_
        obtain ⟨wM, wO, wP, wQ, wR, wS, wU, wV, uN, tu, tC, tH, tJ, tK, tN, tV, tX, tY, tZ, uf, gK, dD, kM, iw⟩ := (HZ).GI
        refine aC (jR O O (jG O (fun h6 => ?_) (fun h6 => ?_)))
        · (try simp only [aA] at h6)
          have hw2 : s.whole = true := h6
          refine bg (bT O (bg (jG O (fun h7 => ?_) (fun h7 => ?_))))
          · (try simp only [aA] at h7)
            have hrun : (s.typed && (!s.put.isEmpty || s.c.run)) = true := by first | exact absurd (hw2.symm.trans hwh) (by decide) | (rw [qU, decide_eq_false (show ¬ s.put.length = 0 by omega), hty]; rfl)
            refine bF (bF (bF (bF (bF (bg (iU O O (iU O O (dK O (bJ 0 ah O aU O (bJ 10 aI O aP O (aJ (eX 10 iw aP) ?_)))))))))))
            rintro _ w10 pR
            refine rG O (nG O O (bJ 28 ah O ay O (fM aH O (pR).get.2 O (dK O (bJ 0 ah O aU O (bJ 6 aI O ay O (aJ (eX 6 pR ay) ?_)))))))
            rintro _ Fv tq
            refine qQ (bQ O (dK O (bJ 28 ah O ay O (fM aH O (tq).get.2 O (Z (ig O O) (jB O (fun h8 => ?_) (fun h8 => ?_)))))))
            · (try simp only [aA] at h8)
              have wY := kZ qK hon hrun h8
              refine aC (jR O O (dK O (bJ 0 ah O aU O (bJ 7 aI O ay O (aJ (eX 7 tq ay) ?_)))))
              rintro _ w12 vZ
              refine dK O (bJ 0 ah O aU O (bJ 8 aI O ay O (aJ (eX 8 vZ ay) ?_)))
              rintro _ Qh wo
              refine iJ (jM O (dL eU O ?_))
              refine ⟨O, ?_⟩
              first
                | exact absurd (hw2.symm.trans hwh) (by decide)
                | exact absurd (hwh.symm.trans hw2) (by decide)
                | (rw [wY]; exact V.iq gK dD wo.f11.f11.f11.f11.f11.f11.f11.f11.f11.f11.f11)
            · (try simp only [aA] at h8)
              have wY := kH qK hon hrun h8
              refine gG (jM O (dL eU O ?_))
              refine ⟨O, ?_⟩
              first
                | exact absurd (hw2.symm.trans hwh) (by decide)
                | exact absurd (hwh.symm.trans hw2) (by decide)
                | (rw [wY]; exact V.iq gK dD tq.f11.f11.f11.f11.f11.f11.f11.f11.f11.f11.f11)
          · (try simp only [aA] at h7)
            have hrun : (s.typed && (!s.put.isEmpty || s.c.run)) = (s1.fU on).c.run := by first | exact absurd (hw2.symm.trans hwh) (by decide) | (rw [qU, decide_eq_true (show s.put.length = 0 by omega), hty, Ce, hr1]; rfl)
            refine bg (bT O (bg (dK O (bg (bJ 0 ah O aU O (bg (bJ 10 aI O aP O (bg (fM bY O (iw).get.2 O (bg (iH O O (iU O O (dK O (bJ 0 ah O aU O (bJ 10 aI O aP O (aJ (eX 10 iw aP) ?_))))))))))))))))
            rintro _ OQ AZ
            refine rG O (nG O O (bJ 28 ah O ay O (fM aH O (AZ).get.2 O (dK O (bJ 0 ah O aU O (bJ 6 aI O ay O (aJ (eX 6 AZ ay) ?_)))))))
            rintro _ QE zU
            refine qQ (bQ O (dK O (bJ 28 ah O ay O (fM aH O (zU).get.2 O (Z (ig O O) (jB O (fun h9 => ?_) (fun h9 => ?_)))))))
            · (try simp only [aA] at h9)
              have wY := kZ qK hon hrun h9
              refine aC (jR O O (dK O (bJ 0 ah O aU O (bJ 7 aI O ay O (aJ (eX 7 zU ay) ?_)))))
              rintro _ w16 vw
              refine dK O (bJ 0 ah O aU O (bJ 8 aI O ay O (aJ (eX 8 vw ay) ?_)))
              rintro _ YI Dh
              refine iJ (jM O (dL eU O ?_))
              refine ⟨O, ?_⟩
              first
                | exact absurd (hw2.symm.trans hwh) (by decide)
                | exact absurd (hwh.symm.trans hw2) (by decide)
                | (rw [wY]; exact V.iq gK dD Dh.f11.f11.f11.f11.f11.f11.f11.f11.f11.f11.f11)
            · (try simp only [aA] at h9)
              have wY := kH qK hon hrun h9
              refine gG (jM O (dL eU O ?_))
              refine ⟨O, ?_⟩
              first
                | exact absurd (hw2.symm.trans hwh) (by decide)
                | exact absurd (hwh.symm.trans hw2) (by decide)
                | (rw [wY]; exact V.iq gK dD zU.f11.f11.f11.f11.f11.f11.f11.f11.f11.f11.f11)
        · (try simp only [aA] at h6)
          have hw2 : s.whole = false := by simpa using h6
          have hrun : (s.typed && (!s.put.isEmpty || s.c.run)) = false := by first | exact absurd (hwh.symm.trans hw2) (by decide) | (rw [hty]; rfl)
          refine bF (bF (ng (ng (ng (ng (ng (bF (iH O O (dK O (bJ 0 ah O aU O (bJ 10 aI O aP O (aJ (eX 10 iw aP) ?_))))))))))))
          rintro _ YD EN
          refine rG O (nG O O (bJ 28 ah O ay O (fM aH O (EN).get.2 O (dK O (bJ 0 ah O aU O (bJ 6 aI O ay O (aJ (eX 6 EN ay) ?_)))))))
          rintro _ w19 EF
          refine qQ (bQ O (dK O (bJ 28 ah O ay O (fM aH O (EF).get.2 O (Z (ig O O) (jB O (fun h10 => ?_) (fun h10 => ?_)))))))
          · (try simp only [aA] at h10)
            have wY := kZ qK hon hrun h10
            refine aC (jR O O (dK O (bJ 0 ah O aU O (bJ 7 aI O ay O (aJ (eX 7 EF ay) ?_)))))
            rintro _ w20 F9
            refine dK O (bJ 0 ah O aU O (bJ 8 aI O ay O (aJ (eX 8 F9 ay) ?_)))
            rintro _ w21 vO
            refine iJ (jM O (dL eU O ?_))
            refine ⟨O, ?_⟩
            first
              | exact absurd (hw2.symm.trans hwh) (by decide)
              | exact absurd (hwh.symm.trans hw2) (by decide)
              | (rw [wY]; exact V.iq gK dD vO.f11.f11.f11.f11.f11.f11.f11.f11.f11.f11.f11)
          · (try simp only [aA] at h10)
            have wY := kH qK hon hrun h10
            refine gG (jM O (dL eU O ?_))
            refine ⟨O, ?_⟩
            first
              | exact absurd (hw2.symm.trans hwh) (by decide)
              | exact absurd (hwh.symm.trans hw2) (by decide)
              | (rw [wY]; exact V.iq gK dD EF.f11.f11.f11.f11.f11.f11.f11.f11.f11.f11.f11)
      · (try simp only [aA] at h5)
        have hwh : s.whole = false := by simpa using h5
        have hty : s.typed = false := by unfold bn.typed; rw [hc3, hwh]; rfl
        have hrun : (s.typed && (!s.put.isEmpty || s.c.run)) = false := by rw [hty]; rfl
        refine bF (bF (bF (bF (bF (iH O O ?_)))))
        have hwo := zG (Fe.f11)
        have Pv := Fe.f11.right
        have HW0 := V.FM (c := s.was) (u := [tu, tC, tH, tJ, tK, tN, tV, tX, tY, tZ, uf]) Pv hwo
        obtain ⟨s1, qK, ZW⟩ : ∃ s1, s1 = s.jh ∧ V w0 (w6.drew) (eP e s1 • F) := ⟨_, hs1, V.iq (hs1 ▸ wX gK) dD HW0.f11.f11.f11.f11.f11.f11.f11.f11.f11.f11⟩
        have hr1 : s1.c.run = s.c.run := by rw [qK]; unfold bn.jh; split <;> rfl
        refine dS O func84 (sQ ZW) ?_
        rintro _ w23 CQ
        obtain ⟨on, hon, HZ⟩ : ∃ on, (s.typed && s.c.run) = on ∧ V w0 w23 (eP e (s1.fU on) • F) := ⟨_, by rw [hty]; rfl, CQ⟩
        refine qQ ?_
        obtain ⟨wM, wO, wP, wQ, wR, wS, wU, wV, uN, tu, tC, tH, tJ, tK, tN, tV, tX, tY, tZ, uf, gK, dD, kM, iw⟩ := (HZ).GI
        refine aC (jR O O (jG O (fun h11 => ?_) (fun h11 => ?_)))
        · (try simp only [aA] at h11)
          have hw2 : s.whole = true := h11
          refine bg (bT O (bg (jG O (fun h12 => ?_) (fun h12 => ?_))))
          · (try simp only [aA] at h12)
            have hrun : (s.typed && (!s.put.isEmpty || s.c.run)) = true := by first | exact absurd (hw2.symm.trans hwh) (by decide) | (rw [qU, decide_eq_false (show ¬ s.put.length = 0 by omega), hty]; rfl)
            refine bF (bF (bF (bF (bF (bg (iU O O (iU O O (dK O (bJ 0 ah O aU O (bJ 10 aI O aP O (aJ (eX 10 iw aP) ?_)))))))))))
            rintro _ w25 TT
            refine rG O (nG O O (bJ 28 ah O ay O (fM aH O (TT).get.2 O (dK O (bJ 0 ah O aU O (bJ 6 aI O ay O (aJ (eX 6 TT ay) ?_)))))))
            rintro _ w26 VA
            refine qQ (bQ O (dK O (bJ 28 ah O ay O (fM aH O (VA).get.2 O (Z (ig O O) (jB O (fun h13 => ?_) (fun h13 => ?_)))))))
            · (try simp only [aA] at h13)
              have wY := kZ qK hon hrun h13
              refine aC (jR O O (dK O (bJ 0 ah O aU O (bJ 7 aI O ay O (aJ (eX 7 VA ay) ?_)))))
              rintro _ w27 NS
              refine dK O (bJ 0 ah O aU O (bJ 8 aI O ay O (aJ (eX 8 NS ay) ?_)))
              rintro _ w28 H28
              refine iJ (jM O (dL eU O ?_))
              refine ⟨O, ?_⟩
              first
                | exact absurd (hw2.symm.trans hwh) (by decide)
                | exact absurd (hwh.symm.trans hw2) (by decide)
                | (rw [wY]; exact V.iq gK dD H28.f11.f11.f11.f11.f11.f11.f11.f11.f11.f11.f11)
            · (try simp only [aA] at h13)
              have wY := kH qK hon hrun h13
              refine gG (jM O (dL eU O ?_))
              refine ⟨O, ?_⟩
              first
                | exact absurd (hw2.symm.trans hwh) (by decide)
                | exact absurd (hwh.symm.trans hw2) (by decide)
                | (rw [wY]; exact V.iq gK dD VA.f11.f11.f11.f11.f11.f11.f11.f11.f11.f11.f11)
          · (try simp only [aA] at h12)
            have hrun : (s.typed && (!s.put.isEmpty || s.c.run)) = (s1.fU on).c.run := by first | exact absurd (hw2.symm.trans hwh) (by decide) | (rw [qU, decide_eq_true (show s.put.length = 0 by omega), hty, Ce, hr1]; rfl)
            refine bg (bT O (bg (dK O (bg (bJ 0 ah O aU O (bg (bJ 10 aI O aP O (bg (fM bY O (iw).get.2 O (bg (iH O O (iU O O (dK O (bJ 0 ah O aU O (bJ 10 aI O aP O (aJ (eX 10 iw aP) ?_))))))))))))))))
            rintro _ w29 Yi
            refine rG O (nG O O (bJ 28 ah O ay O (fM aH O (Yi).get.2 O (dK O (bJ 0 ah O aU O (bJ 6 aI O ay O (aJ (eX 6 Yi ay) ?_)))))))
            rintro _ w30 VB
            refine qQ (bQ O (dK O (bJ 28 ah O ay O (fM aH O (VB).get.2 O (Z (ig O O) (jB O (fun h14 => ?_) (fun h14 => ?_)))))))
            · (try simp only [aA] at h14)
              have wY := kZ qK hon hrun h14
              refine aC (jR O O (dK O (bJ 0 ah O aU O (bJ 7 aI O ay O (aJ (eX 7 VB ay) ?_)))))
              rintro _ w31 Tn
              refine dK O (bJ 0 ah O aU O (bJ 8 aI O ay O (aJ (eX 8 Tn ay) ?_)))
              rintro _ w32 NT
              refine iJ (jM O (dL eU O ?_))
              refine ⟨O, ?_⟩
              first
                | exact absurd (hw2.symm.trans hwh) (by decide)
                | exact absurd (hwh.symm.trans hw2) (by decide)
                | (rw [wY]; exact V.iq gK dD NT.f11.f11.f11.f11.f11.f11.f11.f11.f11.f11.f11)
            · (try simp only [aA] at h14)
              have wY := kH qK hon hrun h14
              refine gG (jM O (dL eU O ?_))
              refine ⟨O, ?_⟩
              first
                | exact absurd (hw2.symm.trans hwh) (by decide)
                | exact absurd (hwh.symm.trans hw2) (by decide)
                | (rw [wY]; exact V.iq gK dD VB.f11.f11.f11.f11.f11.f11.f11.f11.f11.f11.f11)
        · (try simp only [aA] at h11)
          have hw2 : s.whole = false := by simpa using h11
          have hrun : (s.typed && (!s.put.isEmpty || s.c.run)) = false := by first | exact absurd (hwh.symm.trans hw2) (by decide) | (rw [hty]; rfl)
          refine bF (bF (ng (ng (ng (ng (ng (bF (iH O O (dK O (bJ 0 ah O aU O (bJ 10 aI O aP O (aJ (eX 10 iw aP) ?_))))))))))))
          rintro _ w33 WV
          refine rG O (nG O O (bJ 28 ah O ay O (fM aH O (WV).get.2 O (dK O (bJ 0 ah O aU O (bJ 6 aI O ay O (aJ (eX 6 WV ay) ?_)))))))
          rintro _ w34 Zp
          refine qQ (bQ O (dK O (bJ 28 ah O ay O (fM aH O (Zp).get.2 O (Z (ig O O) (jB O (fun h15 => ?_) (fun h15 => ?_)))))))
          · (try simp only [aA] at h15)
            have wY := kZ qK hon hrun h15
            refine aC (jR O O (dK O (bJ 0 ah O aU O (bJ 7 aI O ay O (aJ (eX 7 Zp ay) ?_)))))
            rintro _ w35 H35
            refine dK O (bJ 0 ah O aU O (bJ 8 aI O ay O (aJ (eX 8 H35 ay) ?_)))
            rintro _ w36 H36
            refine iJ (jM O (dL eU O ?_))
            refine ⟨O, ?_⟩
            first
              | exact absurd (hw2.symm.trans hwh) (by decide)
              | exact absurd (hwh.symm.trans hw2) (by decide)
              | (rw [wY]; exact V.iq gK dD H36.f11.f11.f11.f11.f11.f11.f11.f11.f11.f11.f11)
          · (try simp only [aA] at h15)
            have wY := kH qK hon hrun h15
            refine gG (jM O (dL eU O ?_))
            refine ⟨O, ?_⟩
            first
              | exact absurd (hw2.symm.trans hwh) (by decide)
              | exact absurd (hwh.symm.trans hw2) (by decide)
              | (rw [wY]; exact V.iq gK dD Zp.f11.f11.f11.f11.f11.f11.f11.f11.f11.f11.f11)
    · (try simp only [aA] at h4)
      have hty : s.typed = false := by unfold bn.typed; rw [beq_false_of_ne h4]; rfl
      have hrun : (s.typed && (!s.put.isEmpty || s.c.run)) = false := by rw [hty]; rfl
      refine zk 6 O O O O (by kernel_rfl) (by kernel_rfl) kE (oz O) ?_
      refine zk 7 O O O O (by kernel_rfl) (by kernel_rfl) kE (oz O) ?_
      refine zk 8 O O O O (by kernel_rfl) (by kernel_rfl) kE (oz O) ?_
      refine zk 9 O O O O (by kernel_rfl) (by kernel_rfl) kE (oz O) ?_
      refine jC 10 O kE (fun _ => Gh O O) (iQ 11 O kE O (jU 12 O kE O (gU 13 O kE 33 ah O bP O (jO 14 O kE (fun W hW => jV aW O ((Kp.h hW)).get.2 O) (jC 15 O kE (fun _ => kK ((Fe.f9).aS) aW O) (jC 16 O kE (fun _ => dY O O) (jC 17 O kE (fun _ => dR O) (jC 18 O kE (fun _ => dR O) (qV (aX (bQ O (jR O O (bF (bF (bF (bF (bF (iH O O ?_))))))))))))))))))
      have hwo := zG (Fe.f11)
      have adA := Fe.f11.right
      have HW0 := V.FM (c := s.was) (u := [tu, tC, tH, tJ, tK, tN, tV, tX, tY, tZ, uf]) adA hwo
      obtain ⟨s1, qK, ZW⟩ : ∃ s1, s1 = s.jh ∧ V w0 (w6.drew) (eP e s1 • F) := ⟨_, hs1, V.iq (hs1 ▸ wX gK) dD HW0.f11.f11.f11.f11.f11.f11.f11.f11.f11.f11⟩
      have hr1 : s1.c.run = s.c.run := by rw [qK]; unfold bn.jh; split <;> rfl
      refine dS O func84 (sQ ZW) ?_
      rintro _ w38 Uw
      obtain ⟨on, hon, HZ⟩ : ∃ on, (s.typed && s.c.run) = on ∧ V w0 w38 (eP e (s1.fU on) • F) := ⟨_, by rw [hty]; rfl, Uw⟩
      refine qQ ?_
      obtain ⟨wM, wO, wP, wQ, wR, wS, wU, wV, uN, tu, tC, tH, tJ, tK, tN, tV, tX, tY, tZ, uf, gK, dD, kM, iw⟩ := (HZ).GI
      refine aC (jR O O (bT O (bF (bF (ng (ng (ng (ng (ng (bF (iH O O (dK O (bJ 0 ah O aU O (bJ 10 aI O aP O (aJ (eX 10 iw aP) ?_)))))))))))))))
      rintro _ w40 H40
      refine rG O (nG O O (bJ 28 ah O ay O (fM aH O (H40).get.2 O (dK O (bJ 0 ah O aU O (bJ 6 aI O ay O (aJ (eX 6 H40 ay) ?_)))))))
      rintro _ w41 H41
      refine qQ (bQ O (dK O (bJ 28 ah O ay O (fM aH O (H41).get.2 O (Z (ig O O) (jB O (fun h16 => ?_) (fun h16 => ?_)))))))
      · (try simp only [aA] at h16)
        have wY := kZ qK hon hrun h16
        refine aC (jR O O (dK O (bJ 0 ah O aU O (bJ 7 aI O ay O (aJ (eX 7 H41 ay) ?_)))))
        rintro _ w42 H42
        refine dK O (bJ 0 ah O aU O (bJ 8 aI O ay O (aJ (eX 8 H42 ay) ?_)))
        rintro _ w43 H43
        refine iJ (jM O (dL eU O ?_))
        refine ⟨O, ?_⟩
        first
          | exact absurd (hw2.symm.trans hwh) (by decide)
          | exact absurd (hwh.symm.trans hw2) (by decide)
          | (rw [wY]; exact V.iq gK dD H43.f11.f11.f11.f11.f11.f11.f11.f11.f11.f11.f11)
      · (try simp only [aA] at h16)
        have wY := kH qK hon hrun h16
        refine gG (jM O (dL eU O ?_))
        refine ⟨O, ?_⟩
        first
          | exact absurd (hw2.symm.trans hwh) (by decide)
          | exact absurd (hwh.symm.trans hw2) (by decide)
          | (rw [wY]; exact V.iq gK dD H41.f11.f11.f11.f11.f11.f11.f11.f11.f11.f11.f11)
  · (try simp only [aA] at h2)
    have har : s.argues = true := by simpa using h2
    have hs1 : ({ s with inn := false } : bn) = s.jh := by unfold bn.jh; rw [if_pos har]
    refine bg (bT O (bg (Z (ig O O) (iH O O (iJ (Qg O (fun h17 => ?_)))))))
    (try simp only [aA] at h17)
    refine gG (aN (bQ O (Z (ig O O) (iJ (Qg O (fun h18 => ?_))))))
    (try simp only [aA] at h18)
    refine gG (aN ?_)
    have AX := H3.drew
    have jc := V.kp (AX.f11.f11.f11.f11.f11.f11.f11.f11.f11.f11.f11)
    refine yH [3, 9, 14] jc O (iQ 0 O jc O (jU 1 O jc O (gU 2 O jc 28 ah O ay O (jO 3 O jc (fun W hW => jV aH O ((Kp.h hW)).get.2 O) (jC 4 O jc (fun _ => dX O O) ?_)))))
    refine JQ 5 O O (by kernel_rfl) (by kernel_rfl) jc (oz O) (fun h19 => ?_) (fun h19 => ?_)
    · (try simp only [aA] at h19)
      have hc3 : s.cls = 3 := h19
      refine kQ 6 O O O (by kernel_rfl) (by kernel_rfl) jc (fun _ => Fj O) (oz O) ?_
      refine kQ 7 O O O (by kernel_rfl) (by kernel_rfl) jc (fun _ => Qn O) (oz O) ?_
      refine kQ 8 O O O (by kernel_rfl) (by kernel_rfl) jc (fun _ => Gi 32 ah O O aP (by decide) O rfl) (oz O) ?_
      refine Dl 9 O O O (by kernel_rfl) (by kernel_rfl) jc (by decide) (fun W hW => fK (dA bY O) O (kF ((Kp.h hW)).get.2 O)) (oz O) ?_
      refine jC 10 O jc (fun _ => Gg O O) (iQ 11 O jc O (jU 12 O jc O (gU 13 O jc 33 ah O bP O (jO 14 O jc (fun W hW => jV aW O ((Kp.h hW)).get.2 O) (jC 15 O jc (fun _ => kK ((AX.f9).aS) aW O) (jC 16 O jc (fun _ => dY O O) (jC 17 O jc (fun _ => dR O) (jC 18 O jc (fun _ => dR O) (qV (aX (bQ O (bT O (jG O (fun h20 => ?_) (fun h20 => ?_))))))))))))))
      · (try simp only [aA] at h20)
        have hwh : s.whole = true := h20
        have hty : s.typed = true := by unfold bn.typed; rw [hc3, hwh]; rfl
        refine bg (bT O (bg (dK O (bg (bJ 0 ah O aU O (bg (bJ 10 aI O aP O (bg (fM bY O (AX).get.2 O (iU O O ?_))))))))))
        have hwo := zG (AX.f11)
        have agH := AX.f11.right
        have HW0 := V.FM (c := s.was) (u := [tu, tC, tH, tJ, tK, tN, tV, tX, tY, tZ, uf]) agH hwo
        obtain ⟨s1, qK, ZW⟩ : ∃ s1, s1 = s.jh ∧ V w0 (w3.drew) (eP e s1 • F) := ⟨_, hs1, V.iq (hs1 ▸ wX gK) dD HW0.f11.f11.f11.f11.f11.f11.f11.f11.f11.f11⟩
        have hr1 : s1.c.run = s.c.run := by rw [qK]; unfold bn.jh; split <;> rfl
        refine dS O func84 (sQ ZW) ?_
        rintro _ w45 Tq
        obtain ⟨on, hon, HZ⟩ : ∃ on, (s.typed && s.c.run) = on ∧ V w0 w45 (eP e (s1.fU on) • F) := ⟨_, by rw [hty]; rfl, Tq⟩
        refine qQ ?_
        obtain ⟨wM, wO, wP, wQ, wR, wS, wU, wV, uN, tu, tC, tH, tJ, tK, tN, tV, tX, tY, tZ, uf, gK, dD, kM, iw⟩ := (HZ).GI
        refine aC (jR O O (jG O (fun h21 => ?_) (fun h21 => ?_)))
        · (try simp only [aA] at h21)
          have hw2 : s.whole = true := h21
          refine bg (bT O (bg (jG O (fun h22 => ?_) (fun h22 => ?_))))
          · (try simp only [aA] at h22)
            have hrun : (s.typed && (!s.put.isEmpty || s.c.run)) = true := by first | exact absurd (hw2.symm.trans hwh) (by decide) | (rw [qU, decide_eq_false (show ¬ s.put.length = 0 by omega), hty]; rfl)
            refine bF (bF (bF (bF (bF (bg (iU O O (iU O O (dK O (bJ 0 ah O aU O (bJ 10 aI O aP O (aJ (eX 10 iw aP) ?_)))))))))))
            rintro _ w47 H47
            refine rG O (nG O O (bJ 28 ah O ay O (fM aH O (H47).get.2 O (dK O (bJ 0 ah O aU O (bJ 6 aI O ay O (aJ (eX 6 H47 ay) ?_)))))))
            rintro _ w48 H48
            refine qQ (bQ O (dK O (bJ 28 ah O ay O (fM aH O (H48).get.2 O (Z (ig O O) (jB O (fun h23 => ?_) (fun h23 => ?_)))))))
            · (try simp only [aA] at h23)
              have wY := kZ qK hon hrun h23
              refine aC (jR O O (dK O (bJ 0 ah O aU O (bJ 7 aI O ay O (aJ (eX 7 H48 ay) ?_)))))
              rintro _ w49 H49
              refine dK O (bJ 0 ah O aU O (bJ 8 aI O ay O (aJ (eX 8 H49 ay) ?_)))
              rintro _ w50 H50
              refine iJ (jM O (dL eU O ?_))
              refine ⟨O, ?_⟩
              first
                | exact absurd (hw2.symm.trans hwh) (by decide)
                | exact absurd (hwh.symm.trans hw2) (by decide)
                | (rw [wY]; exact V.iq gK dD H50.f11.f11.f11.f11.f11.f11.f11.f11.f11.f11.f11)
            · (try simp only [aA] at h23)
              have wY := kH qK hon hrun h23
              refine gG (jM O (dL eU O ?_))
              refine ⟨O, ?_⟩
              first
                | exact absurd (hw2.symm.trans hwh) (by decide)
                | exact absurd (hwh.symm.trans hw2) (by decide)
                | (rw [wY]; exact V.iq gK dD H48.f11.f11.f11.f11.f11.f11.f11.f11.f11.f11.f11)
          · (try simp only [aA] at h22)
            have hrun : (s.typed && (!s.put.isEmpty || s.c.run)) = (s1.fU on).c.run := by first | exact absurd (hw2.symm.trans hwh) (by decide) | (rw [qU, decide_eq_true (show s.put.length = 0 by omega), hty, Ce, hr1]; rfl)
            refine bg (bT O (bg (dK O (bg (bJ 0 ah O aU O (bg (bJ 10 aI O aP O (bg (fM bY O (iw).get.2 O (bg (iH O O (iU O O (dK O (bJ 0 ah O aU O (bJ 10 aI O aP O (aJ (eX 10 iw aP) ?_))))))))))))))))
            rintro _ w51 H51
            refine rG O (nG O O (bJ 28 ah O ay O (fM aH O (H51).get.2 O (dK O (bJ 0 ah O aU O (bJ 6 aI O ay O (aJ (eX 6 H51 ay) ?_)))))))
            rintro _ w52 H52
            refine qQ (bQ O (dK O (bJ 28 ah O ay O (fM aH O (H52).get.2 O (Z (ig O O) (jB O (fun h24 => ?_) (fun h24 => ?_)))))))
            · (try simp only [aA] at h24)
              have wY := kZ qK hon hrun h24
              refine aC (jR O O (dK O (bJ 0 ah O aU O (bJ 7 aI O ay O (aJ (eX 7 H52 ay) ?_)))))
              rintro _ w53 H53
              refine dK O (bJ 0 ah O aU O (bJ 8 aI O ay O (aJ (eX 8 H53 ay) ?_)))
              rintro _ w54 H54
              refine iJ (jM O (dL eU O ?_))
              refine ⟨O, ?_⟩
              first
                | exact absurd (hw2.symm.trans hwh) (by decide)
                | exact absurd (hwh.symm.trans hw2) (by decide)
                | (rw [wY]; exact V.iq gK dD H54.f11.f11.f11.f11.f11.f11.f11.f11.f11.f11.f11)
            · (try simp only [aA] at h24)
              have wY := kH qK hon hrun h24
              refine gG (jM O (dL eU O ?_))
              refine ⟨O, ?_⟩
              first
                | exact absurd (hw2.symm.trans hwh) (by decide)
                | exact absurd (hwh.symm.trans hw2) (by decide)
                | (rw [wY]; exact V.iq gK dD H52.f11.f11.f11.f11.f11.f11.f11.f11.f11.f11.f11)
        · (try simp only [aA] at h21)
          have hw2 : s.whole = false := by simpa using h21
          have hrun : (s.typed && (!s.put.isEmpty || s.c.run)) = false := by first | exact absurd (hwh.symm.trans hw2) (by decide) | (rw [hty]; rfl)
          refine bF (bF (ng (ng (ng (ng (ng (bF (iH O O (dK O (bJ 0 ah O aU O (bJ 10 aI O aP O (aJ (eX 10 iw aP) ?_))))))))))))
          rintro _ w55 H55
          refine rG O (nG O O (bJ 28 ah O ay O (fM aH O (H55).get.2 O (dK O (bJ 0 ah O aU O (bJ 6 aI O ay O (aJ (eX 6 H55 ay) ?_)))))))
          rintro _ w56 H56
          refine qQ (bQ O (dK O (bJ 28 ah O ay O (fM aH O (H56).get.2 O (Z (ig O O) (jB O (fun h25 => ?_) (fun h25 => ?_)))))))
          · (try simp only [aA] at h25)
            have wY := kZ qK hon hrun h25
            refine aC (jR O O (dK O (bJ 0 ah O aU O (bJ 7 aI O ay O (aJ (eX 7 H56 ay) ?_)))))
            rintro _ w57 H57
            refine dK O (bJ 0 ah O aU O (bJ 8 aI O ay O (aJ (eX 8 H57 ay) ?_)))
            rintro _ w58 H58
            refine iJ (jM O (dL eU O ?_))
            refine ⟨O, ?_⟩
            first
              | exact absurd (hw2.symm.trans hwh) (by decide)
              | exact absurd (hwh.symm.trans hw2) (by decide)
              | (rw [wY]; exact V.iq gK dD H58.f11.f11.f11.f11.f11.f11.f11.f11.f11.f11.f11)
          · (try simp only [aA] at h25)
            have wY := kH qK hon hrun h25
            refine gG (jM O (dL eU O ?_))
            refine ⟨O, ?_⟩
            first
              | exact absurd (hw2.symm.trans hwh) (by decide)
              | exact absurd (hwh.symm.trans hw2) (by decide)
              | (rw [wY]; exact V.iq gK dD H56.f11.f11.f11.f11.f11.f11.f11.f11.f11.f11.f11)
      · (try simp only [aA] at h20)
        have hwh : s.whole = false := by simpa using h20
        have hty : s.typed = false := by unfold bn.typed; rw [hc3, hwh]; rfl
        have hrun : (s.typed && (!s.put.isEmpty || s.c.run)) = false := by rw [hty]; rfl
        refine bF (bF (bF (bF (bF (iH O O ?_)))))
        have hwo := zG (AX.f11)
        have agI := AX.f11.right
        have HW0 := V.FM (c := s.was) (u := [tu, tC, tH, tJ, tK, tN, tV, tX, tY, tZ, uf]) agI hwo
        obtain ⟨s1, qK, ZW⟩ : ∃ s1, s1 = s.jh ∧ V w0 (w3.drew) (eP e s1 • F) := ⟨_, hs1, V.iq (hs1 ▸ wX gK) dD HW0.f11.f11.f11.f11.f11.f11.f11.f11.f11.f11⟩
        have hr1 : s1.c.run = s.c.run := by rw [qK]; unfold bn.jh; split <;> rfl
        refine dS O func84 (sQ ZW) ?_
        rintro _ w60 H60
        obtain ⟨on, hon, HZ⟩ : ∃ on, (s.typed && s.c.run) = on ∧ V w0 w60 (eP e (s1.fU on) • F) := ⟨_, by rw [hty]; rfl, H60⟩
        refine qQ ?_
        obtain ⟨wM, wO, wP, wQ, wR, wS, wU, wV, uN, tu, tC, tH, tJ, tK, tN, tV, tX, tY, tZ, uf, gK, dD, kM, iw⟩ := (HZ).GI
        refine aC (jR O O (jG O (fun h26 => ?_) (fun h26 => ?_)))
        · (try simp only [aA] at h26)
          have hw2 : s.whole = true := h26
          refine bg (bT O (bg (jG O (fun h27 => ?_) (fun h27 => ?_))))
          · (try simp only [aA] at h27)
            have hrun : (s.typed && (!s.put.isEmpty || s.c.run)) = true := by first | exact absurd (hw2.symm.trans hwh) (by decide) | (rw [qU, decide_eq_false (show ¬ s.put.length = 0 by omega), hty]; rfl)
            refine bF (bF (bF (bF (bF (bg (iU O O (iU O O (dK O (bJ 0 ah O aU O (bJ 10 aI O aP O (aJ (eX 10 iw aP) ?_)))))))))))
            rintro _ w62 H62
            refine rG O (nG O O (bJ 28 ah O ay O (fM aH O (H62).get.2 O (dK O (bJ 0 ah O aU O (bJ 6 aI O ay O (aJ (eX 6 H62 ay) ?_)))))))
            rintro _ w63 H63
            refine qQ (bQ O (dK O (bJ 28 ah O ay O (fM aH O (H63).get.2 O (Z (ig O O) (jB O (fun h28 => ?_) (fun h28 => ?_)))))))
            · (try simp only [aA] at h28)
              have wY := kZ qK hon hrun h28
              refine aC (jR O O (dK O (bJ 0 ah O aU O (bJ 7 aI O ay O (aJ (eX 7 H63 ay) ?_)))))
              rintro _ w64 H64
              refine dK O (bJ 0 ah O aU O (bJ 8 aI O ay O (aJ (eX 8 H64 ay) ?_)))
              rintro _ w65 H65
              refine iJ (jM O (dL eU O ?_))
              refine ⟨O, ?_⟩
              first
                | exact absurd (hw2.symm.trans hwh) (by decide)
                | exact absurd (hwh.symm.trans hw2) (by decide)
                | (rw [wY]; exact V.iq gK dD H65.f11.f11.f11.f11.f11.f11.f11.f11.f11.f11.f11)
            · (try simp only [aA] at h28)
              have wY := kH qK hon hrun h28
              refine gG (jM O (dL eU O ?_))
              refine ⟨O, ?_⟩
              first
                | exact absurd (hw2.symm.trans hwh) (by decide)
                | exact absurd (hwh.symm.trans hw2) (by decide)
                | (rw [wY]; exact V.iq gK dD H63.f11.f11.f11.f11.f11.f11.f11.f11.f11.f11.f11)
          · (try simp only [aA] at h27)
            have hrun : (s.typed && (!s.put.isEmpty || s.c.run)) = (s1.fU on).c.run := by first | exact absurd (hw2.symm.trans hwh) (by decide) | (rw [qU, decide_eq_true (show s.put.length = 0 by omega), hty, Ce, hr1]; rfl)
            refine bg (bT O (bg (dK O (bg (bJ 0 ah O aU O (bg (bJ 10 aI O aP O (bg (fM bY O (iw).get.2 O (bg (iH O O (iU O O (dK O (bJ 0 ah O aU O (bJ 10 aI O aP O (aJ (eX 10 iw aP) ?_))))))))))))))))
            rintro _ w66 H66
            refine rG O (nG O O (bJ 28 ah O ay O (fM aH O (H66).get.2 O (dK O (bJ 0 ah O aU O (bJ 6 aI O ay O (aJ (eX 6 H66 ay) ?_)))))))
            rintro _ w67 H67
            refine qQ (bQ O (dK O (bJ 28 ah O ay O (fM aH O (H67).get.2 O (Z (ig O O) (jB O (fun h29 => ?_) (fun h29 => ?_)))))))
            · (try simp only [aA] at h29)
              have wY := kZ qK hon hrun h29
              refine aC (jR O O (dK O (bJ 0 ah O aU O (bJ 7 aI O ay O (aJ (eX 7 H67 ay) ?_)))))
              rintro _ w68 H68
              refine dK O (bJ 0 ah O aU O (bJ 8 aI O ay O (aJ (eX 8 H68 ay) ?_)))
              rintro _ w69 H69
              refine iJ (jM O (dL eU O ?_))
              refine ⟨O, ?_⟩
              first
                | exact absurd (hw2.symm.trans hwh) (by decide)
                | exact absurd (hwh.symm.trans hw2) (by decide)
                | (rw [wY]; exact V.iq gK dD H69.f11.f11.f11.f11.f11.f11.f11.f11.f11.f11.f11)
            · (try simp only [aA] at h29)
              have wY := kH qK hon hrun h29
              refine gG (jM O (dL eU O ?_))
              refine ⟨O, ?_⟩
              first
                | exact absurd (hw2.symm.trans hwh) (by decide)
                | exact absurd (hwh.symm.trans hw2) (by decide)
                | (rw [wY]; exact V.iq gK dD H67.f11.f11.f11.f11.f11.f11.f11.f11.f11.f11.f11)
        · (try simp only [aA] at h26)
          have hw2 : s.whole = false := by simpa using h26
          have hrun : (s.typed && (!s.put.isEmpty || s.c.run)) = false := by first | exact absurd (hwh.symm.trans hw2) (by decide) | (rw [hty]; rfl)
          refine bF (bF (ng (ng (ng (ng (ng (bF (iH O O (dK O (bJ 0 ah O aU O (bJ 10 aI O aP O (aJ (eX 10 iw aP) ?_))))))))))))
          rintro _ w70 H70
          refine rG O (nG O O (bJ 28 ah O ay O (fM aH O (H70).get.2 O (dK O (bJ 0 ah O aU O (bJ 6 aI O ay O (aJ (eX 6 H70 ay) ?_)))))))
          rintro _ w71 H71
          refine qQ (bQ O (dK O (bJ 28 ah O ay O (fM aH O (H71).get.2 O (Z (ig O O) (jB O (fun h30 => ?_) (fun h30 => ?_)))))))
          · (try simp only [aA] at h30)
            have wY := kZ qK hon hrun h30
            refine aC (jR O O (dK O (bJ 0 ah O aU O (bJ 7 aI O ay O (aJ (eX 7 H71 ay) ?_)))))
            rintro _ w72 H72
            refine dK O (bJ 0 ah O aU O (bJ 8 aI O ay O (aJ (eX 8 H72 ay) ?_)))
            rintro _ w73 H73
            refine iJ (jM O (dL eU O ?_))
            refine ⟨O, ?_⟩
            first
              | exact absurd (hw2.symm.trans hwh) (by decide)
              | exact absurd (hwh.symm.trans hw2) (by decide)
              | (rw [wY]; exact V.iq gK dD H73.f11.f11.f11.f11.f11.f11.f11.f11.f11.f11.f11)
          · (try simp only [aA] at h30)
            have wY := kH qK hon hrun h30
            refine gG (jM O (dL eU O ?_))
            refine ⟨O, ?_⟩
            first
              | exact absurd (hw2.symm.trans hwh) (by decide)
              | exact absurd (hwh.symm.trans hw2) (by decide)
              | (rw [wY]; exact V.iq gK dD H71.f11.f11.f11.f11.f11.f11.f11.f11.f11.f11.f11)
    · (try simp only [aA] at h19)
      have hty : s.typed = false := by unfold bn.typed; rw [beq_false_of_ne h19]; rfl
      have hrun : (s.typed && (!s.put.isEmpty || s.c.run)) = false := by rw [hty]; rfl
      refine zk 6 O O O O (by kernel_rfl) (by kernel_rfl) jc (oz O) ?_
      refine zk 7 O O O O (by kernel_rfl) (by kernel_rfl) jc (oz O) ?_
      refine zk 8 O O O O (by kernel_rfl) (by kernel_rfl) jc (oz O) ?_
      refine zk 9 O O O O (by kernel_rfl) (by kernel_rfl) jc (oz O) ?_
      refine jC 10 O jc (fun _ => Gh O O) (iQ 11 O jc O (jU 12 O jc O (gU 13 O jc 33 ah O bP O (jO 14 O jc (fun W hW => jV aW O ((Kp.h hW)).get.2 O) (jC 15 O jc (fun _ => kK ((AX.f9).aS) aW O) (jC 16 O jc (fun _ => dY O O) (jC 17 O jc (fun _ => dR O) (jC 18 O jc (fun _ => dR O) (qV (aX (bQ O (jR O O (bF (bF (bF (bF (bF (iH O O ?_))))))))))))))))))
      have hwo := zG (AX.f11)
      have agJ := AX.f11.right
      have HW0 := V.FM (c := s.was) (u := [tu, tC, tH, tJ, tK, tN, tV, tX, tY, tZ, uf]) agJ hwo
      obtain ⟨s1, qK, ZW⟩ : ∃ s1, s1 = s.jh ∧ V w0 (w3.drew) (eP e s1 • F) := ⟨_, hs1, V.iq (hs1 ▸ wX gK) dD HW0.f11.f11.f11.f11.f11.f11.f11.f11.f11.f11⟩
      have hr1 : s1.c.run = s.c.run := by rw [qK]; unfold bn.jh; split <;> rfl
      refine dS O func84 (sQ ZW) ?_
      rintro _ w75 H75
      obtain ⟨on, hon, HZ⟩ : ∃ on, (s.typed && s.c.run) = on ∧ V w0 w75 (eP e (s1.fU on) • F) := ⟨_, by rw [hty]; rfl, H75⟩
      refine qQ ?_
      obtain ⟨wM, wO, wP, wQ, wR, wS, wU, wV, uN, tu, tC, tH, tJ, tK, tN, tV, tX, tY, tZ, uf, gK, dD, kM, iw⟩ := (HZ).GI
      refine aC (jR O O (bT O (bF (bF (ng (ng (ng (ng (ng (bF (iH O O (dK O (bJ 0 ah O aU O (bJ 10 aI O aP O (aJ (eX 10 iw aP) ?_)))))))))))))))
      rintro _ w77 H77
      refine rG O (nG O O (bJ 28 ah O ay O (fM aH O (H77).get.2 O (dK O (bJ 0 ah O aU O (bJ 6 aI O ay O (aJ (eX 6 H77 ay) ?_)))))))
      rintro _ w78 H78
      refine qQ (bQ O (dK O (bJ 28 ah O ay O (fM aH O (H78).get.2 O (Z (ig O O) (jB O (fun h31 => ?_) (fun h31 => ?_)))))))
      · (try simp only [aA] at h31)
        have wY := kZ qK hon hrun h31
        refine aC (jR O O (dK O (bJ 0 ah O aU O (bJ 7 aI O ay O (aJ (eX 7 H78 ay) ?_)))))
        rintro _ w79 H79
        refine dK O (bJ 0 ah O aU O (bJ 8 aI O ay O (aJ (eX 8 H79 ay) ?_)))
        rintro _ w80 H80
        refine iJ (jM O (dL eU O ?_))
        refine ⟨O, ?_⟩
        first
          | exact absurd (hw2.symm.trans hwh) (by decide)
          | exact absurd (hwh.symm.trans hw2) (by decide)
          | (rw [wY]; exact V.iq gK dD H80.f11.f11.f11.f11.f11.f11.f11.f11.f11.f11.f11)
      · (try simp only [aA] at h31)
        have wY := kH qK hon hrun h31
        refine gG (jM O (dL eU O ?_))
        refine ⟨O, ?_⟩
        first
          | exact absurd (hw2.symm.trans hwh) (by decide)
          | exact absurd (hwh.symm.trans hw2) (by decide)
          | (rw [wY]; exact V.iq gK dD H78.f11.f11.f11.f11.f11.f11.f11.f11.f11.f11.f11)
theorem Ew {s : bn} {x : Int} (hin : s.inn = true) (hx : x ≠ 0) : s.jY x = s.zy ∧ s.AO x = x := by
  unfold bn.jY bn.AO
  rw [if_pos hin, if_neg hx, if_pos hin]; exact ⟨rfl, rfl⟩
theorem UK {s : bn} (h : mM s) (hin : s.inn = true) : mM s.zy := by
  obtain ⟨h1, h2, h3⟩ := h.2.1 hin
  exact ⟨h1, fun h => Bool.noConfusion h, ⟨by show (-1 : Int) ≤ -1; decide, by show (-1 : Int) ≤ 1000000; decide⟩, by simp [bn.zy], h2, h3⟩
theorem UL (hin : s.inn = true) (hx : x ≠ 0) (H : V w0 w (eP e s • F)) : iE prog 31 #[.pointer (some ⟨e, 0, none⟩), .int .i64 x] w fun v w' => v = .int .i64 x ∧ V w0 w' (eP e s.zy • F) := by
 have hpe : s.Bg = 0 := by unfold bn.Bg; rw [if_pos hin]
 refine oV func31 ntmps31 ?_
 refine jQ O (aN (bQ O (dS O func81 (nS H) ?_)))
 rintro _ _ ⟨rfl, rfl⟩
 refine fG O (bQ O (Z (ig O O) (jB O (fun h => by exfalso; (try simp only [aA] at h); exact h hpe) (fun h1 => ?_))))
 (try simp only [aA] at h1)
 refine gG (aN ?_)
 obtain ⟨wM, wO, wP, wQ, wR, wS, wU, wV, uN, tu, tC, tH, tJ, tK, tN, tV, tX, tY, tZ, uf, gK, dD, kM, iw⟩ := (H).GI
 have HI := iw
 rw [hin] at HI
 obtain ⟨qb, qr, qw, qt, qm, hu, HW⟩ := (HI.f11).was
 simp only [Rh, List.cons.injEq, and_true] at hu
 obtain ⟨rfl, rfl, rfl, rfl, rfl, rfl, rfl, rfl, rfl, rfl, rfl⟩ := hu
 refine aC (nG O O (bJ 16 ah O aP O (aJ (eX 16 HW.f6 aP) ?_)))
 rintro _ w3 H3
 refine qQ (bQ O (dK O (bJ 31 ah O aP O (fM bY O (H3).get.2 O (Z (lJ O) (jG O (fun h2 => ?_) (fun h2 => ?_)))))))
 ·(try simp only [aA] at h2)
  refine bF (bF (iU O O (iJ (CP (aC (jR O O (nG O O (bJ 13 ah O aP O (aJ (eX 13 H3 aP) ?_)))))))))
  rintro _ w4 H4
  refine dK O (bJ 14 ah O aP O (aJ (eX 14 H4 aP) ?_))
  rintro _ w5 H5
  refine dK O (bJ 15 ah O ay O (aJ (eX 15 H5 ay) ?_))
  rintro _ w6 H6
  refine qQ (bQ O (Z (ig O O) (jB O (fun h3 => ?_) (fun h => by exfalso; (try simp only [aA] at h); exact hx h))))
  (try simp only [aA] at h3)
  refine bQ O (nG O O (bJ 17 ah O aU O (Z (qx 17 (xs := [_, _, _, _, _, _, _, _, _, _, _]) aI O aU O O (H6).get.2 O) (dK O (bJ 0 ah O aU O (aJ (dB 0 (l' := [_, _, _, _, _, _, _, _, _, _, _, _, _, _, _, _, _, _, _, _, _, _, _, _, _, _, _, _, _, _, _, _, _, _]) (us := [_, _, _, _, _, _, _, _, _, _, _]) H6 aU O O O (aG (aG (aG (aG (aG (aG (aG (aG (aG (aG (aG bU))))))))))) O O) ?_))))))
  rintro _ w7 H7
  refine rG O (dK O (bJ 12 ah O sizeOf79 O (fM underlying79 O (H7).get.2 O (dS O func83 (GK H7.f13) ?_))))
  rintro _ w8 ⟨rfl, H8⟩
  refine rG O (jR O O (nG O O (bJ 0 ah O aU O (bJ 6 aI O ay O (aJ (eX 6 H8.f2 ay) ?_)))))
  rintro _ w9 H9
  refine dK O (bJ 0 ah O aU O (bJ 7 aI O ay O (aJ (eX 7 H9 ay) ?_)))
  rintro _ w10 pR
  refine dK O (bJ 0 ah O aU O (bJ 8 aI O ay O (aJ (eX 8 pR ay) ?_)))
  rintro _ Fv tq
  refine dK O (bJ 33 ah O bP O (aJ (eX 33 tq bP) ?_))
  rintro _ w12 vZ
  refine rG O (fB O (aB (dL eU O ?_)))
  exact ⟨O, V.Ux (s := s.zy) (UK gK hin) O O vZ.f8.right.f8.right.f8.right.f8.right.f8.right.f9.right.f9.right.f2.f8.f8.f8.f8.f8.f8.f8⟩
 ·(try simp only [aA] at h2)
  refine bg (bT O (bg (Z (ig O O) (iH O O (jB O (fun h4 => ?_) (fun h => by exfalso; (try simp only [aA] at h); exact hx h))))))
  (try simp only [aA] at h4)
  refine aC (jR O O (nG O O (bJ 13 ah O aP O (aJ (eX 13 H3 aP) ?_))))
  rintro _ Qh wo
  refine dK O (bJ 14 ah O aP O (aJ (eX 14 wo aP) ?_))
  rintro _ OQ AZ
  refine dK O (bJ 15 ah O ay O (aJ (eX 15 AZ ay) ?_))
  rintro _ QE zU
  refine qQ (bQ O (Z (ig O O) (jB O (fun h5 => ?_) (fun h => by exfalso; (try simp only [aA] at h); exact hx h))))
  (try simp only [aA] at h5)
  refine bQ O (nG O O (bJ 17 ah O aU O (Z (qx 17 (xs := [_, _, _, _, _, _, _, _, _, _, _]) aI O aU O O (zU).get.2 O) (dK O (bJ 0 ah O aU O (aJ (dB 0 (l' := [_, _, _, _, _, _, _, _, _, _, _, _, _, _, _, _, _, _, _, _, _, _, _, _, _, _, _, _, _, _, _, _, _, _]) (us := [_, _, _, _, _, _, _, _, _, _, _]) zU aU O O O (aG (aG (aG (aG (aG (aG (aG (aG (aG (aG (aG bU))))))))))) O O) ?_))))))
  rintro _ w16 vw
  refine rG O (dK O (bJ 12 ah O sizeOf79 O (fM underlying79 O (vw).get.2 O (dS O func83 (GK vw.f13) ?_))))
  rintro _ YI ⟨rfl, Dh⟩
  refine rG O (jR O O (nG O O (bJ 0 ah O aU O (bJ 6 aI O ay O (aJ (eX 6 Dh.f2 ay) ?_)))))
  rintro _ YD EN
  refine dK O (bJ 0 ah O aU O (bJ 7 aI O ay O (aJ (eX 7 EN ay) ?_)))
  rintro _ w19 EF
  refine dK O (bJ 0 ah O aU O (bJ 8 aI O ay O (aJ (eX 8 EF ay) ?_)))
  rintro _ w20 F9
  refine dK O (bJ 33 ah O bP O (aJ (eX 33 F9 bP) ?_))
  rintro _ w21 vO
  refine rG O (fB O (aB (dL eU O ?_)))
  exact ⟨O, V.Ux (s := s.zy) (UK gK hin) O O vO.f8.right.f8.right.f8.right.f8.right.f8.right.f9.right.f9.right.f2.f8.f8.f8.f8.f8.f8.f8⟩
theorem zM (H : V w0 w (eP e s • F)) : iE prog 31 #[.pointer (some ⟨e, 0, none⟩), .int .i64 x] w fun v w' => v = .int .i64 (s.AO x) ∧ V w0 w' (eP e (s.jY x) • F) := by
  by_cases hin : s.inn = true
  · by_cases hx : x = 0
    · subst hx
      rw [show s.jY 0 = s.jX from by unfold bn.jY; rw [if_pos hin, if_pos rfl], show s.AO 0 = 0 from by unfold bn.AO; rw [if_pos hin]]
      exact RY hin H
    · rw [(Ew hin hx).1, (Ew hin hx).2]
      exact UL hin hx H
  · have hin' : s.inn = false := by simpa using hin
    have hpe : s.Bg = 1 := by unfold bn.Bg; rw [if_neg hin]
    rw [show s.jY x = s from by unfold bn.jY; rw [if_neg hin], show s.AO x = 1 from by unfold bn.AO; rw [if_neg hin]]
    refine oV func31 ntmps31 ?_
    refine jQ O (aN (bQ O (dS O func81 (nS H) ?_)))
    rintro _ _ ⟨rfl, rfl⟩
    refine fG O (bQ O (Z (ig O O) (jB O (fun h1 => ?_) (fun h => by exfalso; (try simp only [aA] at h); rw [hpe] at h; exact absurd h (by decide)))))
    (try simp only [aA] at h1)
    refine bQ O (fB O (aB (dL eU O ?_)))
    rw [hpe]
    exact ⟨O, H⟩
end
end Go.Proofs.YtpdeedplgmbopaaGreatDoor
end
section
namespace Go.Proofs.YtpdeedplgmbopaaGreatDoor
open Go.RowKit
theorem adB {s : bn} (h : mM s) {G : List (List jm)} (h1 : gV G s.put ≤ gV s.here s.put) (h2 : ∀ g ∈ G, g ∈ s.here) : mM (s.nC G) := by
  obtain ⟨a1, a2, a3, a4, a5, a6⟩ := h
  refine ⟨a1, a2, a3, a4, ?_, ?_⟩
  · show gV (xI s.c.un s.c.place G s.c.place) s.put ≤ 16384
    rw [iL]; omega
  · intro k g hg
    have hg' : g ∈ xI s.c.un s.c.place G k := hg
    by_cases hk : k = s.c.place
    · subst hk; rw [iL] at hg'; exact a6 _ g (h2 g hg')
    · rw [vU _ _ hk] at hg'; exact a6 k g hg'
section
variable {w0 w : World} {F : HP} {e p : Nat} {s : bn} {x : Int}
end
def Jq (e : TypeId) (k : IntKind) : List Value → List (List Int) → HP
  | [], [] => emp
  | v :: vs, l :: ls => ku e k v l • Jq e k vs ls
  | _, _ => fact False
section
variable {w0 w : World} {F : HP} {e : TypeId} {k : IntKind} {v : Value} {l : List Int}
theorem V.ZX (H : V w0 w F) : V w0 w (Jq e k [] [] • F) := H.OD
theorem Ey : ∀ (vs : List Value) (ls : List (List Int)), (Jq e k vs ls • ku e k v l) = Jq e k (vs ++ [v]) (ls ++ [l])
  | [], [] => by show (emp • ku e k v l) = (ku e k v l • emp); rw [y5]
  | u :: vs, m :: ls => by
    show ((ku e k u m • Jq e k vs ls) • ku e k v l) = (ku e k u m • Jq e k (vs ++ [v]) (ls ++ [l]))
    rw [dG, Ey vs ls]
  | [], m :: ls => by
    apply HP.ext; funext I h; apply propext
    constructor
    · intro hp; exact absurd ((Di _ _ _ _).1 hp).1 id
    · intro hp
      cases ls with
      | nil => exact absurd (show False by obtain ⟨_, _, _, _, _, hb⟩ := hp; exact hb.1) id
      | cons x y => exact absurd (show False by obtain ⟨_, _, _, _, _, hb⟩ := hp; exact hb.1) id
  | u :: vs, [] => by
    apply HP.ext; funext I h; apply propext
    constructor
    · intro hp; exact absurd ((Di _ _ _ _).1 hp).1 id
    · intro hp
      cases vs with
      | nil => exact absurd (show False by obtain ⟨_, _, _, _, _, hb⟩ := hp; exact hb.1) id
      | cons x y => exact absurd (show False by obtain ⟨_, _, _, _, _, hb⟩ := hp; exact hb.1) id
theorem V.Ey {vs : List Value} {ls : List (List Int)} (H : V w0 w (Jq e k vs ls • ku e k v l • F)) : V w0 w (Jq e k (vs ++ [v]) (ls ++ [l]) • F) := H.deep.of_eq (by rw [Go.Proofs.YtpdeedplgmbopaaGreatDoor.Ey])
end
end Go.Proofs.YtpdeedplgmbopaaGreatDoor
end
section
namespace Go.Proofs.YtpdeedplgmbopaaGreatDoor
open Go.RowKit
open _root_.Go.Proofs.Tryz
section
variable {w0 w : World} {F : HP} {e p ph pw pt pr pm : Nat} {s : bn} {k x place : Int} {hl : List sN} {base most : Int} {tx : Int → Option ByteArray} {v : Value}
theorem RZ (H : V w0 w (iY p hl base most • F)) : iE prog 157 #[.pointer (some ⟨p, 0, none⟩), .int .i64 k] w fun v w' =>
  v = .tuple #[.agg #[.string (QU hl k).1, .int .i64 (QU hl k).2], .bool (decide (0 ≤ k ∧ k < hl.length))] ∧ V w0 w' (iY p hl base most • F) := by
 have hb : hl.length ≤ 4096 := by obtain ⟨v, h, _⟩ := H.hist; exact h.1
 refine oV func157 ntmps157 ?_
 refine iR (kD (iC (l := [_, _]) H zeroValue218 O) ?_)
 rintro _ w1 ⟨b1, rfl, H1⟩
 refine uZ O (bQ O (Z (fZ O O) (jG O (fun h1 => ?_) (fun h1 => ?_))))
 ·(try simp only [aA] at h1)
  refine bF (bF (bF (bF (iU O O (iJ (CP (iR (Z (fC (zl := [.string .empty, .int .i64 0]) (pl := [(0, 1), (1, 1)]) [_, _] mD zeroValue218 O (fun w => by kernel_rfl) O (.zero (zs := [.string .empty]) O (.zero (zs := [.int .i64 0]) O .nil)) O) (aJ (dB 0 (l' := [_, _]) (us := [_, _]) H1 sizeOf218 O O O (aG (aG bU)) O O) ?_)))))))))
  rintro _ w2 H2
  refine fB O (aB ?_)
  refine rJ (.inl O) (Vu results157 O O mD O (by rw [UM]; rfl) (H2).get.2) ?_
  exact ⟨by unfold QU; rw [if_neg (by omega), decide_eq_false (by omega)], H2.right⟩
 ·(try simp only [aA] at h1)
  refine bg (bT O (bg (bT O (bg (dS O func117 (qG H1.f2) ?_)))))
  rintro _ w3 ⟨rfl, H3⟩
  refine bg (Z (lV O O) (iH O O (jB O (fun h2 => ?_) (fun h2 => ?_))))
  ·(try simp only [aA] at h2)
   refine iR (Z (fC (zl := [.string .empty, .int .i64 0]) (pl := [(0, 1), (1, 1)]) [_, _] mD zeroValue218 O (fun w => by kernel_rfl) O (.zero (zs := [.string .empty]) O (.zero (zs := [.int .i64 0]) O .nil)) O) (aJ (dB 0 (l' := [_, _]) (us := [_, _]) H3.f2 sizeOf218 O O O (aG (aG bU)) O O) ?_))
   rintro _ w4 H4
   refine fB O (aB ?_)
   refine rJ (.inl O) (Vu results157 O O mD O (by rw [UM]; rfl) (H4).get.2) ?_
   exact ⟨by unfold QU; rw [if_neg (by omega), decide_eq_false (by omega)], H4.right⟩
  ·(try simp only [aA] at h2)
   refine gG (aN ?_)
   obtain ⟨m, rfl⟩ := Int.eq_ofNat_of_zero_le (show 0 ≤ k by omega)
   obtain ⟨Uj, EJ, Df⟩ := (H3).hist
   refine aC (nG O O (bJ 0 lY O sizeOf151 O (bJ 0 lZ O sizeOf149 O (fM gX O (Df).get.2 O (bT O ?_)))))
   obtain ⟨aeL, aeM, aeN, ZB⟩ := Rd.rM ((Df.f2).aS) (by omega)
   cases ZB
   refine Z (dP gX sizeOf218 O O (by omega)) (Z (uS (ys := [_, _]) ((Df.f2).aS) (by omega) mD O sizeOf218 O (wK NZ (by omega) default) O) (aJ (dB 0 (l' := [_, _]) (us := [_, _]) Df.f3 sizeOf218 O O O (aG (aG bU)) O O) ?_))
   rintro _ w6 H6
   refine fB O ?_
   refine rJ (.inl O) (Vu results157 O O mD O (by rw [UM]; rfl) (H6).get.2) ?_
   have Ho8 := H6.f3.f3
   have Yn := V.Gx EJ Ho8
   exact ⟨by unfold QU; rw [if_pos (by omega), decide_eq_true (by omega)]; rfl, Yn.f2.right⟩
theorem GY {x0 x1 x2 x3 x4 x5 x6 x7 x8 x9 x10 x12 yA x14 x15 x16 x17 x18 x19 x20 x21 yV x23 x24 x25 zo x27 x28 x29 x30 x31 x32 Ad : Value} (H : V w0 w (dW e (.cells (x0 :: x1 :: x2 :: x3 :: x4 :: x5 :: x6 :: x7 :: x8 :: x9 :: x10 :: .pointer (some ⟨ph, 0, none⟩) :: x12 :: yA :: x14 :: x15 :: x16 :: x17 :: x18 :: x19 :: x20 :: x21 :: yV :: x23 :: x24 :: x25 :: zo :: x27 :: x28 :: x29 :: x30 :: x31 :: x32 :: Ad :: []).toArray 82 (0, 0)) • iY ph hl base most • F)) : iE prog 119 #[.pointer (some ⟨e, 0, none⟩), .int .i64 k] w fun v w' =>
    v = .string (BO hl k) ∧ V w0 w' (dW e (.cells (x0 :: x1 :: x2 :: x3 :: x4 :: x5 :: x6 :: x7 :: x8 :: x9 :: x10 :: .pointer (some ⟨ph, 0, none⟩) :: x12 :: yA :: x14 :: x15 :: x16 :: x17 :: x18 :: x19 :: x20 :: x21 :: yV :: x23 :: x24 :: x25 :: zo :: x27 :: x28 :: x29 :: x30 :: x31 :: x32 :: Ad :: []).toArray 82 (0, 0)) • iY ph hl base most • F) := by
  refine oV func119 ntmps119 ?_
  refine jQ O (bQ O (dK O (bJ 11 ah O sizeOf78 O (fM kX O (H).get.2 O (bT O (dS O func157 (RZ H.f2) ?_))))))
  rintro _ w1 ⟨rfl, H1⟩
  refine bT O (uH O O (uH O O (kD (iC (l := [_, _]) H1 zeroValue218 O) ?_)))
  rintro _ w2 ⟨b2, rfl, H2⟩
  refine aJ (dB 0 (l' := [_, _]) (us := [_, _]) H2 sizeOf218 O O O (aG (aG bU)) O O) ?_
  rintro _ w3 H3
  refine fG O (iR (bJ 0 mD O nD O (fM jS O (H3).get.2 O (fB O (dL results119 O ?_)))))
  exact ⟨O, H3.right.f2⟩
theorem XJ {t : ByteArray} (h : tx k = some t) : (vV tx k).getD (.string .empty) = .string t ∧ (vV tx k).isSome = true := by unfold vV; rw [h]; exact ⟨rfl, rfl⟩
theorem Ja : (vV tx k).isSome = (tx k).isSome := by unfold vV; cases tx k <;> rfl
theorem AY {x0 x1 x3 x4 x5 x6 x7 x8 x9 x10 x12 yA x14 x15 x16 x17 x18 x19 x20 x21 yV x23 x24 x25 zo x27 x28 x29 x30 x31 x32 Ad : Value} (H : V w0 w (dW e (.cells (x0 :: x1 :: .pointer (some ⟨pw, 0, none⟩) :: x3 :: x4 :: x5 :: x6 :: x7 :: x8 :: x9 :: x10 :: .pointer (some ⟨ph, 0, none⟩) :: x12 :: yA :: x14 :: x15 :: x16 :: x17 :: x18 :: x19 :: x20 :: x21 :: yV :: x23 :: x24 :: x25 :: zo :: x27 :: x28 :: x29 :: x30 :: x31 :: x32 :: Ad :: []).toArray 82 (0, 0)) • dW pw (.cells #[v, .map (some pt)] 122 (0, 0)) • gY uw pt (vV tx) • iY ph hl base most • F)) :
    iE prog 118 #[.pointer (some ⟨e, 0, none⟩), .int .i64 k] w fun v' w' =>
    v' = .string (kL hl tx k) ∧ V w0 w' (dW e (.cells (x0 :: x1 :: .pointer (some ⟨pw, 0, none⟩) :: x3 :: x4 :: x5 :: x6 :: x7 :: x8 :: x9 :: x10 :: .pointer (some ⟨ph, 0, none⟩) :: x12 :: yA :: x14 :: x15 :: x16 :: x17 :: x18 :: x19 :: x20 :: x21 :: yV :: x23 :: x24 :: x25 :: zo :: x27 :: x28 :: x29 :: x30 :: x31 :: x32 :: Ad :: []).toArray 82 (0, 0)) • dW pw (.cells #[v, .map (some pt)] 122 (0, 0)) • gY uw pt (vV tx) • iY ph hl base most • F) := by
  refine oV func118 ntmps118 ?_
  refine jQ O (aN (bQ O (dK O (bJ 0 ah O aU O (bJ 2 aI O sizeOf74 O (fM lS O (H).get.2 O (dK O (bJ 1 gy O sizeOf120 O (fM underlying120 O (H.f2).get.2 O (bT O (Z (DK (H.f3) underlying120 aH zeroValue9 O O) (bT O (uH O O (uH O O (iK O (fG O (bQ O (jB O (fun h1 => ?_) (fun h1 => ?_)))))))))))))))))))
  · (try simp only [aA] at h1)
    obtain ⟨tt, htt⟩ := Option.isSome_iff_exists.1 (Ja (tx := tx) ▸ h1)
    refine bQ O (fB O (aB (dL results118 O ?_)))
    exact ⟨by unfold kL; rw [htt]; show (vV tx k).getD (.string .empty) = _; rw [(XJ htt).1]; rfl, H.f4.f4.f4.f4⟩
  · (try simp only [aA] at h1)
    have htt : tx k = none := by have := Ja (tx := tx) (k := k) ▸ h1; simpa using this
    refine gG (bQ O (bT O (dS O func119 (GY H.f4.f2) ?_)))
    rintro _ w1 ⟨rfl, H1⟩
    refine fB O (dL results118 O ?_)
    exact ⟨by unfold kL; rw [htt]; rfl, H1.f2.f4.f4.f4⟩
end
end Go.Proofs.YtpdeedplgmbopaaGreatDoor
end
