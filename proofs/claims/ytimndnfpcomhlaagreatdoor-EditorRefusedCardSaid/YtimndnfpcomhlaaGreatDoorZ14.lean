import Derived.Test.YtimndnfpcomhlaaGreatDoorZ4
import Derived.Test.YtimndnfpcomhlaaGreatDoorZ13
set_option linter.unusedSimpArgs false
set_option linter.unusedVariables false
/- Texts of mine, joined, their names in short: EdE EdU. -/
section
namespace Go.Proofs.YtimndnfpcomhlaaGreatDoor
open Go.RowKit
open _root_.Go.Proofs.Tryz
theorem zD (s : aY) (on : Bool) : (s.cO on).c.run = s.c.run := by unfold aY.cO; split <;> rfl
theorem IG (s : aY) (on : Bool) : (s.cO on).cls = s.cls := by unfold aY.cO; split <;> rfl
theorem kF {s s1 : aY} {on run : Bool} (h1 : s1 = s.je) (hon : (s.typed && s.c.run) = on) (hrun : (s.typed && (!s.put.isEmpty || s.c.run)) = run) (h2 : (s1.cO on).cls ≠ 2) :
    s.ng = { s1.cO on with c := { (s1.cO on).c with run := run, last := (s1.cO on).cls, fr := 0, to := 0 } } := by
  subst h1 hon hrun
  have hc : (s.je.cO (s.typed && s.c.run)).cls = s.cls := by rw [IG]; unfold aY.je; split <;> rfl
  unfold aY.ng
  rw [hc] at h2 ⊢
  dsimp only
  rw [if_pos h2]
theorem jE {s s1 : aY} {on run : Bool} (h1 : s1 = s.je) (hon : (s.typed && s.c.run) = on) (hrun : (s.typed && (!s.put.isEmpty || s.c.run)) = run) (h2 : (s1.cO on).cls = 2) :
    s.ng = { s1.cO on with c := { (s1.cO on).c with run := run, last := (s1.cO on).cls } } := by
  subst h1 hon hrun
  have hc : (s.je.cO (s.typed && s.c.run)).cls = s.cls := by rw [IG]; unfold aY.je; split <;> rfl
  unfold aY.ng
  rw [hc] at h2 ⊢
  dsimp only
  rw [if_neg (by omega)]
theorem wP {s : aY} (h : oV s) : oV s.je := by
  obtain ⟨h1, h2, h3, h4, h5, h6⟩ := h
  unfold aY.je
  split
  · exact ⟨h1, fun h => Bool.noConfusion h, h3, h4, h5, h6⟩
  · exact ⟨h1, fun h => Bool.noConfusion h, ⟨by show (-1 : Int) ≤ -1; decide, by show (-1 : Int) ≤ 1000000; decide⟩, h4, h5, h6⟩
theorem pV {l : List gV} : l.isEmpty = decide (l.length = 0) := by cases l <;> rfl
section
variable {w0 w : World} {F : HP} {e p : Nat} {s : aY} {x : Int}
theorem Ou (hin : s.inn = true) (H : V w0 w (eH e s • F)) : iU prog 8 #[.pointer (some ⟨e, 0, none⟩), .int .i64 0] w fun v w' => v = .int .i64 0 ∧ V w0 w' (eH e s.ng • F) := by
  have hpe : s.yP = 0 := by unfold aY.yP; rw [if_pos hin]
  refine oP func8 ntmps8 ?_
  refine lZ O (aO (bM O (dZ O func32 (jm H) ?_)))
  rintro _ _ ⟨rfl, rfl⟩
  refine gY O (bM O (aV (dO O O) (kK O (fun h => by exfalso; (try simp only [aH] at h); exact h hpe) (fun h1 => ?_))))
  (try simp only [aH] at h1)
  refine iq (aO ?_)
  obtain ⟨qV, rC, rD, rZ, rE, rF, rG, rH, qA, oZ, o7, o8, o9, pq, pz, pF, pG, pI, pJ, pK, dV, bP, jh, dY⟩ := (H).Dy
  refine aC (ny O O (bf 16 ah O aQ O (aI (dN 16 dY aQ) ?_)))
  rintro _ w3 H3
  refine qj (bM O (dM O (bf 31 ah O aQ O (dQ bW O (H3).get.2 O (aV (oO O) (qC O (fun h2 => ?_) (fun h2 => ?_)))))))
  · (try simp only [aH] at h2)
    have har : s.argues = false := by simpa using h2
    have hs1 : ({ s.xC with inn := false } : aY) = s.je := by unfold aY.je; rw [if_neg (by simp [har])]
    refine dH (dH (pW O O (iT (EY (aC (mQ O O (ny O O (bf 13 ah O aQ O (aI (dN 13 H3 aQ) ?_)))))))))
    rintro _ w4 H4
    refine dM O (bf 14 ah O aQ O (aI (dN 14 H4 aQ) ?_))
    rintro _ w5 H5
    refine dM O (bf 15 ah O aj O (aI (dN 15 H5 aj) ?_))
    rintro _ w6 H6
    refine qj (bM O (aV (dO O O) (iT (I8 O (fun h3 => ?_)))))
    (try simp only [aH] at h3)
    refine iq (aO ?_)
    have CJ := H6.drew
    have jB := V.kp (CJ.f11.f11.f11.f11.f11.f11.f11.f11.f11.f11.f11)
    refine xP [3, 9, 14] jB O (jc 0 O jB O (kN 1 O jB O (fV 2 O jB 28 ah O aj O (jq 3 O jB (fun W hW => jV ay O ((Kp.h hW)).get.2 O) (jW 4 O jB (fun _ => ig O O) ?_)))))
    refine DJ 5 O O (by kernel_rfl) (by kernel_rfl) jB (jY O) (fun h4 => ?_) (fun h4 => ?_)
    · (try simp only [aH] at h4)
      have hc3 : s.cls = 3 := h4
      refine gJ 6 O O O (by kernel_rfl) (by kernel_rfl) jB (fun _ => CS O) (jY O) ?_
      refine gJ 7 O O O (by kernel_rfl) (by kernel_rfl) jB (fun _ => QJ O) (jY O) ?_
      refine gJ 8 O O O (by kernel_rfl) (by kernel_rfl) jB (fun _ => uT 32 ah O O aQ (by decide) O rfl) (jY O) ?_
      refine qo 9 O O O (by kernel_rfl) (by kernel_rfl) jB (by decide) (fun W hW => jM (fK bW O) O (iP ((Kp.h hW)).get.2 O)) (jY O) ?_
      refine jW 10 O jB (fun _ => Ah O O) (jc 11 O jB O (kN 12 O jB O (fV 13 O jB 33 ah O bV O (jq 14 O jB (fun W hW => jV aU O ((Kp.h hW)).get.2 O) (jW 15 O jB (fun _ => iE ((CJ.f9).aP) aU O) (jW 16 O jB (fun _ => fZ O O) (jW 17 O jB (fun _ => iV O) (jW 18 O jB (fun _ => iV O) (qp (bg (bM O (cZ O (qC O (fun h5 => ?_) (fun h5 => ?_))))))))))))))
      · (try simp only [aH] at h5)
        have hwh : s.whole = true := h5
        have hty : s.typed = true := by unfold aY.typed; rw [hc3, hwh]; rfl
        refine bU (cZ O (bU (dM O (bU (bf 0 ah O aJ O (bU (bf 10 aA O aQ O (bU (dQ bW O (CJ).get.2 O (pW O O ?_))))))))))
        have hwo := yS (CJ.f11)
        have Hd7 := CJ.f11.right
        have HW0 := V.Dl (c := s.was) (u := [oZ, o7, o8, o9, pq, pz, pF, pG, pI, pJ, pK]) Hd7 hwo
        obtain ⟨s1, oM, V4⟩ : ∃ s1, s1 = s.je ∧ V w0 (w6.drew) (eH e s1 • F) := ⟨_, hs1, V.eY (hs1 ▸ wP dV) bP HW0.f11.f11.f11.f11.f11.f11.f11.f11.f11.f11⟩
        have hr1 : s1.c.run = s.c.run := by rw [oM]; unfold aY.je; split <;> rfl
        refine dZ O func34 (nP V4) ?_
        rintro _ w8 H8
        obtain ⟨on, hon, HZ⟩ : ∃ on, (s.typed && s.c.run) = on ∧ V w0 w8 (eH e (s1.cO on) • F) := ⟨_, by rw [hty]; rfl, H8⟩
        refine qj ?_
        obtain ⟨qV, rC, rD, rZ, rE, rF, rG, rH, qA, oZ, o7, o8, o9, pq, pz, pF, pG, pI, pJ, pK, dV, bP, jh, dY⟩ := (HZ).Dy
        refine aC (mQ O O (qC O (fun h6 => ?_) (fun h6 => ?_)))
        · (try simp only [aH] at h6)
          have hw2 : s.whole = true := h6
          refine bU (cZ O (bU (qC O (fun h7 => ?_) (fun h7 => ?_))))
          · (try simp only [aH] at h7)
            have hrun : (s.typed && (!s.put.isEmpty || s.c.run)) = true := by first | exact absurd (hw2.symm.trans hwh) (by decide) | (rw [pV, decide_eq_false (show ¬ s.put.length = 0 by omega), hty]; rfl)
            refine dH (dH (dH (dH (dH (bU (pW O O (pW O O (dM O (bf 0 ah O aJ O (bf 10 aA O aQ O (aI (dN 10 dY aQ) ?_)))))))))))
            rintro _ w10 sV
            refine sU O (ny O O (bf 28 ah O aj O (dQ ay O (sV).get.2 O (dM O (bf 0 ah O aJ O (bf 6 aA O aj O (aI (dN 6 sV aj) ?_)))))))
            rintro _ I9 yt
            refine qj (bM O (dM O (bf 28 ah O aj O (dQ ay O (yt).get.2 O (aV (dO O O) (kK O (fun h8 => ?_) (fun h8 => ?_)))))))
            · (try simp only [aH] at h8)
              have uK := kF oM hon hrun h8
              refine aC (mQ O O (dM O (bf 0 ah O aJ O (bf 7 aA O aj O (aI (dN 7 yt aj) ?_)))))
              rintro _ w12 wz
              refine dM O (bf 0 ah O aJ O (bf 8 aA O aj O (aI (dN 8 wz aj) ?_)))
              rintro _ O8 yY
              refine iT (lF O (fB fA O ?_))
              refine ⟨O, ?_⟩
              first
                | exact absurd (hw2.symm.trans hwh) (by decide)
                | exact absurd (hwh.symm.trans hw2) (by decide)
                | (rw [uK]; exact V.eY dV bP yY.f11.f11.f11.f11.f11.f11.f11.f11.f11.f11.f11)
            · (try simp only [aH] at h8)
              have uK := jE oM hon hrun h8
              refine iq (lF O (fB fA O ?_))
              refine ⟨O, ?_⟩
              first
                | exact absurd (hw2.symm.trans hwh) (by decide)
                | exact absurd (hwh.symm.trans hw2) (by decide)
                | (rw [uK]; exact V.eY dV bP yt.f11.f11.f11.f11.f11.f11.f11.f11.f11.f11.f11)
          · (try simp only [aH] at h7)
            have hrun : (s.typed && (!s.put.isEmpty || s.c.run)) = (s1.cO on).c.run := by first | exact absurd (hw2.symm.trans hwh) (by decide) | (rw [pV, decide_eq_true (show s.put.length = 0 by omega), hty, zD, hr1]; rfl)
            refine bU (cZ O (bU (dM O (bU (bf 0 ah O aJ O (bU (bf 10 aA O aQ O (bU (dQ bW O (dY).get.2 O (bU (lV O O (pW O O (dM O (bf 0 ah O aJ O (bf 10 aA O aQ O (aI (dN 10 dY aQ) ?_))))))))))))))))
            rintro _ MK yu
            refine sU O (ny O O (bf 28 ah O aj O (dQ ay O (yu).get.2 O (dM O (bf 0 ah O aJ O (bf 6 aA O aj O (aI (dN 6 yu aj) ?_)))))))
            rintro _ SX BA
            refine qj (bM O (dM O (bf 28 ah O aj O (dQ ay O (BA).get.2 O (aV (dO O O) (kK O (fun h9 => ?_) (fun h9 => ?_)))))))
            · (try simp only [aH] at h9)
              have uK := kF oM hon hrun h9
              refine aC (mQ O O (dM O (bf 0 ah O aJ O (bf 7 aA O aj O (aI (dN 7 BA aj) ?_)))))
              rintro _ w16 uO
              refine dM O (bf 0 ah O aJ O (bf 8 aA O aj O (aI (dN 8 uO aj) ?_)))
              rintro _ Xc Dx
              refine iT (lF O (fB fA O ?_))
              refine ⟨O, ?_⟩
              first
                | exact absurd (hw2.symm.trans hwh) (by decide)
                | exact absurd (hwh.symm.trans hw2) (by decide)
                | (rw [uK]; exact V.eY dV bP Dx.f11.f11.f11.f11.f11.f11.f11.f11.f11.f11.f11)
            · (try simp only [aH] at h9)
              have uK := jE oM hon hrun h9
              refine iq (lF O (fB fA O ?_))
              refine ⟨O, ?_⟩
              first
                | exact absurd (hw2.symm.trans hwh) (by decide)
                | exact absurd (hwh.symm.trans hw2) (by decide)
                | (rw [uK]; exact V.eY dV bP BA.f11.f11.f11.f11.f11.f11.f11.f11.f11.f11.f11)
        · (try simp only [aH] at h6)
          have hw2 : s.whole = false := by simpa using h6
          have hrun : (s.typed && (!s.put.isEmpty || s.c.run)) = false := by first | exact absurd (hwh.symm.trans hw2) (by decide) | (rw [hty]; rfl)
          refine dH (dH (sG (sG (sG (sG (sG (dH (lV O O (dM O (bf 0 ah O aJ O (bf 10 aA O aQ O (aI (dN 10 dY aQ) ?_))))))))))))
          rintro _ Xd Es
          refine sU O (ny O O (bf 28 ah O aj O (dQ ay O (Es).get.2 O (dM O (bf 0 ah O aJ O (bf 6 aA O aj O (aI (dN 6 Es aj) ?_)))))))
          rintro _ Xf zO
          refine qj (bM O (dM O (bf 28 ah O aj O (dQ ay O (zO).get.2 O (aV (dO O O) (kK O (fun h10 => ?_) (fun h10 => ?_)))))))
          · (try simp only [aH] at h10)
            have uK := kF oM hon hrun h10
            refine aC (mQ O O (dM O (bf 0 ah O aJ O (bf 7 aA O aj O (aI (dN 7 zO aj) ?_)))))
            rintro _ XJ BD
            refine dM O (bf 0 ah O aJ O (bf 8 aA O aj O (aI (dN 8 BD aj) ?_)))
            rintro _ XK sW
            refine iT (lF O (fB fA O ?_))
            refine ⟨O, ?_⟩
            first
              | exact absurd (hw2.symm.trans hwh) (by decide)
              | exact absurd (hwh.symm.trans hw2) (by decide)
              | (rw [uK]; exact V.eY dV bP sW.f11.f11.f11.f11.f11.f11.f11.f11.f11.f11.f11)
          · (try simp only [aH] at h10)
            have uK := jE oM hon hrun h10
            refine iq (lF O (fB fA O ?_))
            refine ⟨O, ?_⟩
            first
              | exact absurd (hw2.symm.trans hwh) (by decide)
              | exact absurd (hwh.symm.trans hw2) (by decide)
              | (rw [uK]; exact V.eY dV bP zO.f11.f11.f11.f11.f11.f11.f11.f11.f11.f11.f11)
      · (try simp only [aH] at h5)
        have hwh : s.whole = false := by simpa using h5
        have hty : s.typed = false := by unfold aY.typed; rw [hc3, hwh]; rfl
        have hrun : (s.typed && (!s.put.isEmpty || s.c.run)) = false := by rw [hty]; rfl
        refine dH (dH (dH (dH (dH (lV O O ?_)))))
        have hwo := yS (CJ.f11)
        have LQ := CJ.f11.right
        have HW0 := V.Dl (c := s.was) (u := [oZ, o7, o8, o9, pq, pz, pF, pG, pI, pJ, pK]) LQ hwo
        obtain ⟨s1, oM, V4⟩ : ∃ s1, s1 = s.je ∧ V w0 (w6.drew) (eH e s1 • F) := ⟨_, hs1, V.eY (hs1 ▸ wP dV) bP HW0.f11.f11.f11.f11.f11.f11.f11.f11.f11.f11⟩
        have hr1 : s1.c.run = s.c.run := by rw [oM]; unfold aY.je; split <;> rfl
        refine dZ O func34 (nP V4) ?_
        rintro _ UZ xu
        obtain ⟨on, hon, HZ⟩ : ∃ on, (s.typed && s.c.run) = on ∧ V w0 UZ (eH e (s1.cO on) • F) := ⟨_, by rw [hty]; rfl, xu⟩
        refine qj ?_
        obtain ⟨qV, rC, rD, rZ, rE, rF, rG, rH, qA, oZ, o7, o8, o9, pq, pz, pF, pG, pI, pJ, pK, dV, bP, jh, dY⟩ := (HZ).Dy
        refine aC (mQ O O (qC O (fun h11 => ?_) (fun h11 => ?_)))
        · (try simp only [aH] at h11)
          have hw2 : s.whole = true := h11
          refine bU (cZ O (bU (qC O (fun h12 => ?_) (fun h12 => ?_))))
          · (try simp only [aH] at h12)
            have hrun : (s.typed && (!s.put.isEmpty || s.c.run)) = true := by first | exact absurd (hw2.symm.trans hwh) (by decide) | (rw [pV, decide_eq_false (show ¬ s.put.length = 0 by omega), hty]; rfl)
            refine dH (dH (dH (dH (dH (bU (pW O O (pW O O (dM O (bf 0 ah O aJ O (bf 10 aA O aQ O (aI (dN 10 dY aQ) ?_)))))))))))
            rintro _ w25 JX
            refine sU O (ny O O (bf 28 ah O aj O (dQ ay O (JX).get.2 O (dM O (bf 0 ah O aJ O (bf 6 aA O aj O (aI (dN 6 JX aj) ?_)))))))
            rintro _ w26 Nk
            refine qj (bM O (dM O (bf 28 ah O aj O (dQ ay O (Nk).get.2 O (aV (dO O O) (kK O (fun h13 => ?_) (fun h13 => ?_)))))))
            · (try simp only [aH] at h13)
              have uK := kF oM hon hrun h13
              refine aC (mQ O O (dM O (bf 0 ah O aJ O (bf 7 aA O aj O (aI (dN 7 Nk aj) ?_)))))
              rintro _ w27 Jh
              refine dM O (bf 0 ah O aJ O (bf 8 aA O aj O (aI (dN 8 Jh aj) ?_)))
              rintro _ w28 U0
              refine iT (lF O (fB fA O ?_))
              refine ⟨O, ?_⟩
              first
                | exact absurd (hw2.symm.trans hwh) (by decide)
                | exact absurd (hwh.symm.trans hw2) (by decide)
                | (rw [uK]; exact V.eY dV bP U0.f11.f11.f11.f11.f11.f11.f11.f11.f11.f11.f11)
            · (try simp only [aH] at h13)
              have uK := jE oM hon hrun h13
              refine iq (lF O (fB fA O ?_))
              refine ⟨O, ?_⟩
              first
                | exact absurd (hw2.symm.trans hwh) (by decide)
                | exact absurd (hwh.symm.trans hw2) (by decide)
                | (rw [uK]; exact V.eY dV bP Nk.f11.f11.f11.f11.f11.f11.f11.f11.f11.f11.f11)
          · (try simp only [aH] at h12)
            have hrun : (s.typed && (!s.put.isEmpty || s.c.run)) = (s1.cO on).c.run := by first | exact absurd (hw2.symm.trans hwh) (by decide) | (rw [pV, decide_eq_true (show s.put.length = 0 by omega), hty, zD, hr1]; rfl)
            refine bU (cZ O (bU (dM O (bU (bf 0 ah O aJ O (bU (bf 10 aA O aQ O (bU (dQ bW O (dY).get.2 O (bU (lV O O (pW O O (dM O (bf 0 ah O aJ O (bf 10 aA O aQ O (aI (dN 10 dY aQ) ?_))))))))))))))))
            rintro _ w29 U1
            refine sU O (ny O O (bf 28 ah O aj O (dQ ay O (U1).get.2 O (dM O (bf 0 ah O aJ O (bf 6 aA O aj O (aI (dN 6 U1 aj) ?_)))))))
            rintro _ w30 PK
            refine qj (bM O (dM O (bf 28 ah O aj O (dQ ay O (PK).get.2 O (aV (dO O O) (kK O (fun h14 => ?_) (fun h14 => ?_)))))))
            · (try simp only [aH] at h14)
              have uK := kF oM hon hrun h14
              refine aC (mQ O O (dM O (bf 0 ah O aJ O (bf 7 aA O aj O (aI (dN 7 PK aj) ?_)))))
              rintro _ w31 KZ
              refine dM O (bf 0 ah O aJ O (bf 8 aA O aj O (aI (dN 8 KZ aj) ?_)))
              rintro _ Zg Ja
              refine iT (lF O (fB fA O ?_))
              refine ⟨O, ?_⟩
              first
                | exact absurd (hw2.symm.trans hwh) (by decide)
                | exact absurd (hwh.symm.trans hw2) (by decide)
                | (rw [uK]; exact V.eY dV bP Ja.f11.f11.f11.f11.f11.f11.f11.f11.f11.f11.f11)
            · (try simp only [aH] at h14)
              have uK := jE oM hon hrun h14
              refine iq (lF O (fB fA O ?_))
              refine ⟨O, ?_⟩
              first
                | exact absurd (hw2.symm.trans hwh) (by decide)
                | exact absurd (hwh.symm.trans hw2) (by decide)
                | (rw [uK]; exact V.eY dV bP PK.f11.f11.f11.f11.f11.f11.f11.f11.f11.f11.f11)
        · (try simp only [aH] at h11)
          have hw2 : s.whole = false := by simpa using h11
          have hrun : (s.typed && (!s.put.isEmpty || s.c.run)) = false := by first | exact absurd (hwh.symm.trans hw2) (by decide) | (rw [hty]; rfl)
          refine dH (dH (sG (sG (sG (sG (sG (dH (lV O O (dM O (bf 0 ah O aJ O (bf 10 aA O aQ O (aI (dN 10 dY aQ) ?_))))))))))))
          rintro _ w33 SY
          refine sU O (ny O O (bf 28 ah O aj O (dQ ay O (SY).get.2 O (dM O (bf 0 ah O aJ O (bf 6 aA O aj O (aI (dN 6 SY aj) ?_)))))))
          rintro _ w34 VH
          refine qj (bM O (dM O (bf 28 ah O aj O (dQ ay O (VH).get.2 O (aV (dO O O) (kK O (fun h15 => ?_) (fun h15 => ?_)))))))
          · (try simp only [aH] at h15)
            have uK := kF oM hon hrun h15
            refine aC (mQ O O (dM O (bf 0 ah O aJ O (bf 7 aA O aj O (aI (dN 7 VH aj) ?_)))))
            rintro _ w35 ZJ
            refine dM O (bf 0 ah O aJ O (bf 8 aA O aj O (aI (dN 8 ZJ aj) ?_)))
            rintro _ w36 H36
            refine iT (lF O (fB fA O ?_))
            refine ⟨O, ?_⟩
            first
              | exact absurd (hw2.symm.trans hwh) (by decide)
              | exact absurd (hwh.symm.trans hw2) (by decide)
              | (rw [uK]; exact V.eY dV bP H36.f11.f11.f11.f11.f11.f11.f11.f11.f11.f11.f11)
          · (try simp only [aH] at h15)
            have uK := jE oM hon hrun h15
            refine iq (lF O (fB fA O ?_))
            refine ⟨O, ?_⟩
            first
              | exact absurd (hw2.symm.trans hwh) (by decide)
              | exact absurd (hwh.symm.trans hw2) (by decide)
              | (rw [uK]; exact V.eY dV bP VH.f11.f11.f11.f11.f11.f11.f11.f11.f11.f11.f11)
    · (try simp only [aH] at h4)
      have hty : s.typed = false := by unfold aY.typed; rw [beq_false_of_ne h4]; rfl
      have hrun : (s.typed && (!s.put.isEmpty || s.c.run)) = false := by rw [hty]; rfl
      refine nZ 6 O O O O (by kernel_rfl) (by kernel_rfl) jB (jY O) ?_
      refine nZ 7 O O O O (by kernel_rfl) (by kernel_rfl) jB (jY O) ?_
      refine nZ 8 O O O O (by kernel_rfl) (by kernel_rfl) jB (jY O) ?_
      refine nZ 9 O O O O (by kernel_rfl) (by kernel_rfl) jB (jY O) ?_
      refine jW 10 O jB (fun _ => Ai O O) (jc 11 O jB O (kN 12 O jB O (fV 13 O jB 33 ah O bV O (jq 14 O jB (fun W hW => jV aU O ((Kp.h hW)).get.2 O) (jW 15 O jB (fun _ => iE ((CJ.f9).aP) aU O) (jW 16 O jB (fun _ => fZ O O) (jW 17 O jB (fun _ => iV O) (jW 18 O jB (fun _ => iV O) (qp (bg (bM O (mQ O O (dH (dH (dH (dH (dH (lV O O ?_))))))))))))))))))
      have hwo := yS (CJ.f11)
      have ZU := CJ.f11.right
      have HW0 := V.Dl (c := s.was) (u := [oZ, o7, o8, o9, pq, pz, pF, pG, pI, pJ, pK]) ZU hwo
      obtain ⟨s1, oM, V4⟩ : ∃ s1, s1 = s.je ∧ V w0 (w6.drew) (eH e s1 • F) := ⟨_, hs1, V.eY (hs1 ▸ wP dV) bP HW0.f11.f11.f11.f11.f11.f11.f11.f11.f11.f11⟩
      have hr1 : s1.c.run = s.c.run := by rw [oM]; unfold aY.je; split <;> rfl
      refine dZ O func34 (nP V4) ?_
      rintro _ w38 Qk
      obtain ⟨on, hon, HZ⟩ : ∃ on, (s.typed && s.c.run) = on ∧ V w0 w38 (eH e (s1.cO on) • F) := ⟨_, by rw [hty]; rfl, Qk⟩
      refine qj ?_
      obtain ⟨qV, rC, rD, rZ, rE, rF, rG, rH, qA, oZ, o7, o8, o9, pq, pz, pF, pG, pI, pJ, pK, dV, bP, jh, dY⟩ := (HZ).Dy
      refine aC (mQ O O (cZ O (dH (dH (sG (sG (sG (sG (sG (dH (lV O O (dM O (bf 0 ah O aJ O (bf 10 aA O aQ O (aI (dN 10 dY aQ) ?_)))))))))))))))
      rintro _ w40 H40
      refine sU O (ny O O (bf 28 ah O aj O (dQ ay O (H40).get.2 O (dM O (bf 0 ah O aJ O (bf 6 aA O aj O (aI (dN 6 H40 aj) ?_)))))))
      rintro _ w41 X0
      refine qj (bM O (dM O (bf 28 ah O aj O (dQ ay O (X0).get.2 O (aV (dO O O) (kK O (fun h16 => ?_) (fun h16 => ?_)))))))
      · (try simp only [aH] at h16)
        have uK := kF oM hon hrun h16
        refine aC (mQ O O (dM O (bf 0 ah O aJ O (bf 7 aA O aj O (aI (dN 7 X0 aj) ?_)))))
        rintro _ w42 ZK
        refine dM O (bf 0 ah O aJ O (bf 8 aA O aj O (aI (dN 8 ZK aj) ?_)))
        rintro _ w43 ZL
        refine iT (lF O (fB fA O ?_))
        refine ⟨O, ?_⟩
        first
          | exact absurd (hw2.symm.trans hwh) (by decide)
          | exact absurd (hwh.symm.trans hw2) (by decide)
          | (rw [uK]; exact V.eY dV bP ZL.f11.f11.f11.f11.f11.f11.f11.f11.f11.f11.f11)
      · (try simp only [aH] at h16)
        have uK := jE oM hon hrun h16
        refine iq (lF O (fB fA O ?_))
        refine ⟨O, ?_⟩
        first
          | exact absurd (hw2.symm.trans hwh) (by decide)
          | exact absurd (hwh.symm.trans hw2) (by decide)
          | (rw [uK]; exact V.eY dV bP X0.f11.f11.f11.f11.f11.f11.f11.f11.f11.f11.f11)
  · (try simp only [aH] at h2)
    have har : s.argues = true := by simpa using h2
    have hs1 : ({ s with inn := false } : aY) = s.je := by unfold aY.je; rw [if_pos har]
    refine bU (cZ O (bU (aV (dO O O) (lV O O (iT (I8 O (fun h17 => ?_)))))))
    (try simp only [aH] at h17)
    refine iq (aO (bM O (aV (dO O O) (iT (I8 O (fun h18 => ?_))))))
    (try simp only [aH] at h18)
    refine iq (aO ?_)
    have yj := H3.drew
    have iF := V.kp (yj.f11.f11.f11.f11.f11.f11.f11.f11.f11.f11.f11)
    refine xP [3, 9, 14] iF O (jc 0 O iF O (kN 1 O iF O (fV 2 O iF 28 ah O aj O (jq 3 O iF (fun W hW => jV ay O ((Kp.h hW)).get.2 O) (jW 4 O iF (fun _ => ig O O) ?_)))))
    refine DJ 5 O O (by kernel_rfl) (by kernel_rfl) iF (jY O) (fun h19 => ?_) (fun h19 => ?_)
    · (try simp only [aH] at h19)
      have hc3 : s.cls = 3 := h19
      refine gJ 6 O O O (by kernel_rfl) (by kernel_rfl) iF (fun _ => CS O) (jY O) ?_
      refine gJ 7 O O O (by kernel_rfl) (by kernel_rfl) iF (fun _ => QJ O) (jY O) ?_
      refine gJ 8 O O O (by kernel_rfl) (by kernel_rfl) iF (fun _ => uT 32 ah O O aQ (by decide) O rfl) (jY O) ?_
      refine qo 9 O O O (by kernel_rfl) (by kernel_rfl) iF (by decide) (fun W hW => jM (fK bW O) O (iP ((Kp.h hW)).get.2 O)) (jY O) ?_
      refine jW 10 O iF (fun _ => Ah O O) (jc 11 O iF O (kN 12 O iF O (fV 13 O iF 33 ah O bV O (jq 14 O iF (fun W hW => jV aU O ((Kp.h hW)).get.2 O) (jW 15 O iF (fun _ => iE ((yj.f9).aP) aU O) (jW 16 O iF (fun _ => fZ O O) (jW 17 O iF (fun _ => iV O) (jW 18 O iF (fun _ => iV O) (qp (bg (bM O (cZ O (qC O (fun h20 => ?_) (fun h20 => ?_))))))))))))))
      · (try simp only [aH] at h20)
        have hwh : s.whole = true := h20
        have hty : s.typed = true := by unfold aY.typed; rw [hc3, hwh]; rfl
        refine bU (cZ O (bU (dM O (bU (bf 0 ah O aJ O (bU (bf 10 aA O aQ O (bU (dQ bW O (yj).get.2 O (pW O O ?_))))))))))
        have hwo := yS (yj.f11)
        have acL := yj.f11.right
        have HW0 := V.Dl (c := s.was) (u := [oZ, o7, o8, o9, pq, pz, pF, pG, pI, pJ, pK]) acL hwo
        obtain ⟨s1, oM, V4⟩ : ∃ s1, s1 = s.je ∧ V w0 (w3.drew) (eH e s1 • F) := ⟨_, hs1, V.eY (hs1 ▸ wP dV) bP HW0.f11.f11.f11.f11.f11.f11.f11.f11.f11.f11⟩
        have hr1 : s1.c.run = s.c.run := by rw [oM]; unfold aY.je; split <;> rfl
        refine dZ O func34 (nP V4) ?_
        rintro _ w45 O9
        obtain ⟨on, hon, HZ⟩ : ∃ on, (s.typed && s.c.run) = on ∧ V w0 w45 (eH e (s1.cO on) • F) := ⟨_, by rw [hty]; rfl, O9⟩
        refine qj ?_
        obtain ⟨qV, rC, rD, rZ, rE, rF, rG, rH, qA, oZ, o7, o8, o9, pq, pz, pF, pG, pI, pJ, pK, dV, bP, jh, dY⟩ := (HZ).Dy
        refine aC (mQ O O (qC O (fun h21 => ?_) (fun h21 => ?_)))
        · (try simp only [aH] at h21)
          have hw2 : s.whole = true := h21
          refine bU (cZ O (bU (qC O (fun h22 => ?_) (fun h22 => ?_))))
          · (try simp only [aH] at h22)
            have hrun : (s.typed && (!s.put.isEmpty || s.c.run)) = true := by first | exact absurd (hw2.symm.trans hwh) (by decide) | (rw [pV, decide_eq_false (show ¬ s.put.length = 0 by omega), hty]; rfl)
            refine dH (dH (dH (dH (dH (bU (pW O O (pW O O (dM O (bf 0 ah O aJ O (bf 10 aA O aQ O (aI (dN 10 dY aQ) ?_)))))))))))
            rintro _ w47 ZV
            refine sU O (ny O O (bf 28 ah O aj O (dQ ay O (ZV).get.2 O (dM O (bf 0 ah O aJ O (bf 6 aA O aj O (aI (dN 6 ZV aj) ?_)))))))
            rintro _ w48 H48
            refine qj (bM O (dM O (bf 28 ah O aj O (dQ ay O (H48).get.2 O (aV (dO O O) (kK O (fun h23 => ?_) (fun h23 => ?_)))))))
            · (try simp only [aH] at h23)
              have uK := kF oM hon hrun h23
              refine aC (mQ O O (dM O (bf 0 ah O aJ O (bf 7 aA O aj O (aI (dN 7 H48 aj) ?_)))))
              rintro _ w49 H49
              refine dM O (bf 0 ah O aJ O (bf 8 aA O aj O (aI (dN 8 H49 aj) ?_)))
              rintro _ w50 H50
              refine iT (lF O (fB fA O ?_))
              refine ⟨O, ?_⟩
              first
                | exact absurd (hw2.symm.trans hwh) (by decide)
                | exact absurd (hwh.symm.trans hw2) (by decide)
                | (rw [uK]; exact V.eY dV bP H50.f11.f11.f11.f11.f11.f11.f11.f11.f11.f11.f11)
            · (try simp only [aH] at h23)
              have uK := jE oM hon hrun h23
              refine iq (lF O (fB fA O ?_))
              refine ⟨O, ?_⟩
              first
                | exact absurd (hw2.symm.trans hwh) (by decide)
                | exact absurd (hwh.symm.trans hw2) (by decide)
                | (rw [uK]; exact V.eY dV bP H48.f11.f11.f11.f11.f11.f11.f11.f11.f11.f11.f11)
          · (try simp only [aH] at h22)
            have hrun : (s.typed && (!s.put.isEmpty || s.c.run)) = (s1.cO on).c.run := by first | exact absurd (hw2.symm.trans hwh) (by decide) | (rw [pV, decide_eq_true (show s.put.length = 0 by omega), hty, zD, hr1]; rfl)
            refine bU (cZ O (bU (dM O (bU (bf 0 ah O aJ O (bU (bf 10 aA O aQ O (bU (dQ bW O (dY).get.2 O (bU (lV O O (pW O O (dM O (bf 0 ah O aJ O (bf 10 aA O aQ O (aI (dN 10 dY aQ) ?_))))))))))))))))
            rintro _ w51 ZM
            refine sU O (ny O O (bf 28 ah O aj O (dQ ay O (ZM).get.2 O (dM O (bf 0 ah O aJ O (bf 6 aA O aj O (aI (dN 6 ZM aj) ?_)))))))
            rintro _ w52 YK
            refine qj (bM O (dM O (bf 28 ah O aj O (dQ ay O (YK).get.2 O (aV (dO O O) (kK O (fun h24 => ?_) (fun h24 => ?_)))))))
            · (try simp only [aH] at h24)
              have uK := kF oM hon hrun h24
              refine aC (mQ O O (dM O (bf 0 ah O aJ O (bf 7 aA O aj O (aI (dN 7 YK aj) ?_)))))
              rintro _ w53 H53
              refine dM O (bf 0 ah O aJ O (bf 8 aA O aj O (aI (dN 8 H53 aj) ?_)))
              rintro _ w54 H54
              refine iT (lF O (fB fA O ?_))
              refine ⟨O, ?_⟩
              first
                | exact absurd (hw2.symm.trans hwh) (by decide)
                | exact absurd (hwh.symm.trans hw2) (by decide)
                | (rw [uK]; exact V.eY dV bP H54.f11.f11.f11.f11.f11.f11.f11.f11.f11.f11.f11)
            · (try simp only [aH] at h24)
              have uK := jE oM hon hrun h24
              refine iq (lF O (fB fA O ?_))
              refine ⟨O, ?_⟩
              first
                | exact absurd (hw2.symm.trans hwh) (by decide)
                | exact absurd (hwh.symm.trans hw2) (by decide)
                | (rw [uK]; exact V.eY dV bP YK.f11.f11.f11.f11.f11.f11.f11.f11.f11.f11.f11)
        · (try simp only [aH] at h21)
          have hw2 : s.whole = false := by simpa using h21
          have hrun : (s.typed && (!s.put.isEmpty || s.c.run)) = false := by first | exact absurd (hwh.symm.trans hw2) (by decide) | (rw [hty]; rfl)
          refine dH (dH (sG (sG (sG (sG (sG (dH (lV O O (dM O (bf 0 ah O aJ O (bf 10 aA O aQ O (aI (dN 10 dY aQ) ?_))))))))))))
          rintro _ w55 H55
          refine sU O (ny O O (bf 28 ah O aj O (dQ ay O (H55).get.2 O (dM O (bf 0 ah O aJ O (bf 6 aA O aj O (aI (dN 6 H55 aj) ?_)))))))
          rintro _ w56 H56
          refine qj (bM O (dM O (bf 28 ah O aj O (dQ ay O (H56).get.2 O (aV (dO O O) (kK O (fun h25 => ?_) (fun h25 => ?_)))))))
          · (try simp only [aH] at h25)
            have uK := kF oM hon hrun h25
            refine aC (mQ O O (dM O (bf 0 ah O aJ O (bf 7 aA O aj O (aI (dN 7 H56 aj) ?_)))))
            rintro _ w57 H57
            refine dM O (bf 0 ah O aJ O (bf 8 aA O aj O (aI (dN 8 H57 aj) ?_)))
            rintro _ w58 X3
            refine iT (lF O (fB fA O ?_))
            refine ⟨O, ?_⟩
            first
              | exact absurd (hw2.symm.trans hwh) (by decide)
              | exact absurd (hwh.symm.trans hw2) (by decide)
              | (rw [uK]; exact V.eY dV bP X3.f11.f11.f11.f11.f11.f11.f11.f11.f11.f11.f11)
          · (try simp only [aH] at h25)
            have uK := jE oM hon hrun h25
            refine iq (lF O (fB fA O ?_))
            refine ⟨O, ?_⟩
            first
              | exact absurd (hw2.symm.trans hwh) (by decide)
              | exact absurd (hwh.symm.trans hw2) (by decide)
              | (rw [uK]; exact V.eY dV bP H56.f11.f11.f11.f11.f11.f11.f11.f11.f11.f11.f11)
      · (try simp only [aH] at h20)
        have hwh : s.whole = false := by simpa using h20
        have hty : s.typed = false := by unfold aY.typed; rw [hc3, hwh]; rfl
        have hrun : (s.typed && (!s.put.isEmpty || s.c.run)) = false := by rw [hty]; rfl
        refine dH (dH (dH (dH (dH (lV O O ?_)))))
        have hwo := yS (yj.f11)
        have acM := yj.f11.right
        have HW0 := V.Dl (c := s.was) (u := [oZ, o7, o8, o9, pq, pz, pF, pG, pI, pJ, pK]) acM hwo
        obtain ⟨s1, oM, V4⟩ : ∃ s1, s1 = s.je ∧ V w0 (w3.drew) (eH e s1 • F) := ⟨_, hs1, V.eY (hs1 ▸ wP dV) bP HW0.f11.f11.f11.f11.f11.f11.f11.f11.f11.f11⟩
        have hr1 : s1.c.run = s.c.run := by rw [oM]; unfold aY.je; split <;> rfl
        refine dZ O func34 (nP V4) ?_
        rintro _ w60 H60
        obtain ⟨on, hon, HZ⟩ : ∃ on, (s.typed && s.c.run) = on ∧ V w0 w60 (eH e (s1.cO on) • F) := ⟨_, by rw [hty]; rfl, H60⟩
        refine qj ?_
        obtain ⟨qV, rC, rD, rZ, rE, rF, rG, rH, qA, oZ, o7, o8, o9, pq, pz, pF, pG, pI, pJ, pK, dV, bP, jh, dY⟩ := (HZ).Dy
        refine aC (mQ O O (qC O (fun h26 => ?_) (fun h26 => ?_)))
        · (try simp only [aH] at h26)
          have hw2 : s.whole = true := h26
          refine bU (cZ O (bU (qC O (fun h27 => ?_) (fun h27 => ?_))))
          · (try simp only [aH] at h27)
            have hrun : (s.typed && (!s.put.isEmpty || s.c.run)) = true := by first | exact absurd (hw2.symm.trans hwh) (by decide) | (rw [pV, decide_eq_false (show ¬ s.put.length = 0 by omega), hty]; rfl)
            refine dH (dH (dH (dH (dH (bU (pW O O (pW O O (dM O (bf 0 ah O aJ O (bf 10 aA O aQ O (aI (dN 10 dY aQ) ?_)))))))))))
            rintro _ w62 H62
            refine sU O (ny O O (bf 28 ah O aj O (dQ ay O (H62).get.2 O (dM O (bf 0 ah O aJ O (bf 6 aA O aj O (aI (dN 6 H62 aj) ?_)))))))
            rintro _ w63 H63
            refine qj (bM O (dM O (bf 28 ah O aj O (dQ ay O (H63).get.2 O (aV (dO O O) (kK O (fun h28 => ?_) (fun h28 => ?_)))))))
            · (try simp only [aH] at h28)
              have uK := kF oM hon hrun h28
              refine aC (mQ O O (dM O (bf 0 ah O aJ O (bf 7 aA O aj O (aI (dN 7 H63 aj) ?_)))))
              rintro _ w64 H64
              refine dM O (bf 0 ah O aJ O (bf 8 aA O aj O (aI (dN 8 H64 aj) ?_)))
              rintro _ w65 H65
              refine iT (lF O (fB fA O ?_))
              refine ⟨O, ?_⟩
              first
                | exact absurd (hw2.symm.trans hwh) (by decide)
                | exact absurd (hwh.symm.trans hw2) (by decide)
                | (rw [uK]; exact V.eY dV bP H65.f11.f11.f11.f11.f11.f11.f11.f11.f11.f11.f11)
            · (try simp only [aH] at h28)
              have uK := jE oM hon hrun h28
              refine iq (lF O (fB fA O ?_))
              refine ⟨O, ?_⟩
              first
                | exact absurd (hw2.symm.trans hwh) (by decide)
                | exact absurd (hwh.symm.trans hw2) (by decide)
                | (rw [uK]; exact V.eY dV bP H63.f11.f11.f11.f11.f11.f11.f11.f11.f11.f11.f11)
          · (try simp only [aH] at h27)
            have hrun : (s.typed && (!s.put.isEmpty || s.c.run)) = (s1.cO on).c.run := by first | exact absurd (hw2.symm.trans hwh) (by decide) | (rw [pV, decide_eq_true (show s.put.length = 0 by omega), hty, zD, hr1]; rfl)
            refine bU (cZ O (bU (dM O (bU (bf 0 ah O aJ O (bU (bf 10 aA O aQ O (bU (dQ bW O (dY).get.2 O (bU (lV O O (pW O O (dM O (bf 0 ah O aJ O (bf 10 aA O aQ O (aI (dN 10 dY aQ) ?_))))))))))))))))
            rintro _ w66 H66
            refine sU O (ny O O (bf 28 ah O aj O (dQ ay O (H66).get.2 O (dM O (bf 0 ah O aJ O (bf 6 aA O aj O (aI (dN 6 H66 aj) ?_)))))))
            rintro _ w67 H67
            refine qj (bM O (dM O (bf 28 ah O aj O (dQ ay O (H67).get.2 O (aV (dO O O) (kK O (fun h29 => ?_) (fun h29 => ?_)))))))
            · (try simp only [aH] at h29)
              have uK := kF oM hon hrun h29
              refine aC (mQ O O (dM O (bf 0 ah O aJ O (bf 7 aA O aj O (aI (dN 7 H67 aj) ?_)))))
              rintro _ w68 H68
              refine dM O (bf 0 ah O aJ O (bf 8 aA O aj O (aI (dN 8 H68 aj) ?_)))
              rintro _ w69 H69
              refine iT (lF O (fB fA O ?_))
              refine ⟨O, ?_⟩
              first
                | exact absurd (hw2.symm.trans hwh) (by decide)
                | exact absurd (hwh.symm.trans hw2) (by decide)
                | (rw [uK]; exact V.eY dV bP H69.f11.f11.f11.f11.f11.f11.f11.f11.f11.f11.f11)
            · (try simp only [aH] at h29)
              have uK := jE oM hon hrun h29
              refine iq (lF O (fB fA O ?_))
              refine ⟨O, ?_⟩
              first
                | exact absurd (hw2.symm.trans hwh) (by decide)
                | exact absurd (hwh.symm.trans hw2) (by decide)
                | (rw [uK]; exact V.eY dV bP H67.f11.f11.f11.f11.f11.f11.f11.f11.f11.f11.f11)
        · (try simp only [aH] at h26)
          have hw2 : s.whole = false := by simpa using h26
          have hrun : (s.typed && (!s.put.isEmpty || s.c.run)) = false := by first | exact absurd (hwh.symm.trans hw2) (by decide) | (rw [hty]; rfl)
          refine dH (dH (sG (sG (sG (sG (sG (dH (lV O O (dM O (bf 0 ah O aJ O (bf 10 aA O aQ O (aI (dN 10 dY aQ) ?_))))))))))))
          rintro _ w70 H70
          refine sU O (ny O O (bf 28 ah O aj O (dQ ay O (H70).get.2 O (dM O (bf 0 ah O aJ O (bf 6 aA O aj O (aI (dN 6 H70 aj) ?_)))))))
          rintro _ w71 H71
          refine qj (bM O (dM O (bf 28 ah O aj O (dQ ay O (H71).get.2 O (aV (dO O O) (kK O (fun h30 => ?_) (fun h30 => ?_)))))))
          · (try simp only [aH] at h30)
            have uK := kF oM hon hrun h30
            refine aC (mQ O O (dM O (bf 0 ah O aJ O (bf 7 aA O aj O (aI (dN 7 H71 aj) ?_)))))
            rintro _ w72 H72
            refine dM O (bf 0 ah O aJ O (bf 8 aA O aj O (aI (dN 8 H72 aj) ?_)))
            rintro _ w73 H73
            refine iT (lF O (fB fA O ?_))
            refine ⟨O, ?_⟩
            first
              | exact absurd (hw2.symm.trans hwh) (by decide)
              | exact absurd (hwh.symm.trans hw2) (by decide)
              | (rw [uK]; exact V.eY dV bP H73.f11.f11.f11.f11.f11.f11.f11.f11.f11.f11.f11)
          · (try simp only [aH] at h30)
            have uK := jE oM hon hrun h30
            refine iq (lF O (fB fA O ?_))
            refine ⟨O, ?_⟩
            first
              | exact absurd (hw2.symm.trans hwh) (by decide)
              | exact absurd (hwh.symm.trans hw2) (by decide)
              | (rw [uK]; exact V.eY dV bP H71.f11.f11.f11.f11.f11.f11.f11.f11.f11.f11.f11)
    · (try simp only [aH] at h19)
      have hty : s.typed = false := by unfold aY.typed; rw [beq_false_of_ne h19]; rfl
      have hrun : (s.typed && (!s.put.isEmpty || s.c.run)) = false := by rw [hty]; rfl
      refine nZ 6 O O O O (by kernel_rfl) (by kernel_rfl) iF (jY O) ?_
      refine nZ 7 O O O O (by kernel_rfl) (by kernel_rfl) iF (jY O) ?_
      refine nZ 8 O O O O (by kernel_rfl) (by kernel_rfl) iF (jY O) ?_
      refine nZ 9 O O O O (by kernel_rfl) (by kernel_rfl) iF (jY O) ?_
      refine jW 10 O iF (fun _ => Ai O O) (jc 11 O iF O (kN 12 O iF O (fV 13 O iF 33 ah O bV O (jq 14 O iF (fun W hW => jV aU O ((Kp.h hW)).get.2 O) (jW 15 O iF (fun _ => iE ((yj.f9).aP) aU O) (jW 16 O iF (fun _ => fZ O O) (jW 17 O iF (fun _ => iV O) (jW 18 O iF (fun _ => iV O) (qp (bg (bM O (mQ O O (dH (dH (dH (dH (dH (lV O O ?_))))))))))))))))))
      have hwo := yS (yj.f11)
      have acN := yj.f11.right
      have HW0 := V.Dl (c := s.was) (u := [oZ, o7, o8, o9, pq, pz, pF, pG, pI, pJ, pK]) acN hwo
      obtain ⟨s1, oM, V4⟩ : ∃ s1, s1 = s.je ∧ V w0 (w3.drew) (eH e s1 • F) := ⟨_, hs1, V.eY (hs1 ▸ wP dV) bP HW0.f11.f11.f11.f11.f11.f11.f11.f11.f11.f11⟩
      have hr1 : s1.c.run = s.c.run := by rw [oM]; unfold aY.je; split <;> rfl
      refine dZ O func34 (nP V4) ?_
      rintro _ w75 H75
      obtain ⟨on, hon, HZ⟩ : ∃ on, (s.typed && s.c.run) = on ∧ V w0 w75 (eH e (s1.cO on) • F) := ⟨_, by rw [hty]; rfl, H75⟩
      refine qj ?_
      obtain ⟨qV, rC, rD, rZ, rE, rF, rG, rH, qA, oZ, o7, o8, o9, pq, pz, pF, pG, pI, pJ, pK, dV, bP, jh, dY⟩ := (HZ).Dy
      refine aC (mQ O O (cZ O (dH (dH (sG (sG (sG (sG (sG (dH (lV O O (dM O (bf 0 ah O aJ O (bf 10 aA O aQ O (aI (dN 10 dY aQ) ?_)))))))))))))))
      rintro _ w77 H77
      refine sU O (ny O O (bf 28 ah O aj O (dQ ay O (H77).get.2 O (dM O (bf 0 ah O aJ O (bf 6 aA O aj O (aI (dN 6 H77 aj) ?_)))))))
      rintro _ w78 H78
      refine qj (bM O (dM O (bf 28 ah O aj O (dQ ay O (H78).get.2 O (aV (dO O O) (kK O (fun h31 => ?_) (fun h31 => ?_)))))))
      · (try simp only [aH] at h31)
        have uK := kF oM hon hrun h31
        refine aC (mQ O O (dM O (bf 0 ah O aJ O (bf 7 aA O aj O (aI (dN 7 H78 aj) ?_)))))
        rintro _ w79 H79
        refine dM O (bf 0 ah O aJ O (bf 8 aA O aj O (aI (dN 8 H79 aj) ?_)))
        rintro _ w80 H80
        refine iT (lF O (fB fA O ?_))
        refine ⟨O, ?_⟩
        first
          | exact absurd (hw2.symm.trans hwh) (by decide)
          | exact absurd (hwh.symm.trans hw2) (by decide)
          | (rw [uK]; exact V.eY dV bP H80.f11.f11.f11.f11.f11.f11.f11.f11.f11.f11.f11)
      · (try simp only [aH] at h31)
        have uK := jE oM hon hrun h31
        refine iq (lF O (fB fA O ?_))
        refine ⟨O, ?_⟩
        first
          | exact absurd (hw2.symm.trans hwh) (by decide)
          | exact absurd (hwh.symm.trans hw2) (by decide)
          | (rw [uK]; exact V.eY dV bP H78.f11.f11.f11.f11.f11.f11.f11.f11.f11.f11.f11)
theorem Ku {s : aY} {x : Int} (hin : s.inn = true) (hx : x ≠ 0) : s.jP x = s.zx ∧ s.Di x = x := by
  unfold aY.jP aY.Di
  rw [if_pos hin, if_neg hx, if_pos hin]; exact ⟨rfl, rfl⟩
theorem V5 {s : aY} (h : oV s) (hin : s.inn = true) : oV s.zx := by
  obtain ⟨h1, h2, h3⟩ := h.2.1 hin
  exact ⟨h1, fun h => Bool.noConfusion h, ⟨by show (-1 : Int) ≤ -1; decide, by show (-1 : Int) ≤ 1000000; decide⟩, by simp [aY.zx], h2, h3⟩
theorem Qr (hin : s.inn = true) (hx : x ≠ 0) (H : V w0 w (eH e s • F)) : iU prog 8 #[.pointer (some ⟨e, 0, none⟩), .int .i64 x] w fun v w' => v = .int .i64 x ∧ V w0 w' (eH e s.zx • F) := by
 have hpe : s.yP = 0 := by unfold aY.yP; rw [if_pos hin]
 refine oP func8 ntmps8 ?_
 refine lZ O (aO (bM O (dZ O func32 (jm H) ?_)))
 rintro _ _ ⟨rfl, rfl⟩
 refine gY O (bM O (aV (dO O O) (kK O (fun h => by exfalso; (try simp only [aH] at h); exact h hpe) (fun h1 => ?_))))
 (try simp only [aH] at h1)
 refine iq (aO ?_)
 obtain ⟨qV, rC, rD, rZ, rE, rF, rG, rH, qA, oZ, o7, o8, o9, pq, pz, pF, pG, pI, pJ, pK, dV, bP, jh, dY⟩ := (H).Dy
 have HI := dY
 rw [hin] at HI
 obtain ⟨qb, qr, qw, qt, qm, hu, HW⟩ := (HI.f11).was
 simp only [N7, List.cons.injEq, and_true] at hu
 obtain ⟨rfl, rfl, rfl, rfl, rfl, rfl, rfl, rfl, rfl, rfl, rfl⟩ := hu
 refine aC (ny O O (bf 16 ah O aQ O (aI (dN 16 HW.f6 aQ) ?_)))
 rintro _ w3 H3
 refine qj (bM O (dM O (bf 31 ah O aQ O (dQ bW O (H3).get.2 O (aV (oO O) (qC O (fun h2 => ?_) (fun h2 => ?_)))))))
 ·(try simp only [aH] at h2)
  refine dH (dH (pW O O (iT (EY (aC (mQ O O (ny O O (bf 13 ah O aQ O (aI (dN 13 H3 aQ) ?_)))))))))
  rintro _ w4 H4
  refine dM O (bf 14 ah O aQ O (aI (dN 14 H4 aQ) ?_))
  rintro _ w5 H5
  refine dM O (bf 15 ah O aj O (aI (dN 15 H5 aj) ?_))
  rintro _ w6 H6
  refine qj (bM O (aV (dO O O) (kK O (fun h3 => ?_) (fun h => by exfalso; (try simp only [aH] at h); exact hx h))))
  (try simp only [aH] at h3)
  refine bM O (ny O O (bf 17 ah O aJ O (aV (uV 17 (xs := [_, _, _, _, _, _, _, _, _, _, _]) aA O aJ O O (H6).get.2 O) (dM O (bf 0 ah O aJ O (aI (dh 0 (l' := [_, _, _, _, _, _, _, _, _, _, _, _, _, _, _, _, _, _, _, _, _, _, _, _, _, _, _, _, _, _, _, _, _, _]) (us := [_, _, _, _, _, _, _, _, _, _, _]) H6 aJ O O O (aF (aF (aF (aF (aF (aF (aF (aF (aF (aF (aF bK))))))))))) O O) ?_))))))
  rintro _ w7 H7
  refine sU O (dM O (bf 12 ah O sizeOf66 O (dQ underlying66 O (H7).get.2 O (dZ O func33 (Ee H7.f13) ?_))))
  rintro _ w8 ⟨rfl, H8⟩
  refine sU O (mQ O O (ny O O (bf 0 ah O aJ O (bf 6 aA O aj O (aI (dN 6 H8.f2 aj) ?_)))))
  rintro _ w9 H9
  refine dM O (bf 0 ah O aJ O (bf 7 aA O aj O (aI (dN 7 H9 aj) ?_)))
  rintro _ w10 sV
  refine dM O (bf 0 ah O aJ O (bf 8 aA O aj O (aI (dN 8 sV aj) ?_)))
  rintro _ I9 yt
  refine dM O (bf 33 ah O bV O (aI (dN 33 yt bV) ?_))
  rintro _ w12 wz
  refine sU O (iW O (aK (fB fA O ?_)))
  exact ⟨O, V.Ql (s := s.zx) (V5 dV hin) O O wz.f8.right.f8.right.f8.right.f8.right.f8.right.f9.right.f9.right.f2.f8.f8.f8.f8.f8.f8.f8⟩
 ·(try simp only [aH] at h2)
  refine bU (cZ O (bU (aV (dO O O) (lV O O (kK O (fun h4 => ?_) (fun h => by exfalso; (try simp only [aH] at h); exact hx h))))))
  (try simp only [aH] at h4)
  refine aC (mQ O O (ny O O (bf 13 ah O aQ O (aI (dN 13 H3 aQ) ?_))))
  rintro _ O8 yY
  refine dM O (bf 14 ah O aQ O (aI (dN 14 yY aQ) ?_))
  rintro _ MK yu
  refine dM O (bf 15 ah O aj O (aI (dN 15 yu aj) ?_))
  rintro _ SX BA
  refine qj (bM O (aV (dO O O) (kK O (fun h5 => ?_) (fun h => by exfalso; (try simp only [aH] at h); exact hx h))))
  (try simp only [aH] at h5)
  refine bM O (ny O O (bf 17 ah O aJ O (aV (uV 17 (xs := [_, _, _, _, _, _, _, _, _, _, _]) aA O aJ O O (BA).get.2 O) (dM O (bf 0 ah O aJ O (aI (dh 0 (l' := [_, _, _, _, _, _, _, _, _, _, _, _, _, _, _, _, _, _, _, _, _, _, _, _, _, _, _, _, _, _, _, _, _, _]) (us := [_, _, _, _, _, _, _, _, _, _, _]) BA aJ O O O (aF (aF (aF (aF (aF (aF (aF (aF (aF (aF (aF bK))))))))))) O O) ?_))))))
  rintro _ w16 uO
  refine sU O (dM O (bf 12 ah O sizeOf66 O (dQ underlying66 O (uO).get.2 O (dZ O func33 (Ee uO.f13) ?_))))
  rintro _ Xc ⟨rfl, Dx⟩
  refine sU O (mQ O O (ny O O (bf 0 ah O aJ O (bf 6 aA O aj O (aI (dN 6 Dx.f2 aj) ?_)))))
  rintro _ Xd Es
  refine dM O (bf 0 ah O aJ O (bf 7 aA O aj O (aI (dN 7 Es aj) ?_)))
  rintro _ Xf zO
  refine dM O (bf 0 ah O aJ O (bf 8 aA O aj O (aI (dN 8 zO aj) ?_)))
  rintro _ XJ BD
  refine dM O (bf 33 ah O bV O (aI (dN 33 BD bV) ?_))
  rintro _ XK sW
  refine sU O (iW O (aK (fB fA O ?_)))
  exact ⟨O, V.Ql (s := s.zx) (V5 dV hin) O O sW.f8.right.f8.right.f8.right.f8.right.f8.right.f9.right.f9.right.f2.f8.f8.f8.f8.f8.f8.f8⟩
theorem Dt (H : V w0 w (eH e s • F)) : iU prog 8 #[.pointer (some ⟨e, 0, none⟩), .int .i64 x] w fun v w' => v = .int .i64 (s.Di x) ∧ V w0 w' (eH e (s.jP x) • F) := by
  by_cases hin : s.inn = true
  · by_cases hx : x = 0
    · subst hx
      rw [show s.jP 0 = s.ng from by unfold aY.jP; rw [if_pos hin, if_pos rfl], show s.Di 0 = 0 from by unfold aY.Di; rw [if_pos hin]]
      exact Ou hin H
    · rw [(Ku hin hx).1, (Ku hin hx).2]
      exact Qr hin hx H
  · have hin' : s.inn = false := by simpa using hin
    have hpe : s.yP = 1 := by unfold aY.yP; rw [if_neg hin]
    rw [show s.jP x = s from by unfold aY.jP; rw [if_neg hin], show s.Di x = 1 from by unfold aY.Di; rw [if_neg hin]]
    refine oP func8 ntmps8 ?_
    refine lZ O (aO (bM O (dZ O func32 (jm H) ?_)))
    rintro _ _ ⟨rfl, rfl⟩
    refine gY O (bM O (aV (dO O O) (kK O (fun h1 => ?_) (fun h => by exfalso; (try simp only [aH] at h); rw [hpe] at h; exact absurd h (by decide)))))
    (try simp only [aH] at h1)
    refine bM O (iW O (aK (fB fA O ?_)))
    rw [hpe]
    exact ⟨O, H⟩
end
theorem TL (G : List (List gV)) : uo G [] = if G = [] then 6 else 0 := by unfold uo; cases G <;> simp
theorem Qs {G : List (List gV)} (h : G ≠ []) : Q5 G [] = (G.getLastD []).reverse.map vV := by
  unfold Q5 mW
  rw [if_neg (by cases G <;> simp_all), if_pos rfl]
theorem V6 {s : aY} (h : oV s) {G : List (List gV)} (h1 : gI G s.put ≤ gI s.here s.put) (h2 : ∀ g ∈ G, g ∈ s.here) : oV (s.kT G) := by
  obtain ⟨a1, a2, a3, a4, a5, a6⟩ := h
  refine ⟨a1, a2, a3, a4, ?_, ?_⟩
  · show gI (vF s.c.un s.c.place G s.c.place) s.put ≤ 16384
    rw [gZ]; omega
  · intro k g hg
    have hg' : g ∈ vF s.c.un s.c.place G k := hg
    by_cases hk : k = s.c.place
    · subst hk; rw [gZ] at hg'; exact a6 _ g (h2 g hg')
    · rw [vG _ _ hk] at hg'; exact a6 k g hg'
theorem Kv (G : List (List gV)) (N : List gV) : gI G.dropLast N ≤ gI G N := by
  by_cases h : G = []
  · subst h; exact Nat.le_refl _
  · have := zC h
    unfold gI; omega
theorem Qu {s : aY} : s.kT s.here = s := by unfold aY.kT aY.here; rw [Q7]
theorem TM (b : List Int × Int × Int) (l : List gV) (x : gV) : aY.apps b (l ++ [x]) = aY.Zz (aY.apps b l) x := by unfold aY.apps; rw [List.foldl_append]; rfl
section
variable {w0 w : World} {F : HP} {e p : Nat} {s : aY} {x : Int}
theorem Ov (H : V w0 w (eH e s • F)) : iU prog 29 #[.pointer (some ⟨e, 0, none⟩)] w fun v w' => v = .int .i64 s.uo ∧ V w0 w' (eH e s.oU • F) := by
 refine ji func29 ntmps29 ?_
 refine lZ O (aO (bM O (dZ O func32 (jm H) ?_)))
 rintro _ _ ⟨rfl, rfl⟩
 refine gY O (bM O (aV (dO O O) (kK O (fun h1 => ?_) (fun h1 => ?_))))
 ·(try simp only [aH] at h1)
  obtain ⟨hin, hpe⟩ := rQ h1
  refine bM O (iW O (aK (fB results29 O ?_)))
  rw [hpe]
  exact ⟨by simp [aY.uo, aY.oU, hin], by rw [show s.oU = s from by simp [aY.uo, aY.oU, hin]]; exact H⟩
 ·(try simp only [aH] at h1)
  have hin := oW h1
  refine iq (bM O (dZ O func34 (nP H) ?_))
  rintro _ w2 H2
  obtain ⟨t, ht, HT⟩ : ∃ t, s.cO false = t ∧ V w0 w2 (eH e t • F) := ⟨_, rfl, H2⟩
  obtain ⟨qV, rC, rD, rZ, rE, rF, rG, rH, qA, oZ, o7, o8, o9, pq, pz, pF, pG, pI, pJ, pK, dV, bP, jh, dY⟩ := (HT).Dy
  refine sU O (dZ O func55 (xH dY.f6.f5.f3) ?_)
  rintro _ w4 ⟨lp4, rfl, H4⟩
  refine dZ O func65 (xY H4) ?_
  rintro _ w5 ⟨u5, fs5, rfl, Zv, H5⟩
  obtain ⟨h9a, h9b, h9c⟩ := EP (t.c.un t.c.place)
  have HX := H5
  rw [h9a, h9b, h9c] at HX
  rw [TL]
  obtain ⟨uu, rfl⟩ : ∃ q, q = u5 := ⟨_, rfl⟩
  obtain ⟨fs, rfl⟩ : ∃ q, q = fs5 := ⟨_, rfl⟩
  have hfs := Zv
  have XU := HX.f2.f2
  have XV := XU
  have ZQ := XV.f3.f4
  have Xg := V.wO ZQ
  refine cZ O (rO O O (rO O O (lU O (tJ O (bM O (aV (dO O O) (kK O (fun h2 => ?_) (fun h2 => ?_))))))))
  ·(try simp only [aH] at h2)
   have h0 : t.here = [] := by by_cases hx : t.here = []; exact hx; exact absurd (if_neg hx) h2
   refine bM O (iW O (aK (fB results29 O ?_)))
   have hE : s.uo = 6 := by unfold aY.uo; rw [if_pos hin, ht, if_pos h0]
   have hS : s.oU = t.kT t.here.dropLast := by unfold aY.oU; rw [if_pos hin]; dsimp only; rw [ht, if_pos h0, h0]; exact (h0 ▸ Qu).symm
   exact ⟨by rw [hE]; show Value.int _ (if t.c.un t.c.place = [] then 6 else 0) = _; rw [if_pos (show t.c.un t.c.place = [] from h0)], by rw [hS]; exact V.eY (s := t.kT t.here.dropLast) (V6 dV (Kv _ _) (fun g hg => List.dropLast_subset _ hg)) bP Xg.f2.right.f2.right.f11.f11.f11.f11.f11.f6.f11.f9.f11.f11.f11⟩
  ·(try simp only [aH] at h2)
   have h0 : ¬ t.here = [] := fun hx => by rw [if_pos (show t.c.un t.c.place = [] from hx)] at h2; exact absurd h2 (by decide)
   refine iq (aO (aO ?_))
   have abb : fs.map fD.says = (t.here.getLastD []).reverse.map vV := hfs.trans (Qs h0)
   have hfl : fs.length ≤ 16384 := by
    have h9 := congrArg List.length abb
    rw [List.length_map, List.length_map, List.length_reverse] at h9
    have h8 := zC h0
    have h7 : gI t.here t.put ≤ 16384 := dV.2.2.2.2.1
    unfold gI at h7
    omega
   refine aC (cZ O (aV (iE ((Xg.f2).aP) aU O) (cZ O (iT (bn ?_)))))
   obtain ⟨R10, ZE, ZF⟩ := V.Yo (Xg.f4.f4.f4.f6)
   refine iR [(0, _), (24, _), (25, _)] (fun (i : Nat) => [(26, .int .i64 (i : Int))]) (fun (i : Nat) W => i ≤ fs.length ∧ V w0 W (fF qV (aY.apps (t.c.L, t.c.pt, t.c.mark) ((fs.take i).map fD.says)).1 (aY.apps (t.c.L, t.c.pt, t.c.mark) ((fs.take i).map fD.says)).2.1 (aY.apps (t.c.L, t.c.pt, t.c.mark) ((fs.take i).map fD.says)).2.2 • Row 124 3 uu fs.length (fs.flatMap fD.enc) • nC fs • dR e (.cells (.pointer (some ⟨qV, 0, none⟩) :: .pointer (some ⟨rC, 0, none⟩) :: .pointer (some ⟨rD, 0, none⟩) :: .map (some rE) :: .int .i64 t.c.mode :: .bool t.c.over :: .int .i64 t.c.last :: .int .i64 t.c.fr :: .int .i64 t.c.to :: .int .i64 t.c.res :: .bool t.c.run :: .pointer (some ⟨rF, 0, none⟩) :: .pointer (some ⟨rG, 0, none⟩) :: .bool t.given :: .bool t.minus :: .int .i64 t.arg :: .bool t.inn :: oZ :: o7 :: o8 :: o9 :: pq :: pz :: pF :: pG :: pI :: pJ :: pK :: .int .i64 t.cls :: .bool t.killed :: .bool t.lW :: .bool t.argues :: .bool t.whole :: rH :: []).toArray 69 (0, 0)) • R10)) (fun (i : Nat) => fs.length - i) (0) Gf sJ ⟨by omega, ZF⟩ ?_
   rintro i I9 ⟨hi, HL⟩
   dsimp only [List.cons_append, List.nil_append]
   refine jg (aV (fJ O O) (qj (bI O (fun h3 => ?_) (fun h3 => ?_))))
   ·(try simp only [aH] at h3)
    refine iq (aO (bn (jg ?_)))
    obtain ⟨buu, ouu, cuu, euu⟩ := Rd.vS ((HL.f2).aP) (by omega)
    cases euu
    refine aV (gU aU bG O O (by omega)) (aV (jC (ys := [_, _, _]) ((HL.f2).aP) (by omega) aS O bG O (kH fD.tY (by omega) default) O) ?_)
    have hkl : i < fs.length := by omega
    refine jL (fE (l := [_, _, _]) HL dB O) ?_
    rintro _ w12 ⟨b12, rfl, wz⟩
    refine aI (dh 0 (l' := [_, _, _]) (us := [_, _, _]) wz bG O O O (aF (aZ (by first | rfl | exact Rd.one (((wz.f4).mZ hkl).1)) (aZ (by first | rfl | exact Rd.one (((wz.f4).mZ hkl).2)) bK))) O O) ?_
    rintro _ O8 yY
    refine iT ?_
    have V7 := yY.drew
    have zF := V.kp (V7.f5.f5.f5.f5.f5)
    refine xP [4, 5] zF O (jc 0 O zF O (kN 1 O zF O (fV 2 O zF 0 ah O aJ O (fV 3 O zF 0 aA O iD O (jq 4 O zF (fun W hW => jV dU O ((Kp.h hW).f5).get.2 O) (jq 5 O zF (fun W hW => dG aS O bG O O ((Kp.h hW)).get.2) (mP 6 O (wu O func66 (Jj V7.f2 (fun W HW => ((HW.f3).mZ hkl).1) (fun W HW => ((HW.f3).mZ hkl).2))) ?_)))))))
    rintro _ MK ⟨rfl, yu⟩
    have ND := V.kp (yu.f5.f5.f5.f5.f5)
    refine iC ND (by kernel_rfl) ?_
    refine qp (aN (bg (aC (aV (gX O O (by omega)) (cZ O (bY ?_))))))
    refine fG (i + 1) ?_ ?_ ?_ ?_
    ·exact sJ
    ·exact Gf
    ·(try dsimp only)
     first | done | exact ⟨by omega, by rw [BL hkl, TM]; exact yu.f2.right.f4.f4.f4.f4⟩
    ·(try dsimp only); omega
   ·(try simp only [aH] at h3)
    refine iJ (aX ?_)
    have hil : i = fs.length := by omega
    have HB := HL
    rw [hil, List.take_length] at HB
    subst ZE
    refine aX (dA (bg (bM O (ny O O (bf 32 ah O aQ O (aI (dN 32 HB.f4 aQ) ?_))))))
    rintro _ SX BA
    refine dM O (bf 0 ah O aJ O (bf 10 aA O aQ O (aI (dN 10 BA aQ) ?_)))
    rintro _ w16 uO
    refine iT (lF O (fB results29 O ?_))
    rw [abb] at uO
    have hE : s.uo = 0 := by unfold aY.uo; rw [if_pos hin, ht, if_neg h0]
    have hS : s.oU = ((t.kT t.here.dropLast).Ik ((t.here.getLastD []).reverse.map vV)).zy := by unfold aY.oU; rw [if_pos hin]; dsimp only; rw [ht, if_neg h0]
    exact ⟨by rw [hE], by rw [hS]; exact V.eY (s := ((t.kT t.here.dropLast).Ik ((t.here.getLastD []).reverse.map vV)).zy) (V6 dV (Kv _ _) (fun g hg => List.dropLast_subset _ hg)) bP uO.f3.right.f3.right.f11.f11.f11.f11.f11.f8.f11.f10.f11.f11.f11⟩
end
end Go.Proofs.YtimndnfpcomhlaaGreatDoor
end
