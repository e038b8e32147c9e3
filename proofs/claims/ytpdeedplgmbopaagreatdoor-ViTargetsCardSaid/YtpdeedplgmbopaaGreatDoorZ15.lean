import Derived.Test.YtpdeedplgmbopaaGreatDoorZ4
import Derived.Test.YtpdeedplgmbopaaGreatDoorZ14
import Derived.Test.YtpdeedplgmbopaaGreatDoorZ6
set_option linter.unusedSimpArgs false
set_option linter.unusedVariables false
/- Texts of mine, joined, their names in short: EdE EdU Owns EdS. -/
section
namespace Go.Proofs.YtpdeedplgmbopaaGreatDoor
open Go.RowKit
open _root_.Go.Proofs.Tryz
theorem zT (s : dN) (on : Bool) : (s.iF on).c.run = s.c.run := by unfold dN.iF; split <;> rfl
theorem IW (s : dN) (on : Bool) : (s.iF on).cls = s.cls := by unfold dN.iF; split <;> rfl
theorem kF {s s1 : dN} {on run : Bool} (h1 : s1 = s.kL) (hon : (s.typed && s.c.run) = on) (hrun : (s.typed && (!s.put.isEmpty || s.c.run)) = run) (h2 : (s1.iF on).cls ≠ 2) :
    s.qj = { s1.iF on with c := { (s1.iF on).c with run := run, last := (s1.iF on).cls, fr := 0, to := 0 } } := by
  subst h1 hon hrun
  have hc : (s.kL.iF (s.typed && s.c.run)).cls = s.cls := by rw [IW]; unfold dN.kL; split <;> rfl
  unfold dN.qj
  rw [hc] at h2 ⊢
  dsimp only
  rw [if_pos h2]
theorem jO {s s1 : dN} {on run : Bool} (h1 : s1 = s.kL) (hon : (s.typed && s.c.run) = on) (hrun : (s.typed && (!s.put.isEmpty || s.c.run)) = run) (h2 : (s1.iF on).cls = 2) :
    s.qj = { s1.iF on with c := { (s1.iF on).c with run := run, last := (s1.iF on).cls } } := by
  subst h1 hon hrun
  have hc : (s.kL.iF (s.typed && s.c.run)).cls = s.cls := by rw [IW]; unfold dN.kL; split <;> rfl
  unfold dN.qj
  rw [hc] at h2 ⊢
  dsimp only
  rw [if_neg (by omega)]
theorem uS {s : dN} (h : mF s) : mF s.kL := by
  obtain ⟨h1, h2, h3, h4, h5, h6⟩ := h
  unfold dN.kL
  split
  · exact ⟨h1, fun h => Bool.noConfusion h, h3, h4, h5, h6⟩
  · exact ⟨h1, fun h => Bool.noConfusion h, ⟨by show (-1 : Int) ≤ -1; decide, by show (-1 : Int) ≤ 1000000; decide⟩, h4, h5, h6⟩
theorem pV {l : List jq} : l.isEmpty = decide (l.length = 0) := by cases l <;> rfl
section
variable {w0 w : World} {F : HP} {e p : Nat} {s : dN} {x : Int}
theorem OX (hin : s.inn = true) (H : V w0 w (iC e s • F)) : ig prog 31 #[.pointer (some ⟨e, 0, none⟩), .int .i64 0] w fun v w' => v = .int .i64 0 ∧ V w0 w' (iC e s.qj • F) := by
  have hpe : s.y9 = 0 := by unfold dN.y9; rw [if_pos hin]
  refine nC func31 ntmps31 ?_
  refine jy O (aK (bM O (dX O func81 (vM H) ?_)))
  rintro _ _ ⟨rfl, rfl⟩
  refine fV O (bM O (Z (jv O O) (gQ O (fun h => by exfalso; (try simp only [aC] at h); exact h hpe) (fun h1 => ?_))))
  (try simp only [aC] at h1)
  refine fG (aK ?_)
  obtain ⟨yI, yJ, yK, yL, yM, yN, yO, yP, wu, uF, uG, uH, uI, uJ, uK, uM, uN, uO, uP, uQ, iR, dM, lJ, jg⟩ := (H).Ik
  refine aA (nZ O O (bK 16 ah O aT O (aO (fE 16 jg aT) ?_)))
  rintro _ w3 H3
  refine qW (bM O (dQ O (bK 31 ah O aT O (gJ bW O (H3).get.2 O (Z (mD O) (iZ O (fun h2 => ?_) (fun h2 => ?_)))))))
  · (try simp only [aC] at h2)
    have har : s.argues = false := by simpa using h2
    have hs1 : ({ s.AX with inn := false } : dN) = s.kL := by unfold dN.kL; rw [if_neg (by simp [har])]
    refine bn (bn (iM O O (iy (DC (aA (jr O O (nZ O O (bK 13 ah O aT O (aO (fE 13 H3 aT) ?_)))))))))
    rintro _ w4 H4
    refine dQ O (bK 14 ah O aT O (aO (fE 14 H4 aT) ?_))
    rintro _ w5 H5
    refine dQ O (bK 15 ah O aF O (aO (fE 15 H5 aF) ?_))
    rintro _ w6 H6
    refine qW (bM O (Z (jv O O) (iy (NC O (fun h3 => ?_)))))
    (try simp only [aC] at h3)
    refine fG (aK ?_)
    have CU := H6.drew
    have jJ := V.kp (CU.f11.f11.f11.f11.f11.f11.f11.f11.f11.f11.f11)
    refine yY [3, 9, 14] jJ O (jW 0 O jJ O (kV 1 O jJ O (iJ 2 O jJ 28 ah O aF O (kK 3 O jJ (fun W hW => kQ aP O ((Kp.h hW)).get.2 O) (jQ 4 O jJ (fun _ => cZ O O) ?_)))))
    refine yX 5 O O (by kernel_rfl) (by kernel_rfl) jJ (kM O) (fun h4 => ?_) (fun h4 => ?_)
    · (try simp only [aC] at h4)
      have hc3 : s.cls = 3 := h4
      refine eH 6 O O O (by kernel_rfl) (by kernel_rfl) jJ (fun _ => uj O) (kM O) ?_
      refine eH 7 O O O (by kernel_rfl) (by kernel_rfl) jJ (fun _ => Ns O) (kM O) ?_
      refine eH 8 O O O (by kernel_rfl) (by kernel_rfl) jJ (fun _ => yV 32 ah O O aT (by decide) O rfl) (kM O) ?_
      refine vC 9 O O O (by kernel_rfl) (by kernel_rfl) jJ (by decide) (fun W hW => dH (bT bW O) O (iT ((Kp.h hW)).get.2 O)) (kM O) ?_
      refine jQ 10 O jJ (fun _ => vk O O) (jW 11 O jJ O (kV 12 O jJ O (iJ 13 O jJ 33 ah O bV O (kK 14 O jJ (fun W hW => kQ aZ O ((Kp.h hW)).get.2 O) (jQ 15 O jJ (fun _ => jU ((CU.f9).aY) aZ O) (jQ 16 O jJ (fun _ => iw O O) (jQ 17 O jJ (fun _ => dY O) (jQ 18 O jJ (fun _ => dY O) (sK (aW (bM O (bG O (iZ O (fun h5 => ?_) (fun h5 => ?_))))))))))))))
      · (try simp only [aC] at h5)
        have hwh : s.whole = true := h5
        have hty : s.typed = true := by unfold dN.typed; rw [hc3, hwh]; rfl
        refine bg (bG O (bg (dQ O (bg (bK 0 ah O aX O (bg (bK 10 aJ O aT O (bg (gJ bW O (CU).get.2 O (iM O O ?_))))))))))
        have hwo := xK (CU.f11)
        have Hd7 := CU.f11.right
        have HW0 := V.Dp (c := s.was) (u := [uF, uG, uH, uI, uJ, uK, uM, uN, uO, uP, uQ]) Hd7 hwo
        obtain ⟨s1, pF, Xx⟩ : ∃ s1, s1 = s.kL ∧ V w0 (w6.drew) (iC e s1 • F) := ⟨_, hs1, V.je (hs1 ▸ uS iR) dM HW0.f11.f11.f11.f11.f11.f11.f11.f11.f11.f11⟩
        have hr1 : s1.c.run = s.c.run := by rw [pF]; unfold dN.kL; split <;> rfl
        refine dX O func84 (qV Xx) ?_
        rintro _ w8 H8
        obtain ⟨on, hon, HZ⟩ : ∃ on, (s.typed && s.c.run) = on ∧ V w0 w8 (iC e (s1.iF on) • F) := ⟨_, by rw [hty]; rfl, H8⟩
        refine qW ?_
        obtain ⟨yI, yJ, yK, yL, yM, yN, yO, yP, wu, uF, uG, uH, uI, uJ, uK, uM, uN, uO, uP, uQ, iR, dM, lJ, jg⟩ := (HZ).Ik
        refine aA (jr O O (iZ O (fun h6 => ?_) (fun h6 => ?_)))
        · (try simp only [aC] at h6)
          have hw2 : s.whole = true := h6
          refine bg (bG O (bg (iZ O (fun h7 => ?_) (fun h7 => ?_))))
          · (try simp only [aC] at h7)
            have hrun : (s.typed && (!s.put.isEmpty || s.c.run)) = true := by first | exact absurd (hw2.symm.trans hwh) (by decide) | (rw [pV, decide_eq_false (show ¬ s.put.length = 0 by omega), hty]; rfl)
            refine bn (bn (bn (bn (bn (bg (iM O O (iM O O (dQ O (bK 0 ah O aX O (bK 10 aJ O aT O (aO (fE 10 jg aT) ?_)))))))))))
            rintro _ w10 rD
            refine sH O (nZ O O (bK 28 ah O aF O (gJ aP O (rD).get.2 O (dQ O (bK 0 ah O aX O (bK 6 aJ O aF O (aO (fE 6 rD aF) ?_)))))))
            rintro _ ED rM
            refine qW (bM O (dQ O (bK 28 ah O aF O (gJ aP O (rM).get.2 O (Z (jv O O) (gQ O (fun h8 => ?_) (fun h8 => ?_)))))))
            · (try simp only [aC] at h8)
              have uT := kF pF hon hrun h8
              refine aA (jr O O (dQ O (bK 0 ah O aX O (bK 7 aJ O aF O (aO (fE 7 rM aF) ?_)))))
              rintro _ w12 vX
              refine dQ O (bK 0 ah O aX O (bK 8 aJ O aF O (aO (fE 8 vX aF) ?_)))
              rintro _ PO xM
              refine iy (jB O (dF eF O ?_))
              refine ⟨O, ?_⟩
              first
                | exact absurd (hw2.symm.trans hwh) (by decide)
                | exact absurd (hwh.symm.trans hw2) (by decide)
                | (rw [uT]; exact V.je iR dM xM.f11.f11.f11.f11.f11.f11.f11.f11.f11.f11.f11)
            · (try simp only [aC] at h8)
              have uT := jO pF hon hrun h8
              refine fG (jB O (dF eF O ?_))
              refine ⟨O, ?_⟩
              first
                | exact absurd (hw2.symm.trans hwh) (by decide)
                | exact absurd (hwh.symm.trans hw2) (by decide)
                | (rw [uT]; exact V.je iR dM rM.f11.f11.f11.f11.f11.f11.f11.f11.f11.f11.f11)
          · (try simp only [aC] at h7)
            have hrun : (s.typed && (!s.put.isEmpty || s.c.run)) = (s1.iF on).c.run := by first | exact absurd (hw2.symm.trans hwh) (by decide) | (rw [pV, decide_eq_true (show s.put.length = 0 by omega), hty, zT, hr1]; rfl)
            refine bg (bG O (bg (dQ O (bg (bK 0 ah O aX O (bg (bK 10 aJ O aT O (bg (gJ bW O (jg).get.2 O (bg (gI O O (iM O O (dQ O (bK 0 ah O aX O (bK 10 aJ O aT O (aO (fE 10 jg aT) ?_))))))))))))))))
            rintro _ TN BJ
            refine sH O (nZ O O (bK 28 ah O aF O (gJ aP O (BJ).get.2 O (dQ O (bK 0 ah O aX O (bK 6 aJ O aF O (aO (fE 6 BJ aF) ?_)))))))
            rintro _ TV zH
            refine qW (bM O (dQ O (bK 28 ah O aF O (gJ aP O (zH).get.2 O (Z (jv O O) (gQ O (fun h9 => ?_) (fun h9 => ?_)))))))
            · (try simp only [aC] at h9)
              have uT := kF pF hon hrun h9
              refine aA (jr O O (dQ O (bK 0 ah O aX O (bK 7 aJ O aF O (aO (fE 7 zH aF) ?_)))))
              rintro _ w16 zB
              refine dQ O (bK 0 ah O aX O (bK 8 aJ O aF O (aO (fE 8 zB aF) ?_)))
              rintro _ ZY Jo
              refine iy (jB O (dF eF O ?_))
              refine ⟨O, ?_⟩
              first
                | exact absurd (hw2.symm.trans hwh) (by decide)
                | exact absurd (hwh.symm.trans hw2) (by decide)
                | (rw [uT]; exact V.je iR dM Jo.f11.f11.f11.f11.f11.f11.f11.f11.f11.f11.f11)
            · (try simp only [aC] at h9)
              have uT := jO pF hon hrun h9
              refine fG (jB O (dF eF O ?_))
              refine ⟨O, ?_⟩
              first
                | exact absurd (hw2.symm.trans hwh) (by decide)
                | exact absurd (hwh.symm.trans hw2) (by decide)
                | (rw [uT]; exact V.je iR dM zH.f11.f11.f11.f11.f11.f11.f11.f11.f11.f11.f11)
        · (try simp only [aC] at h6)
          have hw2 : s.whole = false := by simpa using h6
          have hrun : (s.typed && (!s.put.isEmpty || s.c.run)) = false := by first | exact absurd (hwh.symm.trans hw2) (by decide) | (rw [hty]; rfl)
          refine bn (bn (mV (mV (mV (mV (mV (bn (gI O O (dQ O (bK 0 ah O aX O (bK 10 aJ O aT O (aO (fE 10 jg aT) ?_))))))))))))
          rintro _ YE DT
          refine sH O (nZ O O (bK 28 ah O aF O (gJ aP O (DT).get.2 O (dQ O (bK 0 ah O aX O (bK 6 aJ O aF O (aO (fE 6 DT aF) ?_)))))))
          rintro _ w19 EO
          refine qW (bM O (dQ O (bK 28 ah O aF O (gJ aP O (EO).get.2 O (Z (jv O O) (gQ O (fun h10 => ?_) (fun h10 => ?_)))))))
          · (try simp only [aC] at h10)
            have uT := kF pF hon hrun h10
            refine aA (jr O O (dQ O (bK 0 ah O aX O (bK 7 aJ O aF O (aO (fE 7 EO aF) ?_)))))
            rintro _ w20 Qd
            refine dQ O (bK 0 ah O aX O (bK 8 aJ O aF O (aO (fE 8 Qd aF) ?_)))
            rintro _ w21 Jz
            refine iy (jB O (dF eF O ?_))
            refine ⟨O, ?_⟩
            first
              | exact absurd (hw2.symm.trans hwh) (by decide)
              | exact absurd (hwh.symm.trans hw2) (by decide)
              | (rw [uT]; exact V.je iR dM Jz.f11.f11.f11.f11.f11.f11.f11.f11.f11.f11.f11)
          · (try simp only [aC] at h10)
            have uT := jO pF hon hrun h10
            refine fG (jB O (dF eF O ?_))
            refine ⟨O, ?_⟩
            first
              | exact absurd (hw2.symm.trans hwh) (by decide)
              | exact absurd (hwh.symm.trans hw2) (by decide)
              | (rw [uT]; exact V.je iR dM EO.f11.f11.f11.f11.f11.f11.f11.f11.f11.f11.f11)
      · (try simp only [aC] at h5)
        have hwh : s.whole = false := by simpa using h5
        have hty : s.typed = false := by unfold dN.typed; rw [hc3, hwh]; rfl
        have hrun : (s.typed && (!s.put.isEmpty || s.c.run)) = false := by rw [hty]; rfl
        refine bn (bn (bn (bn (bn (gI O O ?_)))))
        have hwo := xK (CU.f11)
        have Ws := CU.f11.right
        have HW0 := V.Dp (c := s.was) (u := [uF, uG, uH, uI, uJ, uK, uM, uN, uO, uP, uQ]) Ws hwo
        obtain ⟨s1, pF, Xx⟩ : ∃ s1, s1 = s.kL ∧ V w0 (w6.drew) (iC e s1 • F) := ⟨_, hs1, V.je (hs1 ▸ uS iR) dM HW0.f11.f11.f11.f11.f11.f11.f11.f11.f11.f11⟩
        have hr1 : s1.c.run = s.c.run := by rw [pF]; unfold dN.kL; split <;> rfl
        refine dX O func84 (qV Xx) ?_
        rintro _ w23 JA
        obtain ⟨on, hon, HZ⟩ : ∃ on, (s.typed && s.c.run) = on ∧ V w0 w23 (iC e (s1.iF on) • F) := ⟨_, by rw [hty]; rfl, JA⟩
        refine qW ?_
        obtain ⟨yI, yJ, yK, yL, yM, yN, yO, yP, wu, uF, uG, uH, uI, uJ, uK, uM, uN, uO, uP, uQ, iR, dM, lJ, jg⟩ := (HZ).Ik
        refine aA (jr O O (iZ O (fun h11 => ?_) (fun h11 => ?_)))
        · (try simp only [aC] at h11)
          have hw2 : s.whole = true := h11
          refine bg (bG O (bg (iZ O (fun h12 => ?_) (fun h12 => ?_))))
          · (try simp only [aC] at h12)
            have hrun : (s.typed && (!s.put.isEmpty || s.c.run)) = true := by first | exact absurd (hw2.symm.trans hwh) (by decide) | (rw [pV, decide_eq_false (show ¬ s.put.length = 0 by omega), hty]; rfl)
            refine bn (bn (bn (bn (bn (bg (iM O O (iM O O (dQ O (bK 0 ah O aX O (bK 10 aJ O aT O (aO (fE 10 jg aT) ?_)))))))))))
            rintro _ w25 Vb
            refine sH O (nZ O O (bK 28 ah O aF O (gJ aP O (Vb).get.2 O (dQ O (bK 0 ah O aX O (bK 6 aJ O aF O (aO (fE 6 Vb aF) ?_)))))))
            rintro _ w26 Xg
            refine qW (bM O (dQ O (bK 28 ah O aF O (gJ aP O (Xg).get.2 O (Z (jv O O) (gQ O (fun h13 => ?_) (fun h13 => ?_)))))))
            · (try simp only [aC] at h13)
              have uT := kF pF hon hrun h13
              refine aA (jr O O (dQ O (bK 0 ah O aX O (bK 7 aJ O aF O (aO (fE 7 Xg aF) ?_)))))
              rintro _ w27 OM
              refine dQ O (bK 0 ah O aX O (bK 8 aJ O aF O (aO (fE 8 OM aF) ?_)))
              rintro _ w28 H28
              refine iy (jB O (dF eF O ?_))
              refine ⟨O, ?_⟩
              first
                | exact absurd (hw2.symm.trans hwh) (by decide)
                | exact absurd (hwh.symm.trans hw2) (by decide)
                | (rw [uT]; exact V.je iR dM H28.f11.f11.f11.f11.f11.f11.f11.f11.f11.f11.f11)
            · (try simp only [aC] at h13)
              have uT := jO pF hon hrun h13
              refine fG (jB O (dF eF O ?_))
              refine ⟨O, ?_⟩
              first
                | exact absurd (hw2.symm.trans hwh) (by decide)
                | exact absurd (hwh.symm.trans hw2) (by decide)
                | (rw [uT]; exact V.je iR dM Xg.f11.f11.f11.f11.f11.f11.f11.f11.f11.f11.f11)
          · (try simp only [aC] at h12)
            have hrun : (s.typed && (!s.put.isEmpty || s.c.run)) = (s1.iF on).c.run := by first | exact absurd (hw2.symm.trans hwh) (by decide) | (rw [pV, decide_eq_true (show s.put.length = 0 by omega), hty, zT, hr1]; rfl)
            refine bg (bG O (bg (dQ O (bg (bK 0 ah O aX O (bg (bK 10 aJ O aT O (bg (gJ bW O (jg).get.2 O (bg (gI O O (iM O O (dQ O (bK 0 ah O aX O (bK 10 aJ O aT O (aO (fE 10 jg aT) ?_))))))))))))))))
            rintro _ w29 Za
            refine sH O (nZ O O (bK 28 ah O aF O (gJ aP O (Za).get.2 O (dQ O (bK 0 ah O aX O (bK 6 aJ O aF O (aO (fE 6 Za aF) ?_)))))))
            rintro _ w30 Wv
            refine qW (bM O (dQ O (bK 28 ah O aF O (gJ aP O (Wv).get.2 O (Z (jv O O) (gQ O (fun h14 => ?_) (fun h14 => ?_)))))))
            · (try simp only [aC] at h14)
              have uT := kF pF hon hrun h14
              refine aA (jr O O (dQ O (bK 0 ah O aX O (bK 7 aJ O aF O (aO (fE 7 Wv aF) ?_)))))
              rintro _ w31 Ug
              refine dQ O (bK 0 ah O aX O (bK 8 aJ O aF O (aO (fE 8 Ug aF) ?_)))
              rintro _ w32 OO
              refine iy (jB O (dF eF O ?_))
              refine ⟨O, ?_⟩
              first
                | exact absurd (hw2.symm.trans hwh) (by decide)
                | exact absurd (hwh.symm.trans hw2) (by decide)
                | (rw [uT]; exact V.je iR dM OO.f11.f11.f11.f11.f11.f11.f11.f11.f11.f11.f11)
            · (try simp only [aC] at h14)
              have uT := jO pF hon hrun h14
              refine fG (jB O (dF eF O ?_))
              refine ⟨O, ?_⟩
              first
                | exact absurd (hw2.symm.trans hwh) (by decide)
                | exact absurd (hwh.symm.trans hw2) (by decide)
                | (rw [uT]; exact V.je iR dM Wv.f11.f11.f11.f11.f11.f11.f11.f11.f11.f11.f11)
        · (try simp only [aC] at h11)
          have hw2 : s.whole = false := by simpa using h11
          have hrun : (s.typed && (!s.put.isEmpty || s.c.run)) = false := by first | exact absurd (hwh.symm.trans hw2) (by decide) | (rw [hty]; rfl)
          refine bn (bn (mV (mV (mV (mV (mV (bn (gI O O (dQ O (bK 0 ah O aX O (bK 10 aJ O aT O (aO (fE 10 jg aT) ?_))))))))))))
          rintro _ w33 Yj
          refine sH O (nZ O O (bK 28 ah O aF O (gJ aP O (Yj).get.2 O (dQ O (bK 0 ah O aX O (bK 6 aJ O aF O (aO (fE 6 Yj aF) ?_)))))))
          rintro _ w34 Xi
          refine qW (bM O (dQ O (bK 28 ah O aF O (gJ aP O (Xi).get.2 O (Z (jv O O) (gQ O (fun h15 => ?_) (fun h15 => ?_)))))))
          · (try simp only [aC] at h15)
            have uT := kF pF hon hrun h15
            refine aA (jr O O (dQ O (bK 0 ah O aX O (bK 7 aJ O aF O (aO (fE 7 Xi aF) ?_)))))
            rintro _ w35 H35
            refine dQ O (bK 0 ah O aX O (bK 8 aJ O aF O (aO (fE 8 H35 aF) ?_)))
            rintro _ w36 H36
            refine iy (jB O (dF eF O ?_))
            refine ⟨O, ?_⟩
            first
              | exact absurd (hw2.symm.trans hwh) (by decide)
              | exact absurd (hwh.symm.trans hw2) (by decide)
              | (rw [uT]; exact V.je iR dM H36.f11.f11.f11.f11.f11.f11.f11.f11.f11.f11.f11)
          · (try simp only [aC] at h15)
            have uT := jO pF hon hrun h15
            refine fG (jB O (dF eF O ?_))
            refine ⟨O, ?_⟩
            first
              | exact absurd (hw2.symm.trans hwh) (by decide)
              | exact absurd (hwh.symm.trans hw2) (by decide)
              | (rw [uT]; exact V.je iR dM Xi.f11.f11.f11.f11.f11.f11.f11.f11.f11.f11.f11)
    · (try simp only [aC] at h4)
      have hty : s.typed = false := by unfold dN.typed; rw [beq_false_of_ne h4]; rfl
      have hrun : (s.typed && (!s.put.isEmpty || s.c.run)) = false := by rw [hty]; rfl
      refine xg 6 O O O O (by kernel_rfl) (by kernel_rfl) jJ (kM O) ?_
      refine xg 7 O O O O (by kernel_rfl) (by kernel_rfl) jJ (kM O) ?_
      refine xg 8 O O O O (by kernel_rfl) (by kernel_rfl) jJ (kM O) ?_
      refine xg 9 O O O O (by kernel_rfl) (by kernel_rfl) jJ (kM O) ?_
      refine jQ 10 O jJ (fun _ => DI O O) (jW 11 O jJ O (kV 12 O jJ O (iJ 13 O jJ 33 ah O bV O (kK 14 O jJ (fun W hW => kQ aZ O ((Kp.h hW)).get.2 O) (jQ 15 O jJ (fun _ => jU ((CU.f9).aY) aZ O) (jQ 16 O jJ (fun _ => iw O O) (jQ 17 O jJ (fun _ => dY O) (jQ 18 O jJ (fun _ => dY O) (sK (aW (bM O (jr O O (bn (bn (bn (bn (bn (gI O O ?_))))))))))))))))))
      have hwo := xK (CU.f11)
      have abl := CU.f11.right
      have HW0 := V.Dp (c := s.was) (u := [uF, uG, uH, uI, uJ, uK, uM, uN, uO, uP, uQ]) abl hwo
      obtain ⟨s1, pF, Xx⟩ : ∃ s1, s1 = s.kL ∧ V w0 (w6.drew) (iC e s1 • F) := ⟨_, hs1, V.je (hs1 ▸ uS iR) dM HW0.f11.f11.f11.f11.f11.f11.f11.f11.f11.f11⟩
      have hr1 : s1.c.run = s.c.run := by rw [pF]; unfold dN.kL; split <;> rfl
      refine dX O func84 (qV Xx) ?_
      rintro _ w38 QS
      obtain ⟨on, hon, HZ⟩ : ∃ on, (s.typed && s.c.run) = on ∧ V w0 w38 (iC e (s1.iF on) • F) := ⟨_, by rw [hty]; rfl, QS⟩
      refine qW ?_
      obtain ⟨yI, yJ, yK, yL, yM, yN, yO, yP, wu, uF, uG, uH, uI, uJ, uK, uM, uN, uO, uP, uQ, iR, dM, lJ, jg⟩ := (HZ).Ik
      refine aA (jr O O (bG O (bn (bn (mV (mV (mV (mV (mV (bn (gI O O (dQ O (bK 0 ah O aX O (bK 10 aJ O aT O (aO (fE 10 jg aT) ?_)))))))))))))))
      rintro _ w40 H40
      refine sH O (nZ O O (bK 28 ah O aF O (gJ aP O (H40).get.2 O (dQ O (bK 0 ah O aX O (bK 6 aJ O aF O (aO (fE 6 H40 aF) ?_)))))))
      rintro _ w41 Y5
      refine qW (bM O (dQ O (bK 28 ah O aF O (gJ aP O (Y5).get.2 O (Z (jv O O) (gQ O (fun h16 => ?_) (fun h16 => ?_)))))))
      · (try simp only [aC] at h16)
        have uT := kF pF hon hrun h16
        refine aA (jr O O (dQ O (bK 0 ah O aX O (bK 7 aJ O aF O (aO (fE 7 Y5 aF) ?_)))))
        rintro _ w42 H42
        refine dQ O (bK 0 ah O aX O (bK 8 aJ O aF O (aO (fE 8 H42 aF) ?_)))
        rintro _ w43 H43
        refine iy (jB O (dF eF O ?_))
        refine ⟨O, ?_⟩
        first
          | exact absurd (hw2.symm.trans hwh) (by decide)
          | exact absurd (hwh.symm.trans hw2) (by decide)
          | (rw [uT]; exact V.je iR dM H43.f11.f11.f11.f11.f11.f11.f11.f11.f11.f11.f11)
      · (try simp only [aC] at h16)
        have uT := jO pF hon hrun h16
        refine fG (jB O (dF eF O ?_))
        refine ⟨O, ?_⟩
        first
          | exact absurd (hw2.symm.trans hwh) (by decide)
          | exact absurd (hwh.symm.trans hw2) (by decide)
          | (rw [uT]; exact V.je iR dM Y5.f11.f11.f11.f11.f11.f11.f11.f11.f11.f11.f11)
  · (try simp only [aC] at h2)
    have har : s.argues = true := by simpa using h2
    have hs1 : ({ s with inn := false } : dN) = s.kL := by unfold dN.kL; rw [if_pos har]
    refine bg (bG O (bg (Z (jv O O) (gI O O (iy (NC O (fun h17 => ?_)))))))
    (try simp only [aC] at h17)
    refine fG (aK (bM O (Z (jv O O) (iy (NC O (fun h18 => ?_))))))
    (try simp only [aC] at h18)
    refine fG (aK ?_)
    have yR := H3.drew
    have iI := V.kp (yR.f11.f11.f11.f11.f11.f11.f11.f11.f11.f11.f11)
    refine yY [3, 9, 14] iI O (jW 0 O iI O (kV 1 O iI O (iJ 2 O iI 28 ah O aF O (kK 3 O iI (fun W hW => kQ aP O ((Kp.h hW)).get.2 O) (jQ 4 O iI (fun _ => cZ O O) ?_)))))
    refine yX 5 O O (by kernel_rfl) (by kernel_rfl) iI (kM O) (fun h19 => ?_) (fun h19 => ?_)
    · (try simp only [aC] at h19)
      have hc3 : s.cls = 3 := h19
      refine eH 6 O O O (by kernel_rfl) (by kernel_rfl) iI (fun _ => uj O) (kM O) ?_
      refine eH 7 O O O (by kernel_rfl) (by kernel_rfl) iI (fun _ => Ns O) (kM O) ?_
      refine eH 8 O O O (by kernel_rfl) (by kernel_rfl) iI (fun _ => yV 32 ah O O aT (by decide) O rfl) (kM O) ?_
      refine vC 9 O O O (by kernel_rfl) (by kernel_rfl) iI (by decide) (fun W hW => dH (bT bW O) O (iT ((Kp.h hW)).get.2 O)) (kM O) ?_
      refine jQ 10 O iI (fun _ => vk O O) (jW 11 O iI O (kV 12 O iI O (iJ 13 O iI 33 ah O bV O (kK 14 O iI (fun W hW => kQ aZ O ((Kp.h hW)).get.2 O) (jQ 15 O iI (fun _ => jU ((yR.f9).aY) aZ O) (jQ 16 O iI (fun _ => iw O O) (jQ 17 O iI (fun _ => dY O) (jQ 18 O iI (fun _ => dY O) (sK (aW (bM O (bG O (iZ O (fun h20 => ?_) (fun h20 => ?_))))))))))))))
      · (try simp only [aC] at h20)
        have hwh : s.whole = true := h20
        have hty : s.typed = true := by unfold dN.typed; rw [hc3, hwh]; rfl
        refine bg (bG O (bg (dQ O (bg (bK 0 ah O aX O (bg (bK 10 aJ O aT O (bg (gJ bW O (yR).get.2 O (iM O O ?_))))))))))
        have hwo := xK (yR.f11)
        have aeG := yR.f11.right
        have HW0 := V.Dp (c := s.was) (u := [uF, uG, uH, uI, uJ, uK, uM, uN, uO, uP, uQ]) aeG hwo
        obtain ⟨s1, pF, Xx⟩ : ∃ s1, s1 = s.kL ∧ V w0 (w3.drew) (iC e s1 • F) := ⟨_, hs1, V.je (hs1 ▸ uS iR) dM HW0.f11.f11.f11.f11.f11.f11.f11.f11.f11.f11⟩
        have hr1 : s1.c.run = s.c.run := by rw [pF]; unfold dN.kL; split <;> rfl
        refine dX O func84 (qV Xx) ?_
        rintro _ w45 PU
        obtain ⟨on, hon, HZ⟩ : ∃ on, (s.typed && s.c.run) = on ∧ V w0 w45 (iC e (s1.iF on) • F) := ⟨_, by rw [hty]; rfl, PU⟩
        refine qW ?_
        obtain ⟨yI, yJ, yK, yL, yM, yN, yO, yP, wu, uF, uG, uH, uI, uJ, uK, uM, uN, uO, uP, uQ, iR, dM, lJ, jg⟩ := (HZ).Ik
        refine aA (jr O O (iZ O (fun h21 => ?_) (fun h21 => ?_)))
        · (try simp only [aC] at h21)
          have hw2 : s.whole = true := h21
          refine bg (bG O (bg (iZ O (fun h22 => ?_) (fun h22 => ?_))))
          · (try simp only [aC] at h22)
            have hrun : (s.typed && (!s.put.isEmpty || s.c.run)) = true := by first | exact absurd (hw2.symm.trans hwh) (by decide) | (rw [pV, decide_eq_false (show ¬ s.put.length = 0 by omega), hty]; rfl)
            refine bn (bn (bn (bn (bn (bg (iM O O (iM O O (dQ O (bK 0 ah O aX O (bK 10 aJ O aT O (aO (fE 10 jg aT) ?_)))))))))))
            rintro _ w47 H47
            refine sH O (nZ O O (bK 28 ah O aF O (gJ aP O (H47).get.2 O (dQ O (bK 0 ah O aX O (bK 6 aJ O aF O (aO (fE 6 H47 aF) ?_)))))))
            rintro _ w48 H48
            refine qW (bM O (dQ O (bK 28 ah O aF O (gJ aP O (H48).get.2 O (Z (jv O O) (gQ O (fun h23 => ?_) (fun h23 => ?_)))))))
            · (try simp only [aC] at h23)
              have uT := kF pF hon hrun h23
              refine aA (jr O O (dQ O (bK 0 ah O aX O (bK 7 aJ O aF O (aO (fE 7 H48 aF) ?_)))))
              rintro _ w49 H49
              refine dQ O (bK 0 ah O aX O (bK 8 aJ O aF O (aO (fE 8 H49 aF) ?_)))
              rintro _ w50 H50
              refine iy (jB O (dF eF O ?_))
              refine ⟨O, ?_⟩
              first
                | exact absurd (hw2.symm.trans hwh) (by decide)
                | exact absurd (hwh.symm.trans hw2) (by decide)
                | (rw [uT]; exact V.je iR dM H50.f11.f11.f11.f11.f11.f11.f11.f11.f11.f11.f11)
            · (try simp only [aC] at h23)
              have uT := jO pF hon hrun h23
              refine fG (jB O (dF eF O ?_))
              refine ⟨O, ?_⟩
              first
                | exact absurd (hw2.symm.trans hwh) (by decide)
                | exact absurd (hwh.symm.trans hw2) (by decide)
                | (rw [uT]; exact V.je iR dM H48.f11.f11.f11.f11.f11.f11.f11.f11.f11.f11.f11)
          · (try simp only [aC] at h22)
            have hrun : (s.typed && (!s.put.isEmpty || s.c.run)) = (s1.iF on).c.run := by first | exact absurd (hw2.symm.trans hwh) (by decide) | (rw [pV, decide_eq_true (show s.put.length = 0 by omega), hty, zT, hr1]; rfl)
            refine bg (bG O (bg (dQ O (bg (bK 0 ah O aX O (bg (bK 10 aJ O aT O (bg (gJ bW O (jg).get.2 O (bg (gI O O (iM O O (dQ O (bK 0 ah O aX O (bK 10 aJ O aT O (aO (fE 10 jg aT) ?_))))))))))))))))
            rintro _ w51 H51
            refine sH O (nZ O O (bK 28 ah O aF O (gJ aP O (H51).get.2 O (dQ O (bK 0 ah O aX O (bK 6 aJ O aF O (aO (fE 6 H51 aF) ?_)))))))
            rintro _ w52 H52
            refine qW (bM O (dQ O (bK 28 ah O aF O (gJ aP O (H52).get.2 O (Z (jv O O) (gQ O (fun h24 => ?_) (fun h24 => ?_)))))))
            · (try simp only [aC] at h24)
              have uT := kF pF hon hrun h24
              refine aA (jr O O (dQ O (bK 0 ah O aX O (bK 7 aJ O aF O (aO (fE 7 H52 aF) ?_)))))
              rintro _ w53 H53
              refine dQ O (bK 0 ah O aX O (bK 8 aJ O aF O (aO (fE 8 H53 aF) ?_)))
              rintro _ w54 H54
              refine iy (jB O (dF eF O ?_))
              refine ⟨O, ?_⟩
              first
                | exact absurd (hw2.symm.trans hwh) (by decide)
                | exact absurd (hwh.symm.trans hw2) (by decide)
                | (rw [uT]; exact V.je iR dM H54.f11.f11.f11.f11.f11.f11.f11.f11.f11.f11.f11)
            · (try simp only [aC] at h24)
              have uT := jO pF hon hrun h24
              refine fG (jB O (dF eF O ?_))
              refine ⟨O, ?_⟩
              first
                | exact absurd (hw2.symm.trans hwh) (by decide)
                | exact absurd (hwh.symm.trans hw2) (by decide)
                | (rw [uT]; exact V.je iR dM H52.f11.f11.f11.f11.f11.f11.f11.f11.f11.f11.f11)
        · (try simp only [aC] at h21)
          have hw2 : s.whole = false := by simpa using h21
          have hrun : (s.typed && (!s.put.isEmpty || s.c.run)) = false := by first | exact absurd (hwh.symm.trans hw2) (by decide) | (rw [hty]; rfl)
          refine bn (bn (mV (mV (mV (mV (mV (bn (gI O O (dQ O (bK 0 ah O aX O (bK 10 aJ O aT O (aO (fE 10 jg aT) ?_))))))))))))
          rintro _ w55 H55
          refine sH O (nZ O O (bK 28 ah O aF O (gJ aP O (H55).get.2 O (dQ O (bK 0 ah O aX O (bK 6 aJ O aF O (aO (fE 6 H55 aF) ?_)))))))
          rintro _ w56 H56
          refine qW (bM O (dQ O (bK 28 ah O aF O (gJ aP O (H56).get.2 O (Z (jv O O) (gQ O (fun h25 => ?_) (fun h25 => ?_)))))))
          · (try simp only [aC] at h25)
            have uT := kF pF hon hrun h25
            refine aA (jr O O (dQ O (bK 0 ah O aX O (bK 7 aJ O aF O (aO (fE 7 H56 aF) ?_)))))
            rintro _ w57 H57
            refine dQ O (bK 0 ah O aX O (bK 8 aJ O aF O (aO (fE 8 H57 aF) ?_)))
            rintro _ w58 Y6
            refine iy (jB O (dF eF O ?_))
            refine ⟨O, ?_⟩
            first
              | exact absurd (hw2.symm.trans hwh) (by decide)
              | exact absurd (hwh.symm.trans hw2) (by decide)
              | (rw [uT]; exact V.je iR dM Y6.f11.f11.f11.f11.f11.f11.f11.f11.f11.f11.f11)
          · (try simp only [aC] at h25)
            have uT := jO pF hon hrun h25
            refine fG (jB O (dF eF O ?_))
            refine ⟨O, ?_⟩
            first
              | exact absurd (hw2.symm.trans hwh) (by decide)
              | exact absurd (hwh.symm.trans hw2) (by decide)
              | (rw [uT]; exact V.je iR dM H56.f11.f11.f11.f11.f11.f11.f11.f11.f11.f11.f11)
      · (try simp only [aC] at h20)
        have hwh : s.whole = false := by simpa using h20
        have hty : s.typed = false := by unfold dN.typed; rw [hc3, hwh]; rfl
        have hrun : (s.typed && (!s.put.isEmpty || s.c.run)) = false := by rw [hty]; rfl
        refine bn (bn (bn (bn (bn (gI O O ?_)))))
        have hwo := xK (yR.f11)
        have aeH := yR.f11.right
        have HW0 := V.Dp (c := s.was) (u := [uF, uG, uH, uI, uJ, uK, uM, uN, uO, uP, uQ]) aeH hwo
        obtain ⟨s1, pF, Xx⟩ : ∃ s1, s1 = s.kL ∧ V w0 (w3.drew) (iC e s1 • F) := ⟨_, hs1, V.je (hs1 ▸ uS iR) dM HW0.f11.f11.f11.f11.f11.f11.f11.f11.f11.f11⟩
        have hr1 : s1.c.run = s.c.run := by rw [pF]; unfold dN.kL; split <;> rfl
        refine dX O func84 (qV Xx) ?_
        rintro _ w60 H60
        obtain ⟨on, hon, HZ⟩ : ∃ on, (s.typed && s.c.run) = on ∧ V w0 w60 (iC e (s1.iF on) • F) := ⟨_, by rw [hty]; rfl, H60⟩
        refine qW ?_
        obtain ⟨yI, yJ, yK, yL, yM, yN, yO, yP, wu, uF, uG, uH, uI, uJ, uK, uM, uN, uO, uP, uQ, iR, dM, lJ, jg⟩ := (HZ).Ik
        refine aA (jr O O (iZ O (fun h26 => ?_) (fun h26 => ?_)))
        · (try simp only [aC] at h26)
          have hw2 : s.whole = true := h26
          refine bg (bG O (bg (iZ O (fun h27 => ?_) (fun h27 => ?_))))
          · (try simp only [aC] at h27)
            have hrun : (s.typed && (!s.put.isEmpty || s.c.run)) = true := by first | exact absurd (hw2.symm.trans hwh) (by decide) | (rw [pV, decide_eq_false (show ¬ s.put.length = 0 by omega), hty]; rfl)
            refine bn (bn (bn (bn (bn (bg (iM O O (iM O O (dQ O (bK 0 ah O aX O (bK 10 aJ O aT O (aO (fE 10 jg aT) ?_)))))))))))
            rintro _ w62 H62
            refine sH O (nZ O O (bK 28 ah O aF O (gJ aP O (H62).get.2 O (dQ O (bK 0 ah O aX O (bK 6 aJ O aF O (aO (fE 6 H62 aF) ?_)))))))
            rintro _ w63 H63
            refine qW (bM O (dQ O (bK 28 ah O aF O (gJ aP O (H63).get.2 O (Z (jv O O) (gQ O (fun h28 => ?_) (fun h28 => ?_)))))))
            · (try simp only [aC] at h28)
              have uT := kF pF hon hrun h28
              refine aA (jr O O (dQ O (bK 0 ah O aX O (bK 7 aJ O aF O (aO (fE 7 H63 aF) ?_)))))
              rintro _ w64 H64
              refine dQ O (bK 0 ah O aX O (bK 8 aJ O aF O (aO (fE 8 H64 aF) ?_)))
              rintro _ w65 H65
              refine iy (jB O (dF eF O ?_))
              refine ⟨O, ?_⟩
              first
                | exact absurd (hw2.symm.trans hwh) (by decide)
                | exact absurd (hwh.symm.trans hw2) (by decide)
                | (rw [uT]; exact V.je iR dM H65.f11.f11.f11.f11.f11.f11.f11.f11.f11.f11.f11)
            · (try simp only [aC] at h28)
              have uT := jO pF hon hrun h28
              refine fG (jB O (dF eF O ?_))
              refine ⟨O, ?_⟩
              first
                | exact absurd (hw2.symm.trans hwh) (by decide)
                | exact absurd (hwh.symm.trans hw2) (by decide)
                | (rw [uT]; exact V.je iR dM H63.f11.f11.f11.f11.f11.f11.f11.f11.f11.f11.f11)
          · (try simp only [aC] at h27)
            have hrun : (s.typed && (!s.put.isEmpty || s.c.run)) = (s1.iF on).c.run := by first | exact absurd (hw2.symm.trans hwh) (by decide) | (rw [pV, decide_eq_true (show s.put.length = 0 by omega), hty, zT, hr1]; rfl)
            refine bg (bG O (bg (dQ O (bg (bK 0 ah O aX O (bg (bK 10 aJ O aT O (bg (gJ bW O (jg).get.2 O (bg (gI O O (iM O O (dQ O (bK 0 ah O aX O (bK 10 aJ O aT O (aO (fE 10 jg aT) ?_))))))))))))))))
            rintro _ w66 H66
            refine sH O (nZ O O (bK 28 ah O aF O (gJ aP O (H66).get.2 O (dQ O (bK 0 ah O aX O (bK 6 aJ O aF O (aO (fE 6 H66 aF) ?_)))))))
            rintro _ w67 H67
            refine qW (bM O (dQ O (bK 28 ah O aF O (gJ aP O (H67).get.2 O (Z (jv O O) (gQ O (fun h29 => ?_) (fun h29 => ?_)))))))
            · (try simp only [aC] at h29)
              have uT := kF pF hon hrun h29
              refine aA (jr O O (dQ O (bK 0 ah O aX O (bK 7 aJ O aF O (aO (fE 7 H67 aF) ?_)))))
              rintro _ w68 H68
              refine dQ O (bK 0 ah O aX O (bK 8 aJ O aF O (aO (fE 8 H68 aF) ?_)))
              rintro _ w69 H69
              refine iy (jB O (dF eF O ?_))
              refine ⟨O, ?_⟩
              first
                | exact absurd (hw2.symm.trans hwh) (by decide)
                | exact absurd (hwh.symm.trans hw2) (by decide)
                | (rw [uT]; exact V.je iR dM H69.f11.f11.f11.f11.f11.f11.f11.f11.f11.f11.f11)
            · (try simp only [aC] at h29)
              have uT := jO pF hon hrun h29
              refine fG (jB O (dF eF O ?_))
              refine ⟨O, ?_⟩
              first
                | exact absurd (hw2.symm.trans hwh) (by decide)
                | exact absurd (hwh.symm.trans hw2) (by decide)
                | (rw [uT]; exact V.je iR dM H67.f11.f11.f11.f11.f11.f11.f11.f11.f11.f11.f11)
        · (try simp only [aC] at h26)
          have hw2 : s.whole = false := by simpa using h26
          have hrun : (s.typed && (!s.put.isEmpty || s.c.run)) = false := by first | exact absurd (hwh.symm.trans hw2) (by decide) | (rw [hty]; rfl)
          refine bn (bn (mV (mV (mV (mV (mV (bn (gI O O (dQ O (bK 0 ah O aX O (bK 10 aJ O aT O (aO (fE 10 jg aT) ?_))))))))))))
          rintro _ w70 H70
          refine sH O (nZ O O (bK 28 ah O aF O (gJ aP O (H70).get.2 O (dQ O (bK 0 ah O aX O (bK 6 aJ O aF O (aO (fE 6 H70 aF) ?_)))))))
          rintro _ w71 H71
          refine qW (bM O (dQ O (bK 28 ah O aF O (gJ aP O (H71).get.2 O (Z (jv O O) (gQ O (fun h30 => ?_) (fun h30 => ?_)))))))
          · (try simp only [aC] at h30)
            have uT := kF pF hon hrun h30
            refine aA (jr O O (dQ O (bK 0 ah O aX O (bK 7 aJ O aF O (aO (fE 7 H71 aF) ?_)))))
            rintro _ w72 H72
            refine dQ O (bK 0 ah O aX O (bK 8 aJ O aF O (aO (fE 8 H72 aF) ?_)))
            rintro _ w73 H73
            refine iy (jB O (dF eF O ?_))
            refine ⟨O, ?_⟩
            first
              | exact absurd (hw2.symm.trans hwh) (by decide)
              | exact absurd (hwh.symm.trans hw2) (by decide)
              | (rw [uT]; exact V.je iR dM H73.f11.f11.f11.f11.f11.f11.f11.f11.f11.f11.f11)
          · (try simp only [aC] at h30)
            have uT := jO pF hon hrun h30
            refine fG (jB O (dF eF O ?_))
            refine ⟨O, ?_⟩
            first
              | exact absurd (hw2.symm.trans hwh) (by decide)
              | exact absurd (hwh.symm.trans hw2) (by decide)
              | (rw [uT]; exact V.je iR dM H71.f11.f11.f11.f11.f11.f11.f11.f11.f11.f11.f11)
    · (try simp only [aC] at h19)
      have hty : s.typed = false := by unfold dN.typed; rw [beq_false_of_ne h19]; rfl
      have hrun : (s.typed && (!s.put.isEmpty || s.c.run)) = false := by rw [hty]; rfl
      refine xg 6 O O O O (by kernel_rfl) (by kernel_rfl) iI (kM O) ?_
      refine xg 7 O O O O (by kernel_rfl) (by kernel_rfl) iI (kM O) ?_
      refine xg 8 O O O O (by kernel_rfl) (by kernel_rfl) iI (kM O) ?_
      refine xg 9 O O O O (by kernel_rfl) (by kernel_rfl) iI (kM O) ?_
      refine jQ 10 O iI (fun _ => DI O O) (jW 11 O iI O (kV 12 O iI O (iJ 13 O iI 33 ah O bV O (kK 14 O iI (fun W hW => kQ aZ O ((Kp.h hW)).get.2 O) (jQ 15 O iI (fun _ => jU ((yR.f9).aY) aZ O) (jQ 16 O iI (fun _ => iw O O) (jQ 17 O iI (fun _ => dY O) (jQ 18 O iI (fun _ => dY O) (sK (aW (bM O (jr O O (bn (bn (bn (bn (bn (gI O O ?_))))))))))))))))))
      have hwo := xK (yR.f11)
      have aeI := yR.f11.right
      have HW0 := V.Dp (c := s.was) (u := [uF, uG, uH, uI, uJ, uK, uM, uN, uO, uP, uQ]) aeI hwo
      obtain ⟨s1, pF, Xx⟩ : ∃ s1, s1 = s.kL ∧ V w0 (w3.drew) (iC e s1 • F) := ⟨_, hs1, V.je (hs1 ▸ uS iR) dM HW0.f11.f11.f11.f11.f11.f11.f11.f11.f11.f11⟩
      have hr1 : s1.c.run = s.c.run := by rw [pF]; unfold dN.kL; split <;> rfl
      refine dX O func84 (qV Xx) ?_
      rintro _ w75 H75
      obtain ⟨on, hon, HZ⟩ : ∃ on, (s.typed && s.c.run) = on ∧ V w0 w75 (iC e (s1.iF on) • F) := ⟨_, by rw [hty]; rfl, H75⟩
      refine qW ?_
      obtain ⟨yI, yJ, yK, yL, yM, yN, yO, yP, wu, uF, uG, uH, uI, uJ, uK, uM, uN, uO, uP, uQ, iR, dM, lJ, jg⟩ := (HZ).Ik
      refine aA (jr O O (bG O (bn (bn (mV (mV (mV (mV (mV (bn (gI O O (dQ O (bK 0 ah O aX O (bK 10 aJ O aT O (aO (fE 10 jg aT) ?_)))))))))))))))
      rintro _ w77 H77
      refine sH O (nZ O O (bK 28 ah O aF O (gJ aP O (H77).get.2 O (dQ O (bK 0 ah O aX O (bK 6 aJ O aF O (aO (fE 6 H77 aF) ?_)))))))
      rintro _ w78 H78
      refine qW (bM O (dQ O (bK 28 ah O aF O (gJ aP O (H78).get.2 O (Z (jv O O) (gQ O (fun h31 => ?_) (fun h31 => ?_)))))))
      · (try simp only [aC] at h31)
        have uT := kF pF hon hrun h31
        refine aA (jr O O (dQ O (bK 0 ah O aX O (bK 7 aJ O aF O (aO (fE 7 H78 aF) ?_)))))
        rintro _ w79 H79
        refine dQ O (bK 0 ah O aX O (bK 8 aJ O aF O (aO (fE 8 H79 aF) ?_)))
        rintro _ w80 H80
        refine iy (jB O (dF eF O ?_))
        refine ⟨O, ?_⟩
        first
          | exact absurd (hw2.symm.trans hwh) (by decide)
          | exact absurd (hwh.symm.trans hw2) (by decide)
          | (rw [uT]; exact V.je iR dM H80.f11.f11.f11.f11.f11.f11.f11.f11.f11.f11.f11)
      · (try simp only [aC] at h31)
        have uT := jO pF hon hrun h31
        refine fG (jB O (dF eF O ?_))
        refine ⟨O, ?_⟩
        first
          | exact absurd (hw2.symm.trans hwh) (by decide)
          | exact absurd (hwh.symm.trans hw2) (by decide)
          | (rw [uT]; exact V.je iR dM H78.f11.f11.f11.f11.f11.f11.f11.f11.f11.f11.f11)
theorem BP {s : dN} {x : Int} (hin : s.inn = true) (hx : x ≠ 0) : s.Df x = s.yF ∧ s.AU x = x := by
  unfold dN.Df dN.AU
  rw [if_pos hin, if_neg hx, if_pos hin]; exact ⟨rfl, rfl⟩
theorem QW {s : dN} (h : mF s) (hin : s.inn = true) : mF s.yF := by
  obtain ⟨h1, h2, h3⟩ := h.2.1 hin
  exact ⟨h1, fun h => Bool.noConfusion h, ⟨by show (-1 : Int) ≤ -1; decide, by show (-1 : Int) ≤ 1000000; decide⟩, by simp [dN.yF], h2, h3⟩
theorem QX (hin : s.inn = true) (hx : x ≠ 0) (H : V w0 w (iC e s • F)) : ig prog 31 #[.pointer (some ⟨e, 0, none⟩), .int .i64 x] w fun v w' => v = .int .i64 x ∧ V w0 w' (iC e s.yF • F) := by
 have hpe : s.y9 = 0 := by unfold dN.y9; rw [if_pos hin]
 refine nC func31 ntmps31 ?_
 refine jy O (aK (bM O (dX O func81 (vM H) ?_)))
 rintro _ _ ⟨rfl, rfl⟩
 refine fV O (bM O (Z (jv O O) (gQ O (fun h => by exfalso; (try simp only [aC] at h); exact h hpe) (fun h1 => ?_))))
 (try simp only [aC] at h1)
 refine fG (aK ?_)
 obtain ⟨yI, yJ, yK, yL, yM, yN, yO, yP, wu, uF, uG, uH, uI, uJ, uK, uM, uN, uO, uP, uQ, iR, dM, lJ, jg⟩ := (H).Ik
 have HI := jg
 rw [hin] at HI
 obtain ⟨qb, qr, qw, qt, qm, hu, HW⟩ := (HI.f11).was
 simp only [Oq, List.cons.injEq, and_true] at hu
 obtain ⟨rfl, rfl, rfl, rfl, rfl, rfl, rfl, rfl, rfl, rfl, rfl⟩ := hu
 refine aA (nZ O O (bK 16 ah O aT O (aO (fE 16 HW.f6 aT) ?_)))
 rintro _ w3 H3
 refine qW (bM O (dQ O (bK 31 ah O aT O (gJ bW O (H3).get.2 O (Z (mD O) (iZ O (fun h2 => ?_) (fun h2 => ?_)))))))
 ·(try simp only [aC] at h2)
  refine bn (bn (iM O O (iy (DC (aA (jr O O (nZ O O (bK 13 ah O aT O (aO (fE 13 H3 aT) ?_)))))))))
  rintro _ w4 H4
  refine dQ O (bK 14 ah O aT O (aO (fE 14 H4 aT) ?_))
  rintro _ w5 H5
  refine dQ O (bK 15 ah O aF O (aO (fE 15 H5 aF) ?_))
  rintro _ w6 H6
  refine qW (bM O (Z (jv O O) (gQ O (fun h3 => ?_) (fun h => by exfalso; (try simp only [aC] at h); exact hx h))))
  (try simp only [aC] at h3)
  refine bM O (nZ O O (bK 17 ah O aX O (Z (oP 17 (xs := [_, _, _, _, _, _, _, _, _, _, _]) aJ O aX O O (H6).get.2 O) (dQ O (bK 0 ah O aX O (aO (dw 0 (l' := [_, _, _, _, _, _, _, _, _, _, _, _, _, _, _, _, _, _, _, _, _, _, _, _, _, _, _, _, _, _, _, _, _, _]) (us := [_, _, _, _, _, _, _, _, _, _, _]) H6 aX O O O (aH (aH (aH (aH (aH (aH (aH (aH (aH (aH (aH bP))))))))))) O O) ?_))))))
  rintro _ w7 H7
  refine sH O (dQ O (bK 12 ah O sizeOf79 O (gJ underlying79 O (H7).get.2 O (dX O func83 (Ef H7.f13) ?_))))
  rintro _ w8 ⟨rfl, H8⟩
  refine sH O (jr O O (nZ O O (bK 0 ah O aX O (bK 6 aJ O aF O (aO (fE 6 H8.f2 aF) ?_)))))
  rintro _ w9 H9
  refine dQ O (bK 0 ah O aX O (bK 7 aJ O aF O (aO (fE 7 H9 aF) ?_)))
  rintro _ w10 rD
  refine dQ O (bK 0 ah O aX O (bK 8 aJ O aF O (aO (fE 8 rD aF) ?_)))
  rintro _ ED rM
  refine dQ O (bK 33 ah O bV O (aO (fE 33 rM bV) ?_))
  rintro _ w12 vX
  refine sH O (dU O (ay (dF eF O ?_)))
  exact ⟨O, V.QT (s := s.yF) (QW iR hin) O O vX.f8.right.f8.right.f8.right.f8.right.f8.right.f9.right.f9.right.f2.f8.f8.f8.f8.f8.f8.f8⟩
 ·(try simp only [aC] at h2)
  refine bg (bG O (bg (Z (jv O O) (gI O O (gQ O (fun h4 => ?_) (fun h => by exfalso; (try simp only [aC] at h); exact hx h))))))
  (try simp only [aC] at h4)
  refine aA (jr O O (nZ O O (bK 13 ah O aT O (aO (fE 13 H3 aT) ?_))))
  rintro _ PO xM
  refine dQ O (bK 14 ah O aT O (aO (fE 14 xM aT) ?_))
  rintro _ TN BJ
  refine dQ O (bK 15 ah O aF O (aO (fE 15 BJ aF) ?_))
  rintro _ TV zH
  refine qW (bM O (Z (jv O O) (gQ O (fun h5 => ?_) (fun h => by exfalso; (try simp only [aC] at h); exact hx h))))
  (try simp only [aC] at h5)
  refine bM O (nZ O O (bK 17 ah O aX O (Z (oP 17 (xs := [_, _, _, _, _, _, _, _, _, _, _]) aJ O aX O O (zH).get.2 O) (dQ O (bK 0 ah O aX O (aO (dw 0 (l' := [_, _, _, _, _, _, _, _, _, _, _, _, _, _, _, _, _, _, _, _, _, _, _, _, _, _, _, _, _, _, _, _, _, _]) (us := [_, _, _, _, _, _, _, _, _, _, _]) zH aX O O O (aH (aH (aH (aH (aH (aH (aH (aH (aH (aH (aH bP))))))))))) O O) ?_))))))
  rintro _ w16 zB
  refine sH O (dQ O (bK 12 ah O sizeOf79 O (gJ underlying79 O (zB).get.2 O (dX O func83 (Ef zB.f13) ?_))))
  rintro _ ZY ⟨rfl, Jo⟩
  refine sH O (jr O O (nZ O O (bK 0 ah O aX O (bK 6 aJ O aF O (aO (fE 6 Jo.f2 aF) ?_)))))
  rintro _ YE DT
  refine dQ O (bK 0 ah O aX O (bK 7 aJ O aF O (aO (fE 7 DT aF) ?_)))
  rintro _ w19 EO
  refine dQ O (bK 0 ah O aX O (bK 8 aJ O aF O (aO (fE 8 EO aF) ?_)))
  rintro _ w20 Qd
  refine dQ O (bK 33 ah O bV O (aO (fE 33 Qd bV) ?_))
  rintro _ w21 Jz
  refine sH O (dU O (ay (dF eF O ?_)))
  exact ⟨O, V.QT (s := s.yF) (QW iR hin) O O Jz.f8.right.f8.right.f8.right.f8.right.f8.right.f9.right.f9.right.f2.f8.f8.f8.f8.f8.f8.f8⟩
theorem Dv (H : V w0 w (iC e s • F)) : ig prog 31 #[.pointer (some ⟨e, 0, none⟩), .int .i64 x] w fun v w' => v = .int .i64 (s.AU x) ∧ V w0 w' (iC e (s.Df x) • F) := by
  by_cases hin : s.inn = true
  · by_cases hx : x = 0
    · subst hx
      rw [show s.Df 0 = s.qj from by unfold dN.Df; rw [if_pos hin, if_pos rfl], show s.AU 0 = 0 from by unfold dN.AU; rw [if_pos hin]]
      exact OX hin H
    · rw [(BP hin hx).1, (BP hin hx).2]
      exact QX hin hx H
  · have hin' : s.inn = false := by simpa using hin
    have hpe : s.y9 = 1 := by unfold dN.y9; rw [if_neg hin]
    rw [show s.Df x = s from by unfold dN.Df; rw [if_neg hin], show s.AU x = 1 from by unfold dN.AU; rw [if_neg hin]]
    refine nC func31 ntmps31 ?_
    refine jy O (aK (bM O (dX O func81 (vM H) ?_)))
    rintro _ _ ⟨rfl, rfl⟩
    refine fV O (bM O (Z (jv O O) (gQ O (fun h1 => ?_) (fun h => by exfalso; (try simp only [aC] at h); rw [hpe] at h; exact absurd h (by decide)))))
    (try simp only [aC] at h1)
    refine bM O (dU O (ay (dF eF O ?_)))
    rw [hpe]
    exact ⟨O, H⟩
end
end Go.Proofs.YtpdeedplgmbopaaGreatDoor
end
section
namespace Go.Proofs.YtpdeedplgmbopaaGreatDoor
open Go.RowKit
theorem abm {s : dN} (h : mF s) {G : List (List jq)} (h1 : jd G s.put ≤ jd s.here s.put) (h2 : ∀ g ∈ G, g ∈ s.here) : mF (s.xA G) := by
  obtain ⟨a1, a2, a3, a4, a5, a6⟩ := h
  refine ⟨a1, a2, a3, a4, ?_, ?_⟩
  · show jd (xQ s.c.un s.c.place G s.c.place) s.put ≤ 16384
    rw [oK]; omega
  · intro k g hg
    have hg' : g ∈ xQ s.c.un s.c.place G k := hg
    by_cases hk : k = s.c.place
    · subst hk; rw [oK] at hg'; exact a6 _ g (h2 g hg')
    · rw [vH _ _ hk] at hg'; exact a6 k g hg'
section
variable {w0 w : World} {F : HP} {e p : Nat} {s : dN} {x : Int}
end
def F9 (e : TypeId) (k : IntKind) : List Value → List (List Int) → HP
  | [], [] => emp
  | v :: vs, l :: ls => lD e k v l • F9 e k vs ls
  | _, _ => fact False
section
variable {w0 w : World} {F : HP} {e : TypeId} {k : IntKind} {v : Value} {l : List Int}
theorem V.Xy (H : V w0 w F) : V w0 w (F9 e k [] [] • F) := H.La
theorem BQ : ∀ (vs : List Value) (ls : List (List Int)), (F9 e k vs ls • lD e k v l) = F9 e k (vs ++ [v]) (ls ++ [l])
  | [], [] => by show (emp • lD e k v l) = (lD e k v l • emp); rw [wV]
  | u :: vs, m :: ls => by
    show ((lD e k u m • F9 e k vs ls) • lD e k v l) = (lD e k u m • F9 e k (vs ++ [v]) (ls ++ [l]))
    rw [dB, BQ vs ls]
  | [], m :: ls => by
    apply HP.ext; funext I h; apply propext
    constructor
    · intro hp; exact absurd ((Ak _ _ _ _).1 hp).1 id
    · intro hp
      cases ls with
      | nil => exact absurd (show False by obtain ⟨_, _, _, _, _, hb⟩ := hp; exact hb.1) id
      | cons x y => exact absurd (show False by obtain ⟨_, _, _, _, _, hb⟩ := hp; exact hb.1) id
  | u :: vs, [] => by
    apply HP.ext; funext I h; apply propext
    constructor
    · intro hp; exact absurd ((Ak _ _ _ _).1 hp).1 id
    · intro hp
      cases vs with
      | nil => exact absurd (show False by obtain ⟨_, _, _, _, _, hb⟩ := hp; exact hb.1) id
      | cons x y => exact absurd (show False by obtain ⟨_, _, _, _, _, hb⟩ := hp; exact hb.1) id
theorem V.BQ {vs : List Value} {ls : List (List Int)} (H : V w0 w (F9 e k vs ls • lD e k v l • F)) : V w0 w (F9 e k (vs ++ [v]) (ls ++ [l]) • F) := H.deep.of_eq (by rw [Go.Proofs.YtpdeedplgmbopaaGreatDoor.BQ])
end
end Go.Proofs.YtpdeedplgmbopaaGreatDoor
end
section
namespace Go.Proofs.YtpdeedplgmbopaaGreatDoor
open Go.RowKit
open _root_.Go.Proofs.Tryz
section
variable {w0 w : World} {F : HP} {e p ph pw pt pr pm : Nat} {s : dN} {k x place : Int} {hl : List qQ} {base most : Int} {tx : Int → Option ByteArray} {v : Value}
theorem OY (H : V w0 w (iH p hl base most • F)) : ig prog 157 #[.pointer (some ⟨p, 0, none⟩), .int .i64 k] w fun v w' =>
  v = .tuple #[.agg #[.string (Ob hl k).1, .int .i64 (Ob hl k).2], .bool (decide (0 ≤ k ∧ k < hl.length))] ∧ V w0 w' (iH p hl base most • F) := by
 have hb : hl.length ≤ 4096 := by obtain ⟨v, h, _⟩ := H.hist; exact h.1
 refine nC func157 ntmps157 ?_
 refine gW (jL (gK (l := [_, _]) H zeroValue218 O) ?_)
 rintro _ w1 ⟨b1, rfl, H1⟩
 refine tX O (bM O (Z (fF O O) (iZ O (fun h1 => ?_) (fun h1 => ?_))))
 ·(try simp only [aC] at h1)
  refine bn (bn (bn (bn (iM O O (iy (DC (gW (Z (eX (zl := [.string .empty, .int .i64 0]) (pl := [(0, 1), (1, 1)]) [_, _] lq zeroValue218 O (fun w => by kernel_rfl) O (.zero (zs := [.string .empty]) O (.zero (zs := [.int .i64 0]) O .nil)) O) (aO (dw 0 (l' := [_, _]) (us := [_, _]) H1 sizeOf218 O O O (aH (aH bP)) O O) ?_)))))))))
  rintro _ w2 H2
  refine dU O (ay ?_)
  refine qY (.inl O) (Vm results157 O O lq O (by rw [QY]; rfl) (H2).get.2) ?_
  exact ⟨by unfold Ob; rw [if_neg (by omega), decide_eq_false (by omega)], H2.right⟩
 ·(try simp only [aC] at h1)
  refine bg (bG O (bg (bG O (bg (dX O func117 (oW H1.f2) ?_)))))
  rintro _ w3 ⟨rfl, H3⟩
  refine bg (Z (jw O O) (gI O O (gQ O (fun h2 => ?_) (fun h2 => ?_))))
  ·(try simp only [aC] at h2)
   refine gW (Z (eX (zl := [.string .empty, .int .i64 0]) (pl := [(0, 1), (1, 1)]) [_, _] lq zeroValue218 O (fun w => by kernel_rfl) O (.zero (zs := [.string .empty]) O (.zero (zs := [.int .i64 0]) O .nil)) O) (aO (dw 0 (l' := [_, _]) (us := [_, _]) H3.f2 sizeOf218 O O O (aH (aH bP)) O O) ?_))
   rintro _ w4 H4
   refine dU O (ay ?_)
   refine qY (.inl O) (Vm results157 O O lq O (by rw [QY]; rfl) (H4).get.2) ?_
   exact ⟨by unfold Ob; rw [if_neg (by omega), decide_eq_false (by omega)], H4.right⟩
  ·(try simp only [aC] at h2)
   refine fG (aK ?_)
   obtain ⟨m, rfl⟩ := Int.eq_ofNat_of_zero_le (show 0 ≤ k by omega)
   obtain ⟨Qy, Cb, Aj⟩ := (H3).hist
   refine aA (nZ O O (bK 0 kX O sizeOf151 O (bK 0 kY O sizeOf149 O (gJ fZ O (Aj).get.2 O (bG O ?_)))))
   obtain ⟨acC, acD, acE, WJ⟩ := Rd.nJ ((Aj.f2).aY) (by omega)
   cases WJ
   refine Z (dh fZ sizeOf218 O O (by omega)) (Z (rX (ys := [_, _]) ((Aj.f2).aY) (by omega) lq O sizeOf218 O (uy Kz (by omega) default) O) (aO (dw 0 (l' := [_, _]) (us := [_, _]) Aj.f3 sizeOf218 O O O (aH (aH bP)) O O) ?_))
   rintro _ w6 H6
   refine dU O ?_
   refine qY (.inl O) (Vm results157 O O lq O (by rw [QY]; rfl) (H6).get.2) ?_
   have Ho8 := H6.f3.f3
   have Zb := V.D8 Cb Ho8
   exact ⟨by unfold Ob; rw [if_pos (by omega), decide_eq_true (by omega)]; rfl, Zb.f2.right⟩
theorem Em {x0 x1 x2 x3 x4 x5 x6 x7 x8 x9 x10 x12 wC x14 x15 x16 x17 x18 x19 x20 x21 wQ x23 x24 x25 xq x27 x28 x29 x30 x31 x32 yc : Value} (H : V w0 w (dS e (.cells (x0 :: x1 :: x2 :: x3 :: x4 :: x5 :: x6 :: x7 :: x8 :: x9 :: x10 :: .pointer (some ⟨ph, 0, none⟩) :: x12 :: wC :: x14 :: x15 :: x16 :: x17 :: x18 :: x19 :: x20 :: x21 :: wQ :: x23 :: x24 :: x25 :: xq :: x27 :: x28 :: x29 :: x30 :: x31 :: x32 :: yc :: []).toArray 82 (0, 0)) • iH ph hl base most • F)) : ig prog 119 #[.pointer (some ⟨e, 0, none⟩), .int .i64 k] w fun v w' =>
    v = .string (zK hl k) ∧ V w0 w' (dS e (.cells (x0 :: x1 :: x2 :: x3 :: x4 :: x5 :: x6 :: x7 :: x8 :: x9 :: x10 :: .pointer (some ⟨ph, 0, none⟩) :: x12 :: wC :: x14 :: x15 :: x16 :: x17 :: x18 :: x19 :: x20 :: x21 :: wQ :: x23 :: x24 :: x25 :: xq :: x27 :: x28 :: x29 :: x30 :: x31 :: x32 :: yc :: []).toArray 82 (0, 0)) • iH ph hl base most • F) := by
  refine nC func119 ntmps119 ?_
  refine jy O (bM O (dQ O (bK 11 ah O sizeOf78 O (gJ kC O (H).get.2 O (bG O (dX O func157 (OY H.f2) ?_))))))
  rintro _ w1 ⟨rfl, H1⟩
  refine bG O (rW O O (rW O O (jL (gK (l := [_, _]) H1 zeroValue218 O) ?_)))
  rintro _ w2 ⟨b2, rfl, H2⟩
  refine aO (dw 0 (l' := [_, _]) (us := [_, _]) H2 sizeOf218 O O O (aH (aH bP)) O O) ?_
  rintro _ w3 H3
  refine fV O (gW (bK 0 lq O pK O (gJ fB O (H3).get.2 O (dU O (dF results119 O ?_)))))
  exact ⟨O, H3.right.f2⟩
theorem Ux {t : ByteArray} (h : tx k = some t) : (tZ tx k).getD (.string .empty) = .string t ∧ (tZ tx k).isSome = true := by unfold tZ; rw [h]; exact ⟨rfl, rfl⟩
theorem FN : (tZ tx k).isSome = (tx k).isSome := by unfold tZ; cases tx k <;> rfl
theorem yS {x0 x1 x3 x4 x5 x6 x7 x8 x9 x10 x12 wC x14 x15 x16 x17 x18 x19 x20 x21 wQ x23 x24 x25 xq x27 x28 x29 x30 x31 x32 yc : Value} (H : V w0 w (dS e (.cells (x0 :: x1 :: .pointer (some ⟨pw, 0, none⟩) :: x3 :: x4 :: x5 :: x6 :: x7 :: x8 :: x9 :: x10 :: .pointer (some ⟨ph, 0, none⟩) :: x12 :: wC :: x14 :: x15 :: x16 :: x17 :: x18 :: x19 :: x20 :: x21 :: wQ :: x23 :: x24 :: x25 :: xq :: x27 :: x28 :: x29 :: x30 :: x31 :: x32 :: yc :: []).toArray 82 (0, 0)) • dS pw (.cells #[v, .map (some pt)] 122 (0, 0)) • gy rQ pt (tZ tx) • iH ph hl base most • F)) :
    ig prog 118 #[.pointer (some ⟨e, 0, none⟩), .int .i64 k] w fun v' w' =>
    v' = .string (jS hl tx k) ∧ V w0 w' (dS e (.cells (x0 :: x1 :: .pointer (some ⟨pw, 0, none⟩) :: x3 :: x4 :: x5 :: x6 :: x7 :: x8 :: x9 :: x10 :: .pointer (some ⟨ph, 0, none⟩) :: x12 :: wC :: x14 :: x15 :: x16 :: x17 :: x18 :: x19 :: x20 :: x21 :: wQ :: x23 :: x24 :: x25 :: xq :: x27 :: x28 :: x29 :: x30 :: x31 :: x32 :: yc :: []).toArray 82 (0, 0)) • dS pw (.cells #[v, .map (some pt)] 122 (0, 0)) • gy rQ pt (tZ tx) • iH ph hl base most • F) := by
  refine nC func118 ntmps118 ?_
  refine jy O (aK (bM O (dQ O (bK 0 ah O aX O (bK 2 aJ O sizeOf74 O (gJ kS O (H).get.2 O (dQ O (bK 1 fK O sizeOf120 O (gJ underlying120 O (H.f2).get.2 O (bG O (Z (AY (H.f3) underlying120 aP zeroValue9 O O) (bG O (rW O O (rW O O (dL O (fV O (bM O (gQ O (fun h1 => ?_) (fun h1 => ?_)))))))))))))))))))
  · (try simp only [aC] at h1)
    obtain ⟨tt, htt⟩ := Option.isSome_iff_exists.1 (FN (tx := tx) ▸ h1)
    refine bM O (dU O (ay (dF results118 O ?_)))
    exact ⟨by unfold jS; rw [htt]; show (tZ tx k).getD (.string .empty) = _; rw [(Ux htt).1]; rfl, H.f4.f4.f4.f4⟩
  · (try simp only [aC] at h1)
    have htt : tx k = none := by have := FN (tx := tx) (k := k) ▸ h1; simpa using this
    refine fG (bM O (bG O (dX O func119 (Em H.f4.f2) ?_)))
    rintro _ w1 ⟨rfl, H1⟩
    refine dU O (dF results118 O ?_)
    exact ⟨by unfold jS; rw [htt]; rfl, H1.f2.f4.f4.f4⟩
end
end Go.Proofs.YtpdeedplgmbopaaGreatDoor
end
