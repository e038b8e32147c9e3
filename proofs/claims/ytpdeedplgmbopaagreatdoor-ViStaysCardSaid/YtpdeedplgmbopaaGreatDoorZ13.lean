import Derived.Test.YtpdeedplgmbopaaGreatDoorZ4
import Derived.Test.YtpdeedplgmbopaaGreatDoorZ12
import Derived.Test.YtpdeedplgmbopaaGreatDoorZ11
set_option linter.unusedSimpArgs false
set_option linter.unusedVariables false
/- Texts of mine, joined, their names in short: EdE EdU EEdit. -/
section
namespace Go.Proofs.YtpdeedplgmbopaaGreatDoor
open Go.RowKit
open _root_.Go.Proofs.Tryz
theorem FZ (s : bQ) (on : Bool) : (s.eX on).c.run = s.c.run := by unfold bQ.eX; split <;> rfl
theorem PN (s : bQ) (on : Bool) : (s.eX on).cls = s.cls := by unfold bQ.eX; split <;> rfl
theorem nS {s s1 : bQ} {on run : Bool} (h1 : s1 = s.kR) (hon : (s.typed && s.c.run) = on) (hrun : (s.typed && (!s.put.isEmpty || s.c.run)) = run) (h2 : (s1.eX on).cls ≠ 2) :
    s.mD = { s1.eX on with c := { (s1.eX on).c with run := run, last := (s1.eX on).cls, fr := 0, to := 0 } } := by
  subst h1 hon hrun
  have hc : (s.kR.eX (s.typed && s.c.run)).cls = s.cls := by rw [PN]; unfold bQ.kR; split <;> rfl
  unfold bQ.mD
  rw [hc] at h2 ⊢
  dsimp only
  rw [if_pos h2]
theorem mF {s s1 : bQ} {on run : Bool} (h1 : s1 = s.kR) (hon : (s.typed && s.c.run) = on) (hrun : (s.typed && (!s.put.isEmpty || s.c.run)) = run) (h2 : (s1.eX on).cls = 2) :
    s.mD = { s1.eX on with c := { (s1.eX on).c with run := run, last := (s1.eX on).cls } } := by
  subst h1 hon hrun
  have hc : (s.kR.eX (s.typed && s.c.run)).cls = s.cls := by rw [PN]; unfold bQ.kR; split <;> rfl
  unfold bQ.mD
  rw [hc] at h2 ⊢
  dsimp only
  rw [if_neg (by omega)]
theorem Ai {s : bQ} (h : qE s) : qE s.kR := by
  obtain ⟨h1, h2, h3, h4, h5, h6⟩ := h
  unfold bQ.kR
  split
  · exact ⟨h1, fun h => Bool.noConfusion h, h3, h4, h5, h6⟩
  · exact ⟨h1, fun h => Bool.noConfusion h, ⟨by show (-1 : Int) ≤ -1; decide, by show (-1 : Int) ≤ 1000000; decide⟩, h4, h5, h6⟩
theorem wE {l : List jL} : l.isEmpty = decide (l.length = 0) := by cases l <;> rfl
section
variable {w0 w : World} {F : HP} {e p : Nat} {s : bQ} {x : Int}
theorem WU (hin : s.inn = true) (H : V w0 w (dZ e s • F)) : jf prog 31 #[.pointer (some ⟨e, 0, none⟩), .int .i64 0] w fun v w' => v = .int .i64 0 ∧ V w0 w' (dZ e s.mD • F) := by
  have hpe : s.AX = 0 := by unfold bQ.AX; rw [if_pos hin]
  refine qo func31 ntmps31 ?_
  refine kH O (aI (bI O (dX O func81 (mZ H) ?_)))
  rintro _ _ ⟨rfl, rfl⟩
  refine fO O (bI O (aV (fF O O) (iW O (fun h => by exfalso; (try simp only [Z] at h); exact h hpe) (fun h1 => ?_))))
  (try simp only [Z] at h1)
  refine gy (aI ?_)
  obtain ⟨xE, yB, yC, y9, yD, yE, yF, yG, xG, vM, vN, vO, vP, vS, vT, vU, vV, vW, vX, vY, iT, dQ, lT, jm⟩ := (H).Jp
  refine aF (mX O O (bM 16 ay O aT O (aQ (iw 16 jm aT) ?_)))
  rintro _ w3 H3
  refine rW (bI O (dV O (bM 31 ay O aT O (eH bJ O (H3).get.2 O (aV (jR O) (jY O (fun h2 => ?_) (fun h2 => ?_)))))))
  · (try simp only [Z] at h2)
    have har : s.argues = false := by simpa using h2
    have hs1 : ({ s.wI with inn := false } : bQ) = s.kR := by unfold bQ.kR; rw [if_neg (by simp [har])]
    refine bK (bK (jQ O O (iR (ET (aF (jU O O (mX O O (bM 13 ay O aT O (aQ (iw 13 H3 aT) ?_)))))))))
    rintro _ w4 H4
    refine dV O (bM 14 ay O aT O (aQ (iw 14 H4 aT) ?_))
    rintro _ w5 H5
    refine dV O (bM 15 ay O aj O (aQ (iw 15 H5 aj) ?_))
    rintro _ w6 H6
    refine rW (bI O (aV (fF O O) (iR (JF O (fun h3 => ?_)))))
    (try simp only [Z] at h3)
    refine gy (aI ?_)
    have Js := H6.drew
    have lZ := V.kp (Js.f11.f11.f11.f11.f11.f11.f11.f11.f11.f11.f11)
    refine nG [3, 9, 14] lZ O (fD 0 O lZ O (iG 1 O lZ O (dJ 2 O lZ 28 ay O aj O (fM 3 O lZ (fun W hW => fQ aA O ((Kp.h hW)).get.2 O) (dS 4 O lZ (fun _ => fB O O) ?_)))))
    refine zn 5 O O (by kernel_rfl) (by kernel_rfl) lZ (gV O) (fun h4 => ?_) (fun h4 => ?_)
    · (try simp only [Z] at h4)
      have hc3 : s.cls = 3 := h4
      refine dh 6 O O O (by kernel_rfl) (by kernel_rfl) lZ (fun _ => uy O) (gV O) ?_
      refine dh 7 O O O (by kernel_rfl) (by kernel_rfl) lZ (fun _ => ES O) (gV O) ?_
      refine dh 8 O O O (by kernel_rfl) (by kernel_rfl) lZ (fun _ => pq 32 ay O O aT (by decide) O rfl) (gV O) ?_
      refine jP 9 O O O (by kernel_rfl) (by kernel_rfl) lZ (by decide) (fun W hW => dW (bV bJ O) O (iI ((Kp.h hW)).get.2 O)) (gV O) ?_
      refine dS 10 O lZ (fun _ => xY O O) (fD 11 O lZ O (iG 12 O lZ O (dJ 13 O lZ 33 ay O dA O (fM 14 O lZ (fun W hW => fQ aZ O ((Kp.h hW)).get.2 O) (dS 15 O lZ (fun _ => ku ((Js.f9).aO) aZ O) (dS 16 O lZ (fun _ => gK O O) (dS 17 O lZ (fun _ => aW O) (dS 18 O lZ (fun _ => aW O) (lJ (aU (bI O (bW O (jY O (fun h5 => ?_) (fun h5 => ?_))))))))))))))
      · (try simp only [Z] at h5)
        have hwh : s.whole = true := h5
        have hty : s.typed = true := by unfold bQ.typed; rw [hc3, hwh]; rfl
        refine bF (bW O (bF (dV O (bF (bM 0 ay O aY O (bF (bM 10 aS O aT O (bF (eH bJ O (Js).get.2 O (jQ O O ?_))))))))))
        have hwo := DT (Js.f11)
        have Hd7 := Js.f11.right
        have HW0 := V.JM (c := s.was) (u := [vM, vN, vO, vP, vS, vT, vU, vV, vW, vX, vY]) Hd7 hwo
        obtain ⟨s1, vk, HS1⟩ : ∃ s1, s1 = s.kR ∧ V w0 (w6.drew) (dZ e s1 • F) := ⟨_, hs1, V.ji (hs1 ▸ Ai iT) dQ HW0.f11.f11.f11.f11.f11.f11.f11.f11.f11.f11⟩
        have hr1 : s1.c.run = s.c.run := by rw [vk]; unfold bQ.kR; split <;> rfl
        refine dX O func84 (sJ HS1) ?_
        rintro _ w8 H8
        obtain ⟨on, hon, HZ⟩ : ∃ on, (s.typed && s.c.run) = on ∧ V w0 w8 (dZ e (s1.eX on) • F) := ⟨_, by rw [hty]; rfl, H8⟩
        refine rW ?_
        obtain ⟨xE, yB, yC, y9, yD, yE, yF, yG, xG, vM, vN, vO, vP, vS, vT, vU, vV, vW, vX, vY, iT, dQ, lT, jm⟩ := (HZ).Jp
        refine aF (jU O O (jY O (fun h6 => ?_) (fun h6 => ?_)))
        · (try simp only [Z] at h6)
          have hw2 : s.whole = true := h6
          refine bF (bW O (bF (jY O (fun h7 => ?_) (fun h7 => ?_))))
          · (try simp only [Z] at h7)
            have hrun : (s.typed && (!s.put.isEmpty || s.c.run)) = true := by first | exact absurd (hw2.symm.trans hwh) (by decide) | (rw [wE, decide_eq_false (show ¬ s.put.length = 0 by omega), hty]; rfl)
            refine bK (bK (bK (bK (bK (bF (jQ O O (jQ O O (dV O (bM 0 ay O aY O (bM 10 aS O aT O (aQ (iw 10 jm aT) ?_)))))))))))
            rintro _ w10 pG
            refine uS O (mX O O (bM 28 ay O aj O (eH aA O (pG).get.2 O (dV O (bM 0 ay O aY O (bM 6 aS O aj O (aQ (iw 6 pG aj) ?_)))))))
            rintro _ FK ru
            refine rW (bI O (dV O (bM 28 ay O aj O (eH aA O (ru).get.2 O (aV (fF O O) (iW O (fun h8 => ?_) (fun h8 => ?_)))))))
            · (try simp only [Z] at h8)
              have Aj := nS vk hon hrun h8
              refine aF (jU O O (dV O (bM 0 ay O aY O (bM 7 aS O aj O (aQ (iw 7 ru aj) ?_)))))
              rintro _ w12 wQ
              refine dV O (bM 0 ay O aY O (bM 8 aS O aj O (aQ (iw 8 wQ aj) ?_)))
              rintro _ OL wB
              refine iR (jS O (dL iF O ?_))
              refine ⟨O, ?_⟩
              first
                | exact absurd (hw2.symm.trans hwh) (by decide)
                | exact absurd (hwh.symm.trans hw2) (by decide)
                | (rw [Aj]; exact V.ji iT dQ wB.f11.f11.f11.f11.f11.f11.f11.f11.f11.f11.f11)
            · (try simp only [Z] at h8)
              have Aj := mF vk hon hrun h8
              refine gy (jS O (dL iF O ?_))
              refine ⟨O, ?_⟩
              first
                | exact absurd (hw2.symm.trans hwh) (by decide)
                | exact absurd (hwh.symm.trans hw2) (by decide)
                | (rw [Aj]; exact V.ji iT dQ ru.f11.f11.f11.f11.f11.f11.f11.f11.f11.f11.f11)
          · (try simp only [Z] at h7)
            have hrun : (s.typed && (!s.put.isEmpty || s.c.run)) = (s1.eX on).c.run := by first | exact absurd (hw2.symm.trans hwh) (by decide) | (rw [wE, decide_eq_true (show s.put.length = 0 by omega), hty, FZ, hr1]; rfl)
            refine bF (bW O (bF (dV O (bF (bM 0 ay O aY O (bF (bM 10 aS O aT O (bF (eH bJ O (jm).get.2 O (bF (iH O O (jQ O O (dV O (bM 0 ay O aY O (bM 10 aS O aT O (aQ (iw 10 jm aT) ?_))))))))))))))))
            rintro _ OG rU
            refine uS O (mX O O (bM 28 ay O aj O (eH aA O (rU).get.2 O (dV O (bM 0 ay O aY O (bM 6 aS O aj O (aQ (iw 6 rU aj) ?_)))))))
            rintro _ OM zV
            refine rW (bI O (dV O (bM 28 ay O aj O (eH aA O (zV).get.2 O (aV (fF O O) (iW O (fun h9 => ?_) (fun h9 => ?_)))))))
            · (try simp only [Z] at h9)
              have Aj := nS vk hon hrun h9
              refine aF (jU O O (dV O (bM 0 ay O aY O (bM 7 aS O aj O (aQ (iw 7 zV aj) ?_)))))
              rintro _ w16 uT
              refine dV O (bM 0 ay O aY O (bM 8 aS O aj O (aQ (iw 8 uT aj) ?_)))
              rintro _ Yp BX
              refine iR (jS O (dL iF O ?_))
              refine ⟨O, ?_⟩
              first
                | exact absurd (hw2.symm.trans hwh) (by decide)
                | exact absurd (hwh.symm.trans hw2) (by decide)
                | (rw [Aj]; exact V.ji iT dQ BX.f11.f11.f11.f11.f11.f11.f11.f11.f11.f11.f11)
            · (try simp only [Z] at h9)
              have Aj := mF vk hon hrun h9
              refine gy (jS O (dL iF O ?_))
              refine ⟨O, ?_⟩
              first
                | exact absurd (hw2.symm.trans hwh) (by decide)
                | exact absurd (hwh.symm.trans hw2) (by decide)
                | (rw [Aj]; exact V.ji iT dQ zV.f11.f11.f11.f11.f11.f11.f11.f11.f11.f11.f11)
        · (try simp only [Z] at h6)
          have hw2 : s.whole = false := by simpa using h6
          have hrun : (s.typed && (!s.put.isEmpty || s.c.run)) = false := by first | exact absurd (hwh.symm.trans hw2) (by decide) | (rw [hty]; rfl)
          refine bK (bK (ni (ni (ni (ni (ni (bK (iH O O (dV O (bM 0 ay O aY O (bM 10 aS O aT O (aQ (iw 10 jm aT) ?_))))))))))))
          rintro _ ZO EW
          refine uS O (mX O O (bM 28 ay O aj O (eH aA O (EW).get.2 O (dV O (bM 0 ay O aY O (bM 6 aS O aj O (aQ (iw 6 EW aj) ?_)))))))
          rintro _ w19 EP
          refine rW (bI O (dV O (bM 28 ay O aj O (eH aA O (EP).get.2 O (aV (fF O O) (iW O (fun h10 => ?_) (fun h10 => ?_)))))))
          · (try simp only [Z] at h10)
            have Aj := nS vk hon hrun h10
            refine aF (jU O O (dV O (bM 0 ay O aY O (bM 7 aS O aj O (aQ (iw 7 EP aj) ?_)))))
            rintro _ ZP BL
            refine dV O (bM 0 ay O aY O (bM 8 aS O aj O (aQ (iw 8 BL aj) ?_)))
            rintro _ w21 wP
            refine iR (jS O (dL iF O ?_))
            refine ⟨O, ?_⟩
            first
              | exact absurd (hw2.symm.trans hwh) (by decide)
              | exact absurd (hwh.symm.trans hw2) (by decide)
              | (rw [Aj]; exact V.ji iT dQ wP.f11.f11.f11.f11.f11.f11.f11.f11.f11.f11.f11)
          · (try simp only [Z] at h10)
            have Aj := mF vk hon hrun h10
            refine gy (jS O (dL iF O ?_))
            refine ⟨O, ?_⟩
            first
              | exact absurd (hw2.symm.trans hwh) (by decide)
              | exact absurd (hwh.symm.trans hw2) (by decide)
              | (rw [Aj]; exact V.ji iT dQ EP.f11.f11.f11.f11.f11.f11.f11.f11.f11.f11.f11)
      · (try simp only [Z] at h5)
        have hwh : s.whole = false := by simpa using h5
        have hty : s.typed = false := by unfold bQ.typed; rw [hc3, hwh]; rfl
        have hrun : (s.typed && (!s.put.isEmpty || s.c.run)) = false := by rw [hty]; rfl
        refine bK (bK (bK (bK (bK (iH O O ?_)))))
        have hwo := DT (Js.f11)
        have UL := Js.f11.right
        have HW0 := V.JM (c := s.was) (u := [vM, vN, vO, vP, vS, vT, vU, vV, vW, vX, vY]) UL hwo
        obtain ⟨s1, vk, HS1⟩ : ∃ s1, s1 = s.kR ∧ V w0 (w6.drew) (dZ e s1 • F) := ⟨_, hs1, V.ji (hs1 ▸ Ai iT) dQ HW0.f11.f11.f11.f11.f11.f11.f11.f11.f11.f11⟩
        have hr1 : s1.c.run = s.c.run := by rw [vk]; unfold bQ.kR; split <;> rfl
        refine dX O func84 (sJ HS1) ?_
        rintro _ w23 AQ
        obtain ⟨on, hon, HZ⟩ : ∃ on, (s.typed && s.c.run) = on ∧ V w0 w23 (dZ e (s1.eX on) • F) := ⟨_, by rw [hty]; rfl, AQ⟩
        refine rW ?_
        obtain ⟨xE, yB, yC, y9, yD, yE, yF, yG, xG, vM, vN, vO, vP, vS, vT, vU, vV, vW, vX, vY, iT, dQ, lT, jm⟩ := (HZ).Jp
        refine aF (jU O O (jY O (fun h11 => ?_) (fun h11 => ?_)))
        · (try simp only [Z] at h11)
          have hw2 : s.whole = true := h11
          refine bF (bW O (bF (jY O (fun h12 => ?_) (fun h12 => ?_))))
          · (try simp only [Z] at h12)
            have hrun : (s.typed && (!s.put.isEmpty || s.c.run)) = true := by first | exact absurd (hw2.symm.trans hwh) (by decide) | (rw [wE, decide_eq_false (show ¬ s.put.length = 0 by omega), hty]; rfl)
            refine bK (bK (bK (bK (bK (bF (jQ O O (jQ O O (dV O (bM 0 ay O aY O (bM 10 aS O aT O (aQ (iw 10 jm aT) ?_)))))))))))
            rintro _ w25 LU
            refine uS O (mX O O (bM 28 ay O aj O (eH aA O (LU).get.2 O (dV O (bM 0 ay O aY O (bM 6 aS O aj O (aQ (iw 6 LU aj) ?_)))))))
            rintro _ w26 QS
            refine rW (bI O (dV O (bM 28 ay O aj O (eH aA O (QS).get.2 O (aV (fF O O) (iW O (fun h13 => ?_) (fun h13 => ?_)))))))
            · (try simp only [Z] at h13)
              have Aj := nS vk hon hrun h13
              refine aF (jU O O (dV O (bM 0 ay O aY O (bM 7 aS O aj O (aQ (iw 7 QS aj) ?_)))))
              rintro _ w27 LV
              refine dV O (bM 0 ay O aY O (bM 8 aS O aj O (aQ (iw 8 LV aj) ?_)))
              rintro _ w28 H28
              refine iR (jS O (dL iF O ?_))
              refine ⟨O, ?_⟩
              first
                | exact absurd (hw2.symm.trans hwh) (by decide)
                | exact absurd (hwh.symm.trans hw2) (by decide)
                | (rw [Aj]; exact V.ji iT dQ H28.f11.f11.f11.f11.f11.f11.f11.f11.f11.f11.f11)
            · (try simp only [Z] at h13)
              have Aj := mF vk hon hrun h13
              refine gy (jS O (dL iF O ?_))
              refine ⟨O, ?_⟩
              first
                | exact absurd (hw2.symm.trans hwh) (by decide)
                | exact absurd (hwh.symm.trans hw2) (by decide)
                | (rw [Aj]; exact V.ji iT dQ QS.f11.f11.f11.f11.f11.f11.f11.f11.f11.f11.f11)
          · (try simp only [Z] at h12)
            have hrun : (s.typed && (!s.put.isEmpty || s.c.run)) = (s1.eX on).c.run := by first | exact absurd (hw2.symm.trans hwh) (by decide) | (rw [wE, decide_eq_true (show s.put.length = 0 by omega), hty, FZ, hr1]; rfl)
            refine bF (bW O (bF (dV O (bF (bM 0 ay O aY O (bF (bM 10 aS O aT O (bF (eH bJ O (jm).get.2 O (bF (iH O O (jQ O O (dV O (bM 0 ay O aY O (bM 10 aS O aT O (aQ (iw 10 jm aT) ?_))))))))))))))))
            rintro _ w29 Yq
            refine uS O (mX O O (bM 28 ay O aj O (eH aA O (Yq).get.2 O (dV O (bM 0 ay O aY O (bM 6 aS O aj O (aQ (iw 6 Yq aj) ?_)))))))
            rintro _ w30 Vq
            refine rW (bI O (dV O (bM 28 ay O aj O (eH aA O (Vq).get.2 O (aV (fF O O) (iW O (fun h14 => ?_) (fun h14 => ?_)))))))
            · (try simp only [Z] at h14)
              have Aj := nS vk hon hrun h14
              refine aF (jU O O (dV O (bM 0 ay O aY O (bM 7 aS O aj O (aQ (iw 7 Vq aj) ?_)))))
              rintro _ w31 Uk
              refine dV O (bM 0 ay O aY O (bM 8 aS O aj O (aQ (iw 8 Uk aj) ?_)))
              rintro _ w32 OO
              refine iR (jS O (dL iF O ?_))
              refine ⟨O, ?_⟩
              first
                | exact absurd (hw2.symm.trans hwh) (by decide)
                | exact absurd (hwh.symm.trans hw2) (by decide)
                | (rw [Aj]; exact V.ji iT dQ OO.f11.f11.f11.f11.f11.f11.f11.f11.f11.f11.f11)
            · (try simp only [Z] at h14)
              have Aj := mF vk hon hrun h14
              refine gy (jS O (dL iF O ?_))
              refine ⟨O, ?_⟩
              first
                | exact absurd (hw2.symm.trans hwh) (by decide)
                | exact absurd (hwh.symm.trans hw2) (by decide)
                | (rw [Aj]; exact V.ji iT dQ Vq.f11.f11.f11.f11.f11.f11.f11.f11.f11.f11.f11)
        · (try simp only [Z] at h11)
          have hw2 : s.whole = false := by simpa using h11
          have hrun : (s.typed && (!s.put.isEmpty || s.c.run)) = false := by first | exact absurd (hwh.symm.trans hw2) (by decide) | (rw [hty]; rfl)
          refine bK (bK (ni (ni (ni (ni (ni (bK (iH O O (dV O (bM 0 ay O aY O (bM 10 aS O aT O (aQ (iw 10 jm aT) ?_))))))))))))
          rintro _ w33 Ul
          refine uS O (mX O O (bM 28 ay O aj O (eH aA O (Ul).get.2 O (dV O (bM 0 ay O aY O (bM 6 aS O aj O (aQ (iw 6 Ul aj) ?_)))))))
          rintro _ w34 WA
          refine rW (bI O (dV O (bM 28 ay O aj O (eH aA O (WA).get.2 O (aV (fF O O) (iW O (fun h15 => ?_) (fun h15 => ?_)))))))
          · (try simp only [Z] at h15)
            have Aj := nS vk hon hrun h15
            refine aF (jU O O (dV O (bM 0 ay O aY O (bM 7 aS O aj O (aQ (iw 7 WA aj) ?_)))))
            rintro _ w35 H35
            refine dV O (bM 0 ay O aY O (bM 8 aS O aj O (aQ (iw 8 H35 aj) ?_)))
            rintro _ w36 H36
            refine iR (jS O (dL iF O ?_))
            refine ⟨O, ?_⟩
            first
              | exact absurd (hw2.symm.trans hwh) (by decide)
              | exact absurd (hwh.symm.trans hw2) (by decide)
              | (rw [Aj]; exact V.ji iT dQ H36.f11.f11.f11.f11.f11.f11.f11.f11.f11.f11.f11)
          · (try simp only [Z] at h15)
            have Aj := mF vk hon hrun h15
            refine gy (jS O (dL iF O ?_))
            refine ⟨O, ?_⟩
            first
              | exact absurd (hw2.symm.trans hwh) (by decide)
              | exact absurd (hwh.symm.trans hw2) (by decide)
              | (rw [Aj]; exact V.ji iT dQ WA.f11.f11.f11.f11.f11.f11.f11.f11.f11.f11.f11)
    · (try simp only [Z] at h4)
      have hty : s.typed = false := by unfold bQ.typed; rw [beq_false_of_ne h4]; rfl
      have hrun : (s.typed && (!s.put.isEmpty || s.c.run)) = false := by rw [hty]; rfl
      refine eG 6 O O O O (by kernel_rfl) (by kernel_rfl) lZ (gV O) ?_
      refine eG 7 O O O O (by kernel_rfl) (by kernel_rfl) lZ (gV O) ?_
      refine eG 8 O O O O (by kernel_rfl) (by kernel_rfl) lZ (gV O) ?_
      refine eG 9 O O O O (by kernel_rfl) (by kernel_rfl) lZ (gV O) ?_
      refine dS 10 O lZ (fun _ => uz O O) (fD 11 O lZ O (iG 12 O lZ O (dJ 13 O lZ 33 ay O dA O (fM 14 O lZ (fun W hW => fQ aZ O ((Kp.h hW)).get.2 O) (dS 15 O lZ (fun _ => ku ((Js.f9).aO) aZ O) (dS 16 O lZ (fun _ => gK O O) (dS 17 O lZ (fun _ => aW O) (dS 18 O lZ (fun _ => aW O) (lJ (aU (bI O (jU O O (bK (bK (bK (bK (bK (iH O O ?_))))))))))))))))))
      have hwo := DT (Js.f11)
      have ahV := Js.f11.right
      have HW0 := V.JM (c := s.was) (u := [vM, vN, vO, vP, vS, vT, vU, vV, vW, vX, vY]) ahV hwo
      obtain ⟨s1, vk, HS1⟩ : ∃ s1, s1 = s.kR ∧ V w0 (w6.drew) (dZ e s1 • F) := ⟨_, hs1, V.ji (hs1 ▸ Ai iT) dQ HW0.f11.f11.f11.f11.f11.f11.f11.f11.f11.f11⟩
      have hr1 : s1.c.run = s.c.run := by rw [vk]; unfold bQ.kR; split <;> rfl
      refine dX O func84 (sJ HS1) ?_
      rintro _ w38 WB
      obtain ⟨on, hon, HZ⟩ : ∃ on, (s.typed && s.c.run) = on ∧ V w0 w38 (dZ e (s1.eX on) • F) := ⟨_, by rw [hty]; rfl, WB⟩
      refine rW ?_
      obtain ⟨xE, yB, yC, y9, yD, yE, yF, yG, xG, vM, vN, vO, vP, vS, vT, vU, vV, vW, vX, vY, iT, dQ, lT, jm⟩ := (HZ).Jp
      refine aF (jU O O (bW O (bK (bK (ni (ni (ni (ni (ni (bK (iH O O (dV O (bM 0 ay O aY O (bM 10 aS O aT O (aQ (iw 10 jm aT) ?_)))))))))))))))
      rintro _ w40 H40
      refine uS O (mX O O (bM 28 ay O aj O (eH aA O (H40).get.2 O (dV O (bM 0 ay O aY O (bM 6 aS O aj O (aQ (iw 6 H40 aj) ?_)))))))
      rintro _ w41 H41
      refine rW (bI O (dV O (bM 28 ay O aj O (eH aA O (H41).get.2 O (aV (fF O O) (iW O (fun h16 => ?_) (fun h16 => ?_)))))))
      · (try simp only [Z] at h16)
        have Aj := nS vk hon hrun h16
        refine aF (jU O O (dV O (bM 0 ay O aY O (bM 7 aS O aj O (aQ (iw 7 H41 aj) ?_)))))
        rintro _ w42 H42
        refine dV O (bM 0 ay O aY O (bM 8 aS O aj O (aQ (iw 8 H42 aj) ?_)))
        rintro _ w43 H43
        refine iR (jS O (dL iF O ?_))
        refine ⟨O, ?_⟩
        first
          | exact absurd (hw2.symm.trans hwh) (by decide)
          | exact absurd (hwh.symm.trans hw2) (by decide)
          | (rw [Aj]; exact V.ji iT dQ H43.f11.f11.f11.f11.f11.f11.f11.f11.f11.f11.f11)
      · (try simp only [Z] at h16)
        have Aj := mF vk hon hrun h16
        refine gy (jS O (dL iF O ?_))
        refine ⟨O, ?_⟩
        first
          | exact absurd (hw2.symm.trans hwh) (by decide)
          | exact absurd (hwh.symm.trans hw2) (by decide)
          | (rw [Aj]; exact V.ji iT dQ H41.f11.f11.f11.f11.f11.f11.f11.f11.f11.f11.f11)
  · (try simp only [Z] at h2)
    have har : s.argues = true := by simpa using h2
    have hs1 : ({ s with inn := false } : bQ) = s.kR := by unfold bQ.kR; rw [if_pos har]
    refine bF (bW O (bF (aV (fF O O) (iH O O (iR (JF O (fun h17 => ?_)))))))
    (try simp only [Z] at h17)
    refine gy (aI (bI O (aV (fF O O) (iR (JF O (fun h18 => ?_))))))
    (try simp only [Z] at h18)
    refine gy (aI ?_)
    have EL := H3.drew
    have kG := V.kp (EL.f11.f11.f11.f11.f11.f11.f11.f11.f11.f11.f11)
    refine nG [3, 9, 14] kG O (fD 0 O kG O (iG 1 O kG O (dJ 2 O kG 28 ay O aj O (fM 3 O kG (fun W hW => fQ aA O ((Kp.h hW)).get.2 O) (dS 4 O kG (fun _ => fB O O) ?_)))))
    refine zn 5 O O (by kernel_rfl) (by kernel_rfl) kG (gV O) (fun h19 => ?_) (fun h19 => ?_)
    · (try simp only [Z] at h19)
      have hc3 : s.cls = 3 := h19
      refine dh 6 O O O (by kernel_rfl) (by kernel_rfl) kG (fun _ => uy O) (gV O) ?_
      refine dh 7 O O O (by kernel_rfl) (by kernel_rfl) kG (fun _ => ES O) (gV O) ?_
      refine dh 8 O O O (by kernel_rfl) (by kernel_rfl) kG (fun _ => pq 32 ay O O aT (by decide) O rfl) (gV O) ?_
      refine jP 9 O O O (by kernel_rfl) (by kernel_rfl) kG (by decide) (fun W hW => dW (bV bJ O) O (iI ((Kp.h hW)).get.2 O)) (gV O) ?_
      refine dS 10 O kG (fun _ => xY O O) (fD 11 O kG O (iG 12 O kG O (dJ 13 O kG 33 ay O dA O (fM 14 O kG (fun W hW => fQ aZ O ((Kp.h hW)).get.2 O) (dS 15 O kG (fun _ => ku ((EL.f9).aO) aZ O) (dS 16 O kG (fun _ => gK O O) (dS 17 O kG (fun _ => aW O) (dS 18 O kG (fun _ => aW O) (lJ (aU (bI O (bW O (jY O (fun h20 => ?_) (fun h20 => ?_))))))))))))))
      · (try simp only [Z] at h20)
        have hwh : s.whole = true := h20
        have hty : s.typed = true := by unfold bQ.typed; rw [hc3, hwh]; rfl
        refine bF (bW O (bF (dV O (bF (bM 0 ay O aY O (bF (bM 10 aS O aT O (bF (eH bJ O (EL).get.2 O (jQ O O ?_))))))))))
        have hwo := DT (EL.f11)
        have ald := EL.f11.right
        have HW0 := V.JM (c := s.was) (u := [vM, vN, vO, vP, vS, vT, vU, vV, vW, vX, vY]) ald hwo
        obtain ⟨s1, vk, HS1⟩ : ∃ s1, s1 = s.kR ∧ V w0 (w3.drew) (dZ e s1 • F) := ⟨_, hs1, V.ji (hs1 ▸ Ai iT) dQ HW0.f11.f11.f11.f11.f11.f11.f11.f11.f11.f11⟩
        have hr1 : s1.c.run = s.c.run := by rw [vk]; unfold bQ.kR; split <;> rfl
        refine dX O func84 (sJ HS1) ?_
        rintro _ w45 UN
        obtain ⟨on, hon, HZ⟩ : ∃ on, (s.typed && s.c.run) = on ∧ V w0 w45 (dZ e (s1.eX on) • F) := ⟨_, by rw [hty]; rfl, UN⟩
        refine rW ?_
        obtain ⟨xE, yB, yC, y9, yD, yE, yF, yG, xG, vM, vN, vO, vP, vS, vT, vU, vV, vW, vX, vY, iT, dQ, lT, jm⟩ := (HZ).Jp
        refine aF (jU O O (jY O (fun h21 => ?_) (fun h21 => ?_)))
        · (try simp only [Z] at h21)
          have hw2 : s.whole = true := h21
          refine bF (bW O (bF (jY O (fun h22 => ?_) (fun h22 => ?_))))
          · (try simp only [Z] at h22)
            have hrun : (s.typed && (!s.put.isEmpty || s.c.run)) = true := by first | exact absurd (hw2.symm.trans hwh) (by decide) | (rw [wE, decide_eq_false (show ¬ s.put.length = 0 by omega), hty]; rfl)
            refine bK (bK (bK (bK (bK (bF (jQ O O (jQ O O (dV O (bM 0 ay O aY O (bM 10 aS O aT O (aQ (iw 10 jm aT) ?_)))))))))))
            rintro _ w47 H47
            refine uS O (mX O O (bM 28 ay O aj O (eH aA O (H47).get.2 O (dV O (bM 0 ay O aY O (bM 6 aS O aj O (aQ (iw 6 H47 aj) ?_)))))))
            rintro _ w48 H48
            refine rW (bI O (dV O (bM 28 ay O aj O (eH aA O (H48).get.2 O (aV (fF O O) (iW O (fun h23 => ?_) (fun h23 => ?_)))))))
            · (try simp only [Z] at h23)
              have Aj := nS vk hon hrun h23
              refine aF (jU O O (dV O (bM 0 ay O aY O (bM 7 aS O aj O (aQ (iw 7 H48 aj) ?_)))))
              rintro _ w49 H49
              refine dV O (bM 0 ay O aY O (bM 8 aS O aj O (aQ (iw 8 H49 aj) ?_)))
              rintro _ w50 H50
              refine iR (jS O (dL iF O ?_))
              refine ⟨O, ?_⟩
              first
                | exact absurd (hw2.symm.trans hwh) (by decide)
                | exact absurd (hwh.symm.trans hw2) (by decide)
                | (rw [Aj]; exact V.ji iT dQ H50.f11.f11.f11.f11.f11.f11.f11.f11.f11.f11.f11)
            · (try simp only [Z] at h23)
              have Aj := mF vk hon hrun h23
              refine gy (jS O (dL iF O ?_))
              refine ⟨O, ?_⟩
              first
                | exact absurd (hw2.symm.trans hwh) (by decide)
                | exact absurd (hwh.symm.trans hw2) (by decide)
                | (rw [Aj]; exact V.ji iT dQ H48.f11.f11.f11.f11.f11.f11.f11.f11.f11.f11.f11)
          · (try simp only [Z] at h22)
            have hrun : (s.typed && (!s.put.isEmpty || s.c.run)) = (s1.eX on).c.run := by first | exact absurd (hw2.symm.trans hwh) (by decide) | (rw [wE, decide_eq_true (show s.put.length = 0 by omega), hty, FZ, hr1]; rfl)
            refine bF (bW O (bF (dV O (bF (bM 0 ay O aY O (bF (bM 10 aS O aT O (bF (eH bJ O (jm).get.2 O (bF (iH O O (jQ O O (dV O (bM 0 ay O aY O (bM 10 aS O aT O (aQ (iw 10 jm aT) ?_))))))))))))))))
            rintro _ w51 H51
            refine uS O (mX O O (bM 28 ay O aj O (eH aA O (H51).get.2 O (dV O (bM 0 ay O aY O (bM 6 aS O aj O (aQ (iw 6 H51 aj) ?_)))))))
            rintro _ w52 H52
            refine rW (bI O (dV O (bM 28 ay O aj O (eH aA O (H52).get.2 O (aV (fF O O) (iW O (fun h24 => ?_) (fun h24 => ?_)))))))
            · (try simp only [Z] at h24)
              have Aj := nS vk hon hrun h24
              refine aF (jU O O (dV O (bM 0 ay O aY O (bM 7 aS O aj O (aQ (iw 7 H52 aj) ?_)))))
              rintro _ w53 H53
              refine dV O (bM 0 ay O aY O (bM 8 aS O aj O (aQ (iw 8 H53 aj) ?_)))
              rintro _ w54 H54
              refine iR (jS O (dL iF O ?_))
              refine ⟨O, ?_⟩
              first
                | exact absurd (hw2.symm.trans hwh) (by decide)
                | exact absurd (hwh.symm.trans hw2) (by decide)
                | (rw [Aj]; exact V.ji iT dQ H54.f11.f11.f11.f11.f11.f11.f11.f11.f11.f11.f11)
            · (try simp only [Z] at h24)
              have Aj := mF vk hon hrun h24
              refine gy (jS O (dL iF O ?_))
              refine ⟨O, ?_⟩
              first
                | exact absurd (hw2.symm.trans hwh) (by decide)
                | exact absurd (hwh.symm.trans hw2) (by decide)
                | (rw [Aj]; exact V.ji iT dQ H52.f11.f11.f11.f11.f11.f11.f11.f11.f11.f11.f11)
        · (try simp only [Z] at h21)
          have hw2 : s.whole = false := by simpa using h21
          have hrun : (s.typed && (!s.put.isEmpty || s.c.run)) = false := by first | exact absurd (hwh.symm.trans hw2) (by decide) | (rw [hty]; rfl)
          refine bK (bK (ni (ni (ni (ni (ni (bK (iH O O (dV O (bM 0 ay O aY O (bM 10 aS O aT O (aQ (iw 10 jm aT) ?_))))))))))))
          rintro _ w55 H55
          refine uS O (mX O O (bM 28 ay O aj O (eH aA O (H55).get.2 O (dV O (bM 0 ay O aY O (bM 6 aS O aj O (aQ (iw 6 H55 aj) ?_)))))))
          rintro _ w56 H56
          refine rW (bI O (dV O (bM 28 ay O aj O (eH aA O (H56).get.2 O (aV (fF O O) (iW O (fun h25 => ?_) (fun h25 => ?_)))))))
          · (try simp only [Z] at h25)
            have Aj := nS vk hon hrun h25
            refine aF (jU O O (dV O (bM 0 ay O aY O (bM 7 aS O aj O (aQ (iw 7 H56 aj) ?_)))))
            rintro _ w57 H57
            refine dV O (bM 0 ay O aY O (bM 8 aS O aj O (aQ (iw 8 H57 aj) ?_)))
            rintro _ w58 H58
            refine iR (jS O (dL iF O ?_))
            refine ⟨O, ?_⟩
            first
              | exact absurd (hw2.symm.trans hwh) (by decide)
              | exact absurd (hwh.symm.trans hw2) (by decide)
              | (rw [Aj]; exact V.ji iT dQ H58.f11.f11.f11.f11.f11.f11.f11.f11.f11.f11.f11)
          · (try simp only [Z] at h25)
            have Aj := mF vk hon hrun h25
            refine gy (jS O (dL iF O ?_))
            refine ⟨O, ?_⟩
            first
              | exact absurd (hw2.symm.trans hwh) (by decide)
              | exact absurd (hwh.symm.trans hw2) (by decide)
              | (rw [Aj]; exact V.ji iT dQ H56.f11.f11.f11.f11.f11.f11.f11.f11.f11.f11.f11)
      · (try simp only [Z] at h20)
        have hwh : s.whole = false := by simpa using h20
        have hty : s.typed = false := by unfold bQ.typed; rw [hc3, hwh]; rfl
        have hrun : (s.typed && (!s.put.isEmpty || s.c.run)) = false := by rw [hty]; rfl
        refine bK (bK (bK (bK (bK (iH O O ?_)))))
        have hwo := DT (EL.f11)
        have ale := EL.f11.right
        have HW0 := V.JM (c := s.was) (u := [vM, vN, vO, vP, vS, vT, vU, vV, vW, vX, vY]) ale hwo
        obtain ⟨s1, vk, HS1⟩ : ∃ s1, s1 = s.kR ∧ V w0 (w3.drew) (dZ e s1 • F) := ⟨_, hs1, V.ji (hs1 ▸ Ai iT) dQ HW0.f11.f11.f11.f11.f11.f11.f11.f11.f11.f11⟩
        have hr1 : s1.c.run = s.c.run := by rw [vk]; unfold bQ.kR; split <;> rfl
        refine dX O func84 (sJ HS1) ?_
        rintro _ w60 H60
        obtain ⟨on, hon, HZ⟩ : ∃ on, (s.typed && s.c.run) = on ∧ V w0 w60 (dZ e (s1.eX on) • F) := ⟨_, by rw [hty]; rfl, H60⟩
        refine rW ?_
        obtain ⟨xE, yB, yC, y9, yD, yE, yF, yG, xG, vM, vN, vO, vP, vS, vT, vU, vV, vW, vX, vY, iT, dQ, lT, jm⟩ := (HZ).Jp
        refine aF (jU O O (jY O (fun h26 => ?_) (fun h26 => ?_)))
        · (try simp only [Z] at h26)
          have hw2 : s.whole = true := h26
          refine bF (bW O (bF (jY O (fun h27 => ?_) (fun h27 => ?_))))
          · (try simp only [Z] at h27)
            have hrun : (s.typed && (!s.put.isEmpty || s.c.run)) = true := by first | exact absurd (hw2.symm.trans hwh) (by decide) | (rw [wE, decide_eq_false (show ¬ s.put.length = 0 by omega), hty]; rfl)
            refine bK (bK (bK (bK (bK (bF (jQ O O (jQ O O (dV O (bM 0 ay O aY O (bM 10 aS O aT O (aQ (iw 10 jm aT) ?_)))))))))))
            rintro _ w62 H62
            refine uS O (mX O O (bM 28 ay O aj O (eH aA O (H62).get.2 O (dV O (bM 0 ay O aY O (bM 6 aS O aj O (aQ (iw 6 H62 aj) ?_)))))))
            rintro _ w63 H63
            refine rW (bI O (dV O (bM 28 ay O aj O (eH aA O (H63).get.2 O (aV (fF O O) (iW O (fun h28 => ?_) (fun h28 => ?_)))))))
            · (try simp only [Z] at h28)
              have Aj := nS vk hon hrun h28
              refine aF (jU O O (dV O (bM 0 ay O aY O (bM 7 aS O aj O (aQ (iw 7 H63 aj) ?_)))))
              rintro _ w64 H64
              refine dV O (bM 0 ay O aY O (bM 8 aS O aj O (aQ (iw 8 H64 aj) ?_)))
              rintro _ w65 H65
              refine iR (jS O (dL iF O ?_))
              refine ⟨O, ?_⟩
              first
                | exact absurd (hw2.symm.trans hwh) (by decide)
                | exact absurd (hwh.symm.trans hw2) (by decide)
                | (rw [Aj]; exact V.ji iT dQ H65.f11.f11.f11.f11.f11.f11.f11.f11.f11.f11.f11)
            · (try simp only [Z] at h28)
              have Aj := mF vk hon hrun h28
              refine gy (jS O (dL iF O ?_))
              refine ⟨O, ?_⟩
              first
                | exact absurd (hw2.symm.trans hwh) (by decide)
                | exact absurd (hwh.symm.trans hw2) (by decide)
                | (rw [Aj]; exact V.ji iT dQ H63.f11.f11.f11.f11.f11.f11.f11.f11.f11.f11.f11)
          · (try simp only [Z] at h27)
            have hrun : (s.typed && (!s.put.isEmpty || s.c.run)) = (s1.eX on).c.run := by first | exact absurd (hw2.symm.trans hwh) (by decide) | (rw [wE, decide_eq_true (show s.put.length = 0 by omega), hty, FZ, hr1]; rfl)
            refine bF (bW O (bF (dV O (bF (bM 0 ay O aY O (bF (bM 10 aS O aT O (bF (eH bJ O (jm).get.2 O (bF (iH O O (jQ O O (dV O (bM 0 ay O aY O (bM 10 aS O aT O (aQ (iw 10 jm aT) ?_))))))))))))))))
            rintro _ w66 H66
            refine uS O (mX O O (bM 28 ay O aj O (eH aA O (H66).get.2 O (dV O (bM 0 ay O aY O (bM 6 aS O aj O (aQ (iw 6 H66 aj) ?_)))))))
            rintro _ w67 H67
            refine rW (bI O (dV O (bM 28 ay O aj O (eH aA O (H67).get.2 O (aV (fF O O) (iW O (fun h29 => ?_) (fun h29 => ?_)))))))
            · (try simp only [Z] at h29)
              have Aj := nS vk hon hrun h29
              refine aF (jU O O (dV O (bM 0 ay O aY O (bM 7 aS O aj O (aQ (iw 7 H67 aj) ?_)))))
              rintro _ w68 H68
              refine dV O (bM 0 ay O aY O (bM 8 aS O aj O (aQ (iw 8 H68 aj) ?_)))
              rintro _ w69 H69
              refine iR (jS O (dL iF O ?_))
              refine ⟨O, ?_⟩
              first
                | exact absurd (hw2.symm.trans hwh) (by decide)
                | exact absurd (hwh.symm.trans hw2) (by decide)
                | (rw [Aj]; exact V.ji iT dQ H69.f11.f11.f11.f11.f11.f11.f11.f11.f11.f11.f11)
            · (try simp only [Z] at h29)
              have Aj := mF vk hon hrun h29
              refine gy (jS O (dL iF O ?_))
              refine ⟨O, ?_⟩
              first
                | exact absurd (hw2.symm.trans hwh) (by decide)
                | exact absurd (hwh.symm.trans hw2) (by decide)
                | (rw [Aj]; exact V.ji iT dQ H67.f11.f11.f11.f11.f11.f11.f11.f11.f11.f11.f11)
        · (try simp only [Z] at h26)
          have hw2 : s.whole = false := by simpa using h26
          have hrun : (s.typed && (!s.put.isEmpty || s.c.run)) = false := by first | exact absurd (hwh.symm.trans hw2) (by decide) | (rw [hty]; rfl)
          refine bK (bK (ni (ni (ni (ni (ni (bK (iH O O (dV O (bM 0 ay O aY O (bM 10 aS O aT O (aQ (iw 10 jm aT) ?_))))))))))))
          rintro _ w70 H70
          refine uS O (mX O O (bM 28 ay O aj O (eH aA O (H70).get.2 O (dV O (bM 0 ay O aY O (bM 6 aS O aj O (aQ (iw 6 H70 aj) ?_)))))))
          rintro _ w71 H71
          refine rW (bI O (dV O (bM 28 ay O aj O (eH aA O (H71).get.2 O (aV (fF O O) (iW O (fun h30 => ?_) (fun h30 => ?_)))))))
          · (try simp only [Z] at h30)
            have Aj := nS vk hon hrun h30
            refine aF (jU O O (dV O (bM 0 ay O aY O (bM 7 aS O aj O (aQ (iw 7 H71 aj) ?_)))))
            rintro _ w72 H72
            refine dV O (bM 0 ay O aY O (bM 8 aS O aj O (aQ (iw 8 H72 aj) ?_)))
            rintro _ w73 H73
            refine iR (jS O (dL iF O ?_))
            refine ⟨O, ?_⟩
            first
              | exact absurd (hw2.symm.trans hwh) (by decide)
              | exact absurd (hwh.symm.trans hw2) (by decide)
              | (rw [Aj]; exact V.ji iT dQ H73.f11.f11.f11.f11.f11.f11.f11.f11.f11.f11.f11)
          · (try simp only [Z] at h30)
            have Aj := mF vk hon hrun h30
            refine gy (jS O (dL iF O ?_))
            refine ⟨O, ?_⟩
            first
              | exact absurd (hw2.symm.trans hwh) (by decide)
              | exact absurd (hwh.symm.trans hw2) (by decide)
              | (rw [Aj]; exact V.ji iT dQ H71.f11.f11.f11.f11.f11.f11.f11.f11.f11.f11.f11)
    · (try simp only [Z] at h19)
      have hty : s.typed = false := by unfold bQ.typed; rw [beq_false_of_ne h19]; rfl
      have hrun : (s.typed && (!s.put.isEmpty || s.c.run)) = false := by rw [hty]; rfl
      refine eG 6 O O O O (by kernel_rfl) (by kernel_rfl) kG (gV O) ?_
      refine eG 7 O O O O (by kernel_rfl) (by kernel_rfl) kG (gV O) ?_
      refine eG 8 O O O O (by kernel_rfl) (by kernel_rfl) kG (gV O) ?_
      refine eG 9 O O O O (by kernel_rfl) (by kernel_rfl) kG (gV O) ?_
      refine dS 10 O kG (fun _ => uz O O) (fD 11 O kG O (iG 12 O kG O (dJ 13 O kG 33 ay O dA O (fM 14 O kG (fun W hW => fQ aZ O ((Kp.h hW)).get.2 O) (dS 15 O kG (fun _ => ku ((EL.f9).aO) aZ O) (dS 16 O kG (fun _ => gK O O) (dS 17 O kG (fun _ => aW O) (dS 18 O kG (fun _ => aW O) (lJ (aU (bI O (jU O O (bK (bK (bK (bK (bK (iH O O ?_))))))))))))))))))
      have hwo := DT (EL.f11)
      have alf := EL.f11.right
      have HW0 := V.JM (c := s.was) (u := [vM, vN, vO, vP, vS, vT, vU, vV, vW, vX, vY]) alf hwo
      obtain ⟨s1, vk, HS1⟩ : ∃ s1, s1 = s.kR ∧ V w0 (w3.drew) (dZ e s1 • F) := ⟨_, hs1, V.ji (hs1 ▸ Ai iT) dQ HW0.f11.f11.f11.f11.f11.f11.f11.f11.f11.f11⟩
      have hr1 : s1.c.run = s.c.run := by rw [vk]; unfold bQ.kR; split <;> rfl
      refine dX O func84 (sJ HS1) ?_
      rintro _ w75 H75
      obtain ⟨on, hon, HZ⟩ : ∃ on, (s.typed && s.c.run) = on ∧ V w0 w75 (dZ e (s1.eX on) • F) := ⟨_, by rw [hty]; rfl, H75⟩
      refine rW ?_
      obtain ⟨xE, yB, yC, y9, yD, yE, yF, yG, xG, vM, vN, vO, vP, vS, vT, vU, vV, vW, vX, vY, iT, dQ, lT, jm⟩ := (HZ).Jp
      refine aF (jU O O (bW O (bK (bK (ni (ni (ni (ni (ni (bK (iH O O (dV O (bM 0 ay O aY O (bM 10 aS O aT O (aQ (iw 10 jm aT) ?_)))))))))))))))
      rintro _ w77 H77
      refine uS O (mX O O (bM 28 ay O aj O (eH aA O (H77).get.2 O (dV O (bM 0 ay O aY O (bM 6 aS O aj O (aQ (iw 6 H77 aj) ?_)))))))
      rintro _ w78 H78
      refine rW (bI O (dV O (bM 28 ay O aj O (eH aA O (H78).get.2 O (aV (fF O O) (iW O (fun h31 => ?_) (fun h31 => ?_)))))))
      · (try simp only [Z] at h31)
        have Aj := nS vk hon hrun h31
        refine aF (jU O O (dV O (bM 0 ay O aY O (bM 7 aS O aj O (aQ (iw 7 H78 aj) ?_)))))
        rintro _ w79 H79
        refine dV O (bM 0 ay O aY O (bM 8 aS O aj O (aQ (iw 8 H79 aj) ?_)))
        rintro _ w80 H80
        refine iR (jS O (dL iF O ?_))
        refine ⟨O, ?_⟩
        first
          | exact absurd (hw2.symm.trans hwh) (by decide)
          | exact absurd (hwh.symm.trans hw2) (by decide)
          | (rw [Aj]; exact V.ji iT dQ H80.f11.f11.f11.f11.f11.f11.f11.f11.f11.f11.f11)
      · (try simp only [Z] at h31)
        have Aj := mF vk hon hrun h31
        refine gy (jS O (dL iF O ?_))
        refine ⟨O, ?_⟩
        first
          | exact absurd (hw2.symm.trans hwh) (by decide)
          | exact absurd (hwh.symm.trans hw2) (by decide)
          | (rw [Aj]; exact V.ji iT dQ H78.f11.f11.f11.f11.f11.f11.f11.f11.f11.f11.f11)
theorem IW {s : bQ} {x : Int} (hin : s.inn = true) (hx : x ≠ 0) : s.lQ x = s.BF ∧ s.BD x = x := by
  unfold bQ.lQ bQ.BD
  rw [if_pos hin, if_neg hx, if_pos hin]; exact ⟨rfl, rfl⟩
theorem YU {s : bQ} (h : qE s) (hin : s.inn = true) : qE s.BF := by
  obtain ⟨h1, h2, h3⟩ := h.2.1 hin
  exact ⟨h1, fun h => Bool.noConfusion h, ⟨by show (-1 : Int) ≤ -1; decide, by show (-1 : Int) ≤ 1000000; decide⟩, by simp [bQ.BF], h2, h3⟩
theorem YV (hin : s.inn = true) (hx : x ≠ 0) (H : V w0 w (dZ e s • F)) : jf prog 31 #[.pointer (some ⟨e, 0, none⟩), .int .i64 x] w fun v w' => v = .int .i64 x ∧ V w0 w' (dZ e s.BF • F) := by
 have hpe : s.AX = 0 := by unfold bQ.AX; rw [if_pos hin]
 refine qo func31 ntmps31 ?_
 refine kH O (aI (bI O (dX O func81 (mZ H) ?_)))
 rintro _ _ ⟨rfl, rfl⟩
 refine fO O (bI O (aV (fF O O) (iW O (fun h => by exfalso; (try simp only [Z] at h); exact h hpe) (fun h1 => ?_))))
 (try simp only [Z] at h1)
 refine gy (aI ?_)
 obtain ⟨xE, yB, yC, y9, yD, yE, yF, yG, xG, vM, vN, vO, vP, vS, vT, vU, vV, vW, vX, vY, iT, dQ, lT, jm⟩ := (H).Jp
 have HI := jm
 rw [hin] at HI
 obtain ⟨qb, qr, qw, qt, qm, hu, HW⟩ := (HI.f11).was
 simp only [Wq, List.cons.injEq, and_true] at hu
 obtain ⟨rfl, rfl, rfl, rfl, rfl, rfl, rfl, rfl, rfl, rfl, rfl⟩ := hu
 refine aF (mX O O (bM 16 ay O aT O (aQ (iw 16 HW.f6 aT) ?_)))
 rintro _ w3 H3
 refine rW (bI O (dV O (bM 31 ay O aT O (eH bJ O (H3).get.2 O (aV (jR O) (jY O (fun h2 => ?_) (fun h2 => ?_)))))))
 ·(try simp only [Z] at h2)
  refine bK (bK (jQ O O (iR (ET (aF (jU O O (mX O O (bM 13 ay O aT O (aQ (iw 13 H3 aT) ?_)))))))))
  rintro _ w4 H4
  refine dV O (bM 14 ay O aT O (aQ (iw 14 H4 aT) ?_))
  rintro _ w5 H5
  refine dV O (bM 15 ay O aj O (aQ (iw 15 H5 aj) ?_))
  rintro _ w6 H6
  refine rW (bI O (aV (fF O O) (iW O (fun h3 => ?_) (fun h => by exfalso; (try simp only [Z] at h); exact hx h))))
  (try simp only [Z] at h3)
  refine bI O (mX O O (bM 17 ay O aY O (aV (pz 17 (xs := [_, _, _, _, _, _, _, _, _, _, _]) aS O aY O O (H6).get.2 O) (dV O (bM 0 ay O aY O (aQ (dM 0 (l' := [_, _, _, _, _, _, _, _, _, _, _, _, _, _, _, _, _, _, _, _, _, _, _, _, _, _, _, _, _, _, _, _, _, _]) (us := [_, _, _, _, _, _, _, _, _, _, _]) H6 aY O O O (aJ (aJ (aJ (aJ (aJ (aJ (aJ (aJ (aJ (aJ (aJ dn))))))))))) O O) ?_))))))
  rintro _ w7 H7
  refine uS O (dV O (bM 12 ay O sizeOf79 O (eH underlying79 O (H7).get.2 O (dX O func83 (KI H7.f13) ?_))))
  rintro _ w8 ⟨rfl, H8⟩
  refine uS O (jU O O (mX O O (bM 0 ay O aY O (bM 6 aS O aj O (aQ (iw 6 H8.f2 aj) ?_)))))
  rintro _ w9 H9
  refine dV O (bM 0 ay O aY O (bM 7 aS O aj O (aQ (iw 7 H9 aj) ?_)))
  rintro _ w10 pG
  refine dV O (bM 0 ay O aY O (bM 8 aS O aj O (aQ (iw 8 pG aj) ?_)))
  rintro _ FK ru
  refine dV O (bM 33 ay O dA O (aQ (iw 33 ru dA) ?_))
  rintro _ w12 wQ
  refine uS O (fP O (aC (dL iF O ?_)))
  exact ⟨O, V.YQ (s := s.BF) (YU iT hin) O O wQ.f8.right.f8.right.f8.right.f8.right.f8.right.f9.right.f9.right.f2.f8.f8.f8.f8.f8.f8.f8⟩
 ·(try simp only [Z] at h2)
  refine bF (bW O (bF (aV (fF O O) (iH O O (iW O (fun h4 => ?_) (fun h => by exfalso; (try simp only [Z] at h); exact hx h))))))
  (try simp only [Z] at h4)
  refine aF (jU O O (mX O O (bM 13 ay O aT O (aQ (iw 13 H3 aT) ?_))))
  rintro _ OL wB
  refine dV O (bM 14 ay O aT O (aQ (iw 14 wB aT) ?_))
  rintro _ OG rU
  refine dV O (bM 15 ay O aj O (aQ (iw 15 rU aj) ?_))
  rintro _ OM zV
  refine rW (bI O (aV (fF O O) (iW O (fun h5 => ?_) (fun h => by exfalso; (try simp only [Z] at h); exact hx h))))
  (try simp only [Z] at h5)
  refine bI O (mX O O (bM 17 ay O aY O (aV (pz 17 (xs := [_, _, _, _, _, _, _, _, _, _, _]) aS O aY O O (zV).get.2 O) (dV O (bM 0 ay O aY O (aQ (dM 0 (l' := [_, _, _, _, _, _, _, _, _, _, _, _, _, _, _, _, _, _, _, _, _, _, _, _, _, _, _, _, _, _, _, _, _, _]) (us := [_, _, _, _, _, _, _, _, _, _, _]) zV aY O O O (aJ (aJ (aJ (aJ (aJ (aJ (aJ (aJ (aJ (aJ (aJ dn))))))))))) O O) ?_))))))
  rintro _ w16 uT
  refine uS O (dV O (bM 12 ay O sizeOf79 O (eH underlying79 O (uT).get.2 O (dX O func83 (KI uT.f13) ?_))))
  rintro _ Yp ⟨rfl, BX⟩
  refine uS O (jU O O (mX O O (bM 0 ay O aY O (bM 6 aS O aj O (aQ (iw 6 BX.f2 aj) ?_)))))
  rintro _ ZO EW
  refine dV O (bM 0 ay O aY O (bM 7 aS O aj O (aQ (iw 7 EW aj) ?_)))
  rintro _ w19 EP
  refine dV O (bM 0 ay O aY O (bM 8 aS O aj O (aQ (iw 8 EP aj) ?_)))
  rintro _ ZP BL
  refine dV O (bM 33 ay O dA O (aQ (iw 33 BL dA) ?_))
  rintro _ w21 wP
  refine uS O (fP O (aC (dL iF O ?_)))
  exact ⟨O, V.YQ (s := s.BF) (YU iT hin) O O wP.f8.right.f8.right.f8.right.f8.right.f8.right.f9.right.f9.right.f2.f8.f8.f8.f8.f8.f8.f8⟩
theorem JU (H : V w0 w (dZ e s • F)) : jf prog 31 #[.pointer (some ⟨e, 0, none⟩), .int .i64 x] w fun v w' => v = .int .i64 (s.BD x) ∧ V w0 w' (dZ e (s.lQ x) • F) := by
  by_cases hin : s.inn = true
  · by_cases hx : x = 0
    · subst hx
      rw [show s.lQ 0 = s.mD from by unfold bQ.lQ; rw [if_pos hin, if_pos rfl], show s.BD 0 = 0 from by unfold bQ.BD; rw [if_pos hin]]
      exact WU hin H
    · rw [(IW hin hx).1, (IW hin hx).2]
      exact YV hin hx H
  · have hin' : s.inn = false := by simpa using hin
    have hpe : s.AX = 1 := by unfold bQ.AX; rw [if_neg hin]
    rw [show s.lQ x = s from by unfold bQ.lQ; rw [if_neg hin], show s.BD x = 1 from by unfold bQ.BD; rw [if_neg hin]]
    refine qo func31 ntmps31 ?_
    refine kH O (aI (bI O (dX O func81 (mZ H) ?_)))
    rintro _ _ ⟨rfl, rfl⟩
    refine fO O (bI O (aV (fF O O) (iW O (fun h1 => ?_) (fun h => by exfalso; (try simp only [Z] at h); rw [hpe] at h; exact absurd h (by decide)))))
    (try simp only [Z] at h1)
    refine bI O (fP O (aC (dL iF O ?_)))
    rw [hpe]
    exact ⟨O, H⟩
end
theorem abp (G : List (List jL)) : vI G [] = if G = [] then 6 else 0 := by unfold vI; cases G <;> simp
theorem YW {G : List (List jL)} (h : G ≠ []) : Z5 G [] = (G.getLastD []).reverse.map Bz := by
  unfold Z5 qL
  rw [if_neg (by cases G <;> simp_all), if_pos rfl]
theorem UZ {s : bQ} (h : qE s) {G : List (List jL)} (h1 : iK G s.put ≤ iK s.here s.put) (h2 : ∀ g ∈ G, g ∈ s.here) : qE (s.lV G) := by
  obtain ⟨a1, a2, a3, a4, a5, a6⟩ := h
  refine ⟨a1, a2, a3, a4, ?_, ?_⟩
  · show iK (zD s.c.un s.c.place G s.c.place) s.put ≤ 16384
    rw [jo]; omega
  · intro k g hg
    have hg' : g ∈ zD s.c.un s.c.place G k := hg
    by_cases hk : k = s.c.place
    · subst hk; rw [jo] at hg'; exact a6 _ g (h2 g hg')
    · rw [zF _ _ hk] at hg'; exact a6 k g hg'
theorem Tj (G : List (List jL)) (N : List jL) : iK G.dropLast N ≤ iK G N := by
  by_cases h : G = []
  · subst h; exact Nat.le_refl _
  · have := Cm h
    unfold iK; omega
theorem abq (G : List (List jL)) (N : List jL) : iK [] N ≤ iK G N := by unfold iK; simp
theorem YX {s : bQ} : s.lV s.here = s := by unfold bQ.lV bQ.here; rw [Z8]
theorem Tn (b : List Int × Int × Int) (l : List jL) (x : jL) : bQ.apps b (l ++ [x]) = bQ.ahE (bQ.apps b l) x := by unfold bQ.apps; rw [List.foldl_append]; rfl
section
variable {w0 w : World} {F : HP} {e p : Nat} {s : bQ} {x : Int}
theorem WV (H : V w0 w (dZ e s • F)) : jf prog 194 #[.pointer (some ⟨e, 0, none⟩)] w fun v w' => v = .int .i64 s.vI ∧ V w0 w' (dZ e s.vK • F) := by
 refine jE func194 ntmps194 ?_
 refine kH O (aI (bI O (dX O func81 (mZ H) ?_)))
 rintro _ _ ⟨rfl, rfl⟩
 refine fO O (bI O (aV (fF O O) (iW O (fun h1 => ?_) (fun h1 => ?_))))
 ·(try simp only [Z] at h1)
  obtain ⟨hin, hpe⟩ := AL h1
  refine bI O (fP O (aC (dL results194 O ?_)))
  rw [hpe]
  exact ⟨by simp [bQ.vI, bQ.vK, hin], by rw [show s.vK = s from by simp [bQ.vI, bQ.vK, hin]]; exact H⟩
 ·(try simp only [Z] at h1)
  have hin := yA h1
  refine gy (bI O (dX O func84 (sJ H) ?_))
  rintro _ w2 H2
  obtain ⟨t, ht, HT⟩ : ∃ t, s.eX false = t ∧ V w0 w2 (dZ e t • F) := ⟨_, rfl, H2⟩
  obtain ⟨xE, yB, yC, y9, yD, yE, yF, yG, xG, vM, vN, vO, vP, vS, vT, vU, vV, vW, vX, vY, iT, dQ, lT, jm⟩ := (HT).Jp
  refine uS O (dX O func134 (y7 jm.f6.f5.f3) ?_)
  rintro _ w4 ⟨lp4, rfl, H4⟩
  refine dX O func136 (EH H4) ?_
  rintro _ w5 ⟨u5, fs5, rfl, ahC, H5⟩
  obtain ⟨h9a, h9b, h9c⟩ := Mc (t.c.un t.c.place)
  have HX := H5
  rw [h9a, h9b, h9c] at HX
  rw [abp]
  obtain ⟨uu, rfl⟩ : ∃ q, q = u5 := ⟨_, rfl⟩
  obtain ⟨fs, rfl⟩ : ∃ q, q = fs5 := ⟨_, rfl⟩
  have hfs := ahC
  have UA := HX.f2.f2
  have QU := UA
  have Ho8 := QU.f3.f4
  have Tf := V.Ag Ho8
  refine bW O (oZ O O (oZ O O (gW O (tX O (bI O (aV (fF O O) (iW O (fun h2 => ?_) (fun h2 => ?_))))))))
  ·(try simp only [Z] at h2)
   have h0 : t.here = [] := by by_cases hx : t.here = []; exact hx; exact absurd (if_neg hx) h2
   refine bI O (fP O (aC (dL results194 O ?_)))
   have hE : s.vI = 6 := by unfold bQ.vI; rw [if_pos hin, ht, if_pos h0]
   have hS : s.vK = t.lV t.here.dropLast := by unfold bQ.vK; rw [if_pos hin]; dsimp only; rw [ht, if_pos h0, h0]; exact (h0 ▸ YX).symm
   exact ⟨by rw [hE]; show Value.int _ (if t.c.un t.c.place = [] then 6 else 0) = _; rw [if_pos (show t.c.un t.c.place = [] from h0)], by rw [hS]; exact V.ji (s := t.lV t.here.dropLast) (UZ iT (Tj _ _) (fun g hg => List.dropLast_subset _ hg)) dQ Tf.f2.right.f2.right.f11.f11.f11.f11.f11.f6.f11.f9.f11.f11.f11⟩
  ·(try simp only [Z] at h2)
   have h0 : ¬ t.here = [] := fun hx => by rw [if_pos (show t.c.un t.c.place = [] from hx)] at h2; exact absurd h2 (by decide)
   refine gy (aI (aI ?_))
   have ac8 : fs.map gX.says = (t.here.getLastD []).reverse.map Bz := hfs.trans (YW h0)
   have hfl : fs.length ≤ 16384 := by
    have h9 := congrArg List.length ac8
    rw [List.length_map, List.length_map, List.length_reverse] at h9
    have h8 := Cm h0
    have h7 : iK t.here t.put ≤ 16384 := iT.2.2.2.2.1
    unfold iK at h7
    omega
   refine aF (bW O (aV (ku ((Tf.f2).aO) aZ O) (bW O (iR (bf ?_)))))
   obtain ⟨R10, ahI, ahJ⟩ := V.acb (Tf.f4.f4.f4.f6)
   refine iy [(0, _), (24, _), (25, _)] (fun (i : Nat) => [(26, .int .i64 (i : Int))]) (fun (i : Nat) W => i ≤ fs.length ∧ V w0 W (jF xE (bQ.apps (t.c.L, t.c.pt, t.c.mark) ((fs.take i).map gX.says)).1 (bQ.apps (t.c.L, t.c.pt, t.c.mark) ((fs.take i).map gX.says)).2.1 (bQ.apps (t.c.L, t.c.pt, t.c.mark) ((fs.take i).map gX.says)).2.2 • Row 189 3 uu fs.length (fs.flatMap gX.enc) • nD fs • gJ e (.cells (.pointer (some ⟨xE, 0, none⟩) :: .pointer (some ⟨yB, 0, none⟩) :: .pointer (some ⟨yC, 0, none⟩) :: .map (some yD) :: .int .i64 t.c.mode :: .bool t.c.over :: .int .i64 t.c.last :: .int .i64 t.c.fr :: .int .i64 t.c.to :: .int .i64 t.c.res :: .bool t.c.run :: .pointer (some ⟨yE, 0, none⟩) :: .pointer (some ⟨yF, 0, none⟩) :: .bool t.given :: .bool t.minus :: .int .i64 t.arg :: .bool t.inn :: vM :: vN :: vO :: vP :: vS :: vT :: vU :: vV :: vW :: vX :: vY :: .int .i64 t.cls :: .bool t.killed :: .bool t.mM :: .bool t.argues :: .bool t.whole :: yG :: []).toArray 82 (0, 0)) • R10)) (fun (i : Nat) => fs.length - i) (0) wW lH ⟨by omega, ahJ⟩ ?_
   rintro i FK ⟨hi, HL⟩
   dsimp only [List.cons_append, List.nil_append]
   refine jg (aV (gG O O) (rW (bg O (fun h3 => ?_) (fun h3 => ?_))))
   ·(try simp only [Z] at h3)
    refine gy (aI (bf (jg ?_)))
    obtain ⟨buu, ouu, cuu, euu⟩ := Rd.qN ((HL.f2).aO) (by omega)
    cases euu
    refine aV (dI aZ dB O O (by omega)) (aV (pI (ys := [_, _, _]) ((HL.f2).aO) (by omega) bn O dB O (rY gX.AB (by omega) default) O) ?_)
    have hkl : i < fs.length := by omega
    refine kV (iO (l := [_, _, _]) HL fJ O) ?_
    rintro _ w12 ⟨b12, rfl, wQ⟩
    refine aQ (dM 0 (l' := [_, _, _]) (us := [_, _, _]) wQ dB O O O (aJ (bG (by first | rfl | exact Rd.one (((wQ.f4).oD hkl).1)) (bG (by first | rfl | exact Rd.one (((wQ.f4).oD hkl).2)) dn))) O O) ?_
    rintro _ OL wB
    refine iR ?_
    have ac9 := wB.drew
    have F5 := V.kp (ac9.f5.f5.f5.f5.f5)
    refine nG [4, 5] F5 O (fD 0 O F5 O (iG 1 O F5 O (dJ 2 O F5 0 ay O aY O (dJ 3 O F5 0 aS O nX O (fM 4 O F5 (fun W hW => fQ jX O ((Kp.h hW).f5).get.2 O) (fM 5 O F5 (fun W hW => dH bn O dB O O ((Kp.h hW)).get.2) (ny 6 O (wM O func209 (Ji ac9.f2 (fun W HW => ((HW.f3).oD hkl).1) (fun W HW => ((HW.f3).oD hkl).2))) ?_)))))))
    rintro _ OG ⟨rfl, rU⟩
    have Ho := V.kp (rU.f5.f5.f5.f5.f5)
    refine gU Ho (by kernel_rfl) ?_
    refine lJ (aH (aU (aF (aV (fH O O (by omega)) (bW O (bT ?_))))))
    refine dN (i + 1) ?_ ?_ ?_ ?_
    ·exact lH
    ·exact wW
    ·(try dsimp only)
     first | done | exact ⟨by omega, by rw [Fe hkl, Tn]; exact rU.f2.right.f4.f4.f4.f4⟩
    ·(try dsimp only); omega
   ·(try simp only [Z] at h3)
    refine dR (aP ?_)
    have hil : i = fs.length := by omega
    have HB := HL
    rw [hil, List.take_length] at HB
    subst ahI
    refine aP (bH (aU (bI O (mX O O (bM 32 ay O aT O (aQ (iw 32 HB.f4 aT) ?_))))))
    rintro _ OM zV
    refine dV O (bM 0 ay O aY O (bM 10 aS O aT O (aQ (iw 10 zV aT) ?_)))
    rintro _ w16 uT
    refine iR (jS O (dL results194 O ?_))
    rw [ac8] at uT
    have hE : s.vI = 0 := by unfold bQ.vI; rw [if_pos hin, ht, if_neg h0]
    have hS : s.vK = ((t.lV t.here.dropLast).KF ((t.here.getLastD []).reverse.map Bz)).Ce := by unfold bQ.vK; rw [if_pos hin]; dsimp only; rw [ht, if_neg h0]
    exact ⟨by rw [hE], by rw [hS]; exact V.ji (s := ((t.lV t.here.dropLast).KF ((t.here.getLastD []).reverse.map Bz)).Ce) (UZ iT (Tj _ _) (fun g hg => List.dropLast_subset _ hg)) dQ uT.f3.right.f3.right.f11.f11.f11.f11.f11.f8.f11.f10.f11.f11.f11⟩
theorem YZ (H : V w0 w (dZ e s • F)) : jf prog 193 #[.pointer (some ⟨e, 0, none⟩)] w fun v w' => v = .int .i64 s.vI ∧ V w0 w' (dZ e s.NS • F) := by
 refine jE func193 ntmps193 ?_
 refine kH O (aI (bI O (dX O func81 (mZ H) ?_)))
 rintro _ _ ⟨rfl, rfl⟩
 refine fO O (bI O (aV (fF O O) (iW O (fun h1 => ?_) (fun h1 => ?_))))
 ·(try simp only [Z] at h1)
  obtain ⟨hin, hpe⟩ := AL h1
  refine bI O (fP O (aC (dL results193 O ?_)))
  rw [hpe]
  exact ⟨by simp [bQ.vI, bQ.NS, hin], by rw [show s.NS = s from by simp [bQ.vI, bQ.NS, hin]]; exact H⟩
 ·(try simp only [Z] at h1)
  have hin := yA h1
  refine gy (bI O (dX O func84 (sJ H) ?_))
  rintro _ w2 H2
  obtain ⟨t, ht, HT⟩ : ∃ t, s.eX false = t ∧ V w0 w2 (dZ e t • F) := ⟨_, rfl, H2⟩
  obtain ⟨xE, yB, yC, y9, yD, yE, yF, yG, xG, vM, vN, vO, vP, vS, vT, vU, vV, vW, vX, vY, iT, dQ, lT, jm⟩ := (HT).Jp
  refine rW (bI O (dX O func134 (y7 jm.f6.f5.f3) ?_))
  rintro _ w4 ⟨lp4, rfl, H4⟩
  refine dX O func120 (KA H4) ?_
  rintro _ w5 ⟨rfl, H5⟩
  have UA := H5.f2
  have QU := V.KH UA
  refine aV (fB O O) (iW O (fun h2 => ?_) (fun h2 => ?_))
  ·(try simp only [Z] at h2)
   have h0 : t.here = [] := by simp at h2; exact h2
   refine jS O (aC (dL results193 O ?_))
   have hE : s.vI = 6 := by unfold bQ.vI; rw [if_pos hin, ht, if_pos h0]
   have hS : s.NS = t := by unfold bQ.NS; rw [if_pos hin]; dsimp only; rw [ht, if_pos h0]
   exact ⟨by rw [hE], by rw [hS]; exact V.ji iT dQ QU.f11.f11.f11.f11.f11.f6.f11.f9.f11.f11.f11⟩
  ·(try simp only [Z] at h2)
   have h0 : ¬ t.here = [] := fun hx => by rw [show t.c.un t.c.place = [] from hx] at h2; simp at h2
   refine gy (aI (bI O (dX O func134 (y7 QU.f3.f3) ?_)))
   rintro _ w8 ⟨lp8, rfl, H8⟩
   refine dX O func208 (NR H8) ?_
   rintro u9 w9 ⟨fs9, ahG, H9⟩
   obtain ⟨uu, rfl⟩ : ∃ q, q = u9 := ⟨_, rfl⟩
   obtain ⟨fs, rfl⟩ : ∃ q, q = fs9 := ⟨_, rfl⟩
   have hfs := ahG
   have UC := H9.f2.f2
   have UD := UC
   have Px := UD.f3.f4
   have NV := V.Ag Px
   have ac8 : fs.map gX.says = t.here.flatten.reverse.map Bz := by rw [hfs]; unfold ahB qL; rw [if_pos rfl]; rfl
   have hfl : fs.length ≤ 16384 := by
    have h9 := congrArg List.length ac8
    rw [List.length_map, List.length_map, List.length_reverse, List.length_flatten] at h9
    have h7 : iK t.here t.put ≤ 16384 := iT.2.2.2.2.1
    unfold iK at h7
    omega
   refine aV (ku ((NV.f2).aO) aZ O) (bW O (iR (bf ?_)))
   obtain ⟨R14, alg, alh⟩ := V.acb (NV.f4.f4.f4.f6)
   refine iy [(0, _), (19, _), (20, _)] (fun (i : Nat) => [(21, .int .i64 (i : Int))]) (fun (i : Nat) W => i ≤ fs.length ∧ V w0 W (jF xE (bQ.apps (t.c.L, t.c.pt, t.c.mark) ((fs.take i).map gX.says)).1 (bQ.apps (t.c.L, t.c.pt, t.c.mark) ((fs.take i).map gX.says)).2.1 (bQ.apps (t.c.L, t.c.pt, t.c.mark) ((fs.take i).map gX.says)).2.2 • Row 189 3 uu fs.length (fs.flatMap gX.enc) • nD fs • gJ e (.cells (.pointer (some ⟨xE, 0, none⟩) :: .pointer (some ⟨yB, 0, none⟩) :: .pointer (some ⟨yC, 0, none⟩) :: .map (some yD) :: .int .i64 t.c.mode :: .bool t.c.over :: .int .i64 t.c.last :: .int .i64 t.c.fr :: .int .i64 t.c.to :: .int .i64 t.c.res :: .bool t.c.run :: .pointer (some ⟨yE, 0, none⟩) :: .pointer (some ⟨yF, 0, none⟩) :: .bool t.given :: .bool t.minus :: .int .i64 t.arg :: .bool t.inn :: vM :: vN :: vO :: vP :: vS :: vT :: vU :: vV :: vW :: vX :: vY :: .int .i64 t.cls :: .bool t.killed :: .bool t.mM :: .bool t.argues :: .bool t.whole :: yG :: []).toArray 82 (0, 0)) • R14)) (fun (i : Nat) => fs.length - i) (0) wW lH ⟨by omega, alh⟩ ?_
   rintro i OM ⟨hi, HL⟩
   dsimp only [List.cons_append, List.nil_append]
   refine jg (aV (gG O O) (rW (bg O (fun h3 => ?_) (fun h3 => ?_))))
   ·(try simp only [Z] at h3)
    refine gy (aI (bf (jg ?_)))
    obtain ⟨buu, ouu, cuu, euu⟩ := Rd.qN ((HL.f2).aO) (by omega)
    cases euu
    refine aV (dI aZ dB O O (by omega)) (aV (pI (ys := [_, _, _]) ((HL.f2).aO) (by omega) bn O dB O (rY gX.AB (by omega) default) O) ?_)
    have hkl : i < fs.length := by omega
    refine kV (iO (l := [_, _, _]) HL fJ O) ?_
    rintro _ w16 ⟨b16, rfl, uT⟩
    refine aQ (dM 0 (l' := [_, _, _]) (us := [_, _, _]) uT dB O O O (aJ (bG (by first | rfl | exact Rd.one (((uT.f4).oD hkl).1)) (bG (by first | rfl | exact Rd.one (((uT.f4).oD hkl).2)) dn))) O O) ?_
    rintro _ Yp BX
    refine iR ?_
    have ada := BX.drew
    have F6 := V.kp (ada.f5.f5.f5.f5.f5)
    refine nG [4, 5] F6 O (fD 0 O F6 O (iG 1 O F6 O (dJ 2 O F6 0 ay O aY O (dJ 3 O F6 0 aS O nX O (fM 4 O F6 (fun W hW => fQ jX O ((Kp.h hW).f5).get.2 O) (fM 5 O F6 (fun W hW => dH bn O dB O O ((Kp.h hW)).get.2) (ny 6 O (wM O func209 (Ji ada.f2 (fun W HW => ((HW.f3).oD hkl).1) (fun W HW => ((HW.f3).oD hkl).2))) ?_)))))))
    rintro _ ZO ⟨rfl, EW⟩
    have Gp := V.kp (EW.f5.f5.f5.f5.f5)
    refine gU Gp (by kernel_rfl) ?_
    refine lJ (aH (aU (aF (aV (fH O O (by omega)) (bW O (bT ?_))))))
    refine dN (i + 1) ?_ ?_ ?_ ?_
    ·exact lH
    ·exact wW
    ·(try dsimp only)
     first | done | exact ⟨by omega, by rw [Fe hkl, Tn]; exact EW.f2.right.f4.f4.f4.f4⟩
    ·(try dsimp only); omega
   ·(try simp only [Z] at h3)
    refine dR (aP ?_)
    have hil : i = fs.length := by omega
    have HB := HL
    rw [hil, List.take_length] at HB
    subst alg
    refine aP (bH (aU (bI O (mX O O (bM 32 ay O aT O (aQ (iw 32 HB.f4 aT) ?_))))))
    rintro _ w19 EP
    refine dV O (bM 0 ay O aY O (bM 10 aS O aT O (aQ (iw 10 EP aT) ?_)))
    rintro _ ZP BL
    refine iR (jS O (dL results193 O ?_))
    rw [ac8] at BL
    have hE : s.vI = 0 := by unfold bQ.vI; rw [if_pos hin, ht, if_neg h0]
    have hS : s.NS = ((t.lV []).KF (t.here.flatten.reverse.map Bz)).Ce := by unfold bQ.NS; rw [if_pos hin]; dsimp only; rw [ht, if_neg h0]
    exact ⟨by rw [hE], by rw [hS]; exact V.ji (s := ((t.lV []).KF (t.here.flatten.reverse.map Bz)).Ce) (UZ iT (abq _ _) (fun g hg => by cases hg)) dQ BL.f3.right.f3.right.f11.f11.f11.f11.f11.f8.f11.f10.f11.f11.f11⟩
end
end Go.Proofs.YtpdeedplgmbopaaGreatDoor
end
section
namespace Go.Proofs.YtpdeedplgmbopaaGreatDoor
open Go.RowKit
structure Jt where
  kd : Int
  a : Int
  b : Int
  back : Bool
  text : List Int
structure KQ where
  kd : Int
  a : Int
  b : Int
  back : Bool
  v : Value
  text : List Int
instance : Inhabited KQ := ⟨⟨0, 0, 0, false, .slice none 0 0, []⟩⟩
def KQ.enc (p : KQ) : List Value := [.int .i64 p.kd, .int .i64 p.a, .int .i64 p.b, .bool p.back, p.v]
theorem KQ.AB (p : KQ) : p.enc.length = 5 := rfl
def KQ.m (p : KQ) : Jt := ⟨p.kd, p.a, p.b, p.back, p.text⟩
def KQ.Reads (W : World) (p : KQ) : Prop := gB W .i32 p.v p.text ∧ p.text.length ≤ 35184372087808
def bQ.edit (s : bQ) (p : Jt) : bQ :=
  if p.kd = 0 then s.Gs p.text else
  if p.kd = 1 then s.DK p.text else
  if p.kd = 2 then s.nR p.a p.b [] else
  if p.kd = 3 then s.nR p.a p.b p.text else
  if p.kd = 4 then s.zG p.a p.b p.back else
  if p.kd = 5 then s.yu p.a p.b p.back else
  if p.kd = 6 then s.oI else
  if p.kd = 7 then s.ajh p.a else
  if p.kd = 8 then s.wK p.a else
  if p.kd = 9 then s.agG p.a else
  if p.kd = 10 then s.agH else
  if p.kd = 11 then s.vK else
  if p.kd = 17 then s.zH p.a else s
section
variable {w0 w : World} {F : HP} {e : Nat} {s : bQ} {v : Value} {p : Jt}
end
end Go.Proofs.YtpdeedplgmbopaaGreatDoor
end
