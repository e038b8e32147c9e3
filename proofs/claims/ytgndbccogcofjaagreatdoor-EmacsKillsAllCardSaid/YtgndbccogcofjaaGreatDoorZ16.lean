import Derived.Test.YtgndbccogcofjaaGreatDoorZ2
import Derived.Test.YtgndbccogcofjaaGreatDoorZ15
set_option linter.unusedSimpArgs false
set_option linter.unusedVariables false
/- Texts of mine, joined, their names in short: EdE. -/
section
namespace Go.Proofs.YtgndbccogcofjaaGreatDoor
open Go.RowKit
open _root_.Go.Proofs.Tryz
theorem um (s : aZ) (on : Bool) : (s.dI on).c.run = s.c.run := by unfold aZ.dI; split <;> rfl
theorem Dj (s : aZ) (on : Bool) : (s.dI on).cls = s.cls := by unfold aZ.dI; split <;> rfl
theorem gq {s s1 : aZ} {on run : Bool} (h1 : s1 = s.dZ) (hon : (s.typed && s.c.run) = on) (hrun : (s.typed && (!s.put.isEmpty || s.c.run)) = run) (h2 : (s1.dI on).cls ≠ 2) :
    s.iT = { s1.dI on with c := { (s1.dI on).c with run := run, last := (s1.dI on).cls, fr := 0, to := 0 } } := by
  subst h1 hon hrun
  have hc : (s.dZ.dI (s.typed && s.c.run)).cls = s.cls := by rw [Dj]; unfold aZ.dZ; split <;> rfl
  unfold aZ.iT
  rw [hc] at h2 ⊢
  dsimp only
  rw [if_pos h2]
theorem eY {s s1 : aZ} {on run : Bool} (h1 : s1 = s.dZ) (hon : (s.typed && s.c.run) = on) (hrun : (s.typed && (!s.put.isEmpty || s.c.run)) = run) (h2 : (s1.dI on).cls = 2) :
    s.iT = { s1.dI on with c := { (s1.dI on).c with run := run, last := (s1.dI on).cls } } := by
  subst h1 hon hrun
  have hc : (s.dZ.dI (s.typed && s.c.run)).cls = s.cls := by rw [Dj]; unfold aZ.dZ; split <;> rfl
  unfold aZ.iT
  rw [hc] at h2 ⊢
  dsimp only
  rw [if_neg (by omega)]
theorem pF {s : aZ} (h : jJ s) : jJ s.dZ := by
  obtain ⟨h1, h2, h3, h4, h5, h6⟩ := h
  unfold aZ.dZ
  split
  · exact ⟨h1, fun h => Bool.noConfusion h, h3, h4, h5, h6⟩
  · exact ⟨h1, fun h => Bool.noConfusion h, ⟨by show (-1 : Int) ≤ -1; decide, by show (-1 : Int) ≤ 1000000; decide⟩, h4, h5, h6⟩
theorem lK {l : List dU} : l.isEmpty = decide (l.length = 0) := by cases l <;> rfl
section
variable {w0 w : World} {F : HP} {e p : Nat} {s : aZ} {x : Int}
theorem IV (hin : s.dN = true) (H : aB w0 w (dw e s • F)) : fA prog 27 #[.pointer (some ⟨e, 0, none⟩), .int .i64 0] w fun v w' => v = .int .i64 0 ∧ aB w0 w' (dw e s.iT • F) := by
  have hpe : s.sH = 0 := by unfold aZ.sH; rw [if_pos hin]
  refine fU func27 ntmps27 ?_
  dsimp only [aY, Nat.reduceAdd]
  refine ay (ah (aU rfl (aA (aj (ay (ay (ah (aO rfl (bZ rfl func94 (jm H) ?_)))))))))
  rintro _ _ ⟨rfl, rfl⟩
  refine aU rfl (aA (aj (ay (ah (aO rfl (aW (dK rfl rfl) (aA (aj (aN rfl (fun h => by exfalso; (try simp only [aH] at h); exact h hpe) (fun h1 => ?_))))))))))
  (try simp only [aH] at h1)
  refine aP (aj (ay ?_))
  obtain ⟨qy, qA, qB, qC, qE, qF, qG, qH, oH, mP, mQ, mV, mW, mX, mY, mZ, ng, ni, ny, nC, dD, bG, fZ, dG⟩ := (H).AA
  refine ah (aO rfl (bP rfl (bg 16 underlying37 rfl sizeOf4 rfl (aG (aQ 16 (l' := [_, _, _, _, _, _, _, _, _, _, _, _, _, _, _, _, _, _, _, _, _, _, _, _, _, _, _, _, _, _, _, _, _, _]) dG sizeOf4 rfl rfl (by first | rfl | assumption) rfl rfl) ?_))))
  rintro _ w3 H3
  refine aA (aj (ay (ay (ah (aO rfl (bP rfl (bg 31 underlying37 rfl sizeOf4 rfl (dS underlying4 rfl (H3).get.2 rfl (aW (jS rfl) (gB rfl (fun h2 => ?_) (fun h2 => ?_)))))))))))
  · (try simp only [aH] at h2)
    have har : s.argues = false := by simpa using h2
    have hs1 : ({ s.sJ with dN := false } : aZ) = s.dZ := by unfold aZ.dZ; rw [if_neg (by simp [har])]
    refine bD (bD (fQ rfl rfl (aA (aj (wB (ah (aO rfl (aO rfl (aO rfl (bP rfl (bg 13 underlying37 rfl sizeOf4 rfl (aG (aQ 13 (l' := [_, _, _, _, _, _, _, _, _, _, _, _, _, _, _, _, _, _, _, _, _, _, _, _, _, _, _, _, _, _, _, _, _, _]) H3 sizeOf4 rfl rfl (by first | rfl | assumption) rfl rfl) ?_))))))))))))
    rintro _ w4 H4
    refine bP rfl (bg 14 underlying37 rfl sizeOf4 rfl (aG (aQ 14 (l' := [_, _, _, _, _, _, _, _, _, _, _, _, _, _, _, _, _, _, _, _, _, _, _, _, _, _, _, _, _, _, _, _, _, _]) H4 sizeOf4 rfl rfl (by first | rfl | assumption) rfl rfl) ?_))
    rintro _ w5 H5
    refine bP rfl (bg 15 underlying37 rfl sizeOf3 rfl (aG (aQ 15 (l' := [_, _, _, _, _, _, _, _, _, _, _, _, _, _, _, _, _, _, _, _, _, _, _, _, _, _, _, _, _, _, _, _, _, _]) H5 sizeOf3 rfl rfl (by first | rfl | assumption) rfl rfl) ?_))
    rintro _ w6 H6
    refine aA (aj (ay (ay (ah (aO rfl (aW (dK rfl rfl) (aA (aj (aN rfl (fun h => by exfalso; (try simp only [aH] at h); simp at h) (fun h3 => ?_))))))))))
    (try simp only [aH] at h3)
    refine aP (aj (ay ?_))
    have wV := H6.drew
    have eP := aB.kp (wV.f11.f11.f11.f11.f11.f11.f11.f11.f11.f11.f11)
    refine yQ [3, 9, 14] eP rfl (iE 0 rfl eP rfl (jF 1 rfl eP rfl (gG 2 rfl eP 28 underlying37 rfl sizeOf3 rfl (je 3 rfl eP (fun W hW => jE underlying3 rfl ((Kp.h hW)).get.2 rfl) (jc 4 rfl eP (fun _ => eX rfl rfl) ?_)))))
    refine GK 5 rfl rfl (by kernel_rfl) (by kernel_rfl) eP (oJ rfl) (fun h4 => ?_) (fun h4 => ?_)
    · (try simp only [aH] at h4)
      have hc3 : s.cls = 3 := h4
      refine kF 6 rfl rfl rfl (by kernel_rfl) (by kernel_rfl) eP (fun _ => AV rfl) (oJ rfl) ?_
      refine kF 7 rfl rfl rfl (by kernel_rfl) (by kernel_rfl) eP (fun _ => Ku rfl) (oJ rfl) ?_
      refine kF 8 rfl rfl rfl (by kernel_rfl) (by kernel_rfl) eP (fun _ => AZ 32 underlying37 rfl rfl sizeOf4 (by decide) rfl rfl) (oJ rfl) ?_
      refine zC 9 rfl rfl rfl (by kernel_rfl) (by kernel_rfl) eP (by decide) (fun W hW => pO (gI underlying4 rfl) rfl (fK ((Kp.h hW)).get.2 rfl)) (oJ rfl) ?_
      refine jc 10 rfl eP (fun _ => AX rfl rfl) (iE 11 rfl eP rfl (jF 12 rfl eP rfl (gG 13 rfl eP 33 underlying37 rfl sizeOf35 rfl (je 14 rfl eP (fun W hW => jE underlying35 rfl ((Kp.h hW)).get.2 rfl) (jc 15 rfl eP (fun _ => iH ((wV.f9).aT) underlying35 rfl) (jc 16 rfl eP (fun _ => dn rfl rfl) (jc 17 rfl eP (fun _ => fO rfl) (jc 18 rfl eP (fun _ => fO rfl) (pU (aj (ay (ah (aO rfl (aO rfl (gB rfl (fun h5 => ?_) (fun h5 => ?_))))))))))))))))
      · (try simp only [aH] at h5)
        have hwh : s.whole = true := h5
        have hty : s.typed = true := by unfold aZ.typed; rw [hc3, hwh]; rfl
        refine bf (aO rfl (bf (bP rfl (bf (bg 0 underlying37 rfl sizeOf32 rfl (bf (bg 10 underlying32 rfl sizeOf4 rfl (bf (dS underlying4 rfl (wV).get.2 rfl (fQ rfl rfl ?_))))))))))
        have hwo := ql (wV.f11)
        have VE := wV.f11.right
        have HW0 := aB.xA (c := s.was) (u := [mP, mQ, mV, mW, mX, mY, mZ, ng, ni, ny, nC]) VE hwo
        obtain ⟨s1, jC, Pv⟩ : ∃ s1, s1 = s.dZ ∧ aB w0 (w6.drew) (dw e s1 • F) := ⟨_, hs1, aB.dF (hs1 ▸ pF dD) bG HW0.f11.f11.f11.f11.f11.f11.f11.f11.f11.f11⟩
        have hr1 : s1.c.run = s.c.run := by rw [jC]; unfold aZ.dZ; split <;> rfl
        refine bZ rfl func96 (kL Pv) ?_
        rintro _ w8 H8
        obtain ⟨on, hon, HZ⟩ : ∃ on, (s.typed && s.c.run) = on ∧ aB w0 w8 (dw e (s1.dI on) • F) := ⟨_, by rw [hty]; rfl, H8⟩
        refine aA (aj (ay ?_))
        obtain ⟨qy, qA, qB, qC, qE, qF, qG, qH, oH, mP, mQ, mV, mW, mX, mY, mZ, ng, ni, ny, nC, dD, bG, fZ, dG⟩ := (HZ).AA
        refine ah (aO rfl (aO rfl (gB rfl (fun h6 => ?_) (fun h6 => ?_))))
        · (try simp only [aH] at h6)
          have hw2 : s.whole = true := h6
          refine bf (aO rfl (bf (gB rfl (fun h7 => ?_) (fun h7 => ?_))))
          · (try simp only [aH] at h7)
            have hrun : (s.typed && (!s.put.isEmpty || s.c.run)) = true := by first | exact absurd (hw2.symm.trans hwh) (by decide) | (rw [lK, decide_eq_false (show ¬ s.put.length = 0 by omega), hty]; rfl)
            refine bD (bD (bD (bD (bD (bf (fQ rfl rfl (fQ rfl rfl (bP rfl (bg 0 underlying37 rfl sizeOf32 rfl (bg 10 underlying32 rfl sizeOf4 rfl (aG (aQ 10 (l' := [_, _, _, _, _, _, _, _, _, _, _, _, _, _, _, _, _, _, _, _, _, _, _, _, _, _, _, _, _, _, _, _, _, _]) dG sizeOf4 rfl rfl (by first | rfl | assumption) rfl rfl) ?_)))))))))))
            rintro _ w10 mJ
            refine aA (aj (ay (ah (aO rfl (aO rfl (bP rfl (bg 28 underlying37 rfl sizeOf3 rfl (dS underlying3 rfl (mJ).get.2 rfl (bP rfl (bg 0 underlying37 rfl sizeOf32 rfl (bg 6 underlying32 rfl sizeOf3 rfl (aG (aQ 6 (l' := [_, _, _, _, _, _, _, _, _, _, _, _, _, _, _, _, _, _, _, _, _, _, _, _, _, _, _, _, _, _, _, _, _, _]) mJ sizeOf3 rfl rfl (by first | rfl | assumption) rfl rfl) ?_))))))))))))
            rintro _ He uO
            refine aA (aj (ay (ay (ah (aO rfl (bP rfl (bg 28 underlying37 rfl sizeOf3 rfl (dS underlying3 rfl (uO).get.2 rfl (aW (dK rfl rfl) (aA (aj (aN rfl (fun h8 => ?_) (fun h8 => ?_)))))))))))))
            · (try simp only [aH] at h8)
              have nS := gq jC hon hrun h8
              refine ah (aO rfl (aO rfl (bP rfl (bg 0 underlying37 rfl sizeOf32 rfl (bg 7 underlying32 rfl sizeOf3 rfl (aG (aQ 7 (l' := [_, _, _, _, _, _, _, _, _, _, _, _, _, _, _, _, _, _, _, _, _, _, _, _, _, _, _, _, _, _, _, _, _, _]) uO sizeOf3 rfl rfl (by first | rfl | assumption) rfl rfl) ?_))))))
              rintro _ w12 wE
              refine bP rfl (bg 0 underlying37 rfl sizeOf32 rfl (bg 8 underlying32 rfl sizeOf3 rfl (aG (aQ 8 (l' := [_, _, _, _, _, _, _, _, _, _, _, _, _, _, _, _, _, _, _, _, _, _, _, _, _, _, _, _, _, _, _, _, _, _]) wE sizeOf3 rfl rfl (by first | rfl | assumption) rfl rfl) ?_)))
              rintro _ ND vY
              refine aA (aj (ay (ah (aU rfl (aA (aj (aJ (aI (.inl rfl) results27 rfl ?_))))))))
              refine ⟨rfl, ?_⟩
              first
                | exact absurd (hw2.symm.trans hwh) (by decide)
                | exact absurd (hwh.symm.trans hw2) (by decide)
                | (rw [nS]; exact aB.dF dD bG vY.f11.f11.f11.f11.f11.f11.f11.f11.f11.f11.f11)
            · (try simp only [aH] at h8)
              have nS := eY jC hon hrun h8
              refine aP (aj (ay (ah (aU rfl (aA (aj (aJ (aI (.inl rfl) results27 rfl ?_))))))))
              refine ⟨rfl, ?_⟩
              first
                | exact absurd (hw2.symm.trans hwh) (by decide)
                | exact absurd (hwh.symm.trans hw2) (by decide)
                | (rw [nS]; exact aB.dF dD bG uO.f11.f11.f11.f11.f11.f11.f11.f11.f11.f11.f11)
          · (try simp only [aH] at h7)
            have hrun : (s.typed && (!s.put.isEmpty || s.c.run)) = (s1.dI on).c.run := by first | exact absurd (hw2.symm.trans hwh) (by decide) | (rw [lK, decide_eq_true (show s.put.length = 0 by omega), hty, um, hr1]; rfl)
            refine bf (aO rfl (bf (bP rfl (bf (bg 0 underlying37 rfl sizeOf32 rfl (bf (bg 10 underlying32 rfl sizeOf4 rfl (bf (dS underlying4 rfl (dG).get.2 rfl (bf (fG rfl rfl (fQ rfl rfl (bP rfl (bg 0 underlying37 rfl sizeOf32 rfl (bg 10 underlying32 rfl sizeOf4 rfl (aG (aQ 10 (l' := [_, _, _, _, _, _, _, _, _, _, _, _, _, _, _, _, _, _, _, _, _, _, _, _, _, _, _, _, _, _, _, _, _, _]) dG sizeOf4 rfl rfl (by first | rfl | assumption) rfl rfl) ?_))))))))))))))))
            rintro _ Me yc
            refine aA (aj (ay (ah (aO rfl (aO rfl (bP rfl (bg 28 underlying37 rfl sizeOf3 rfl (dS underlying3 rfl (yc).get.2 rfl (bP rfl (bg 0 underlying37 rfl sizeOf32 rfl (bg 6 underlying32 rfl sizeOf3 rfl (aG (aQ 6 (l' := [_, _, _, _, _, _, _, _, _, _, _, _, _, _, _, _, _, _, _, _, _, _, _, _, _, _, _, _, _, _, _, _, _, _]) yc sizeOf3 rfl rfl (by first | rfl | assumption) rfl rfl) ?_))))))))))))
            rintro _ Oe xO
            refine aA (aj (ay (ay (ah (aO rfl (bP rfl (bg 28 underlying37 rfl sizeOf3 rfl (dS underlying3 rfl (xO).get.2 rfl (aW (dK rfl rfl) (aA (aj (aN rfl (fun h9 => ?_) (fun h9 => ?_)))))))))))))
            · (try simp only [aH] at h9)
              have nS := gq jC hon hrun h9
              refine ah (aO rfl (aO rfl (bP rfl (bg 0 underlying37 rfl sizeOf32 rfl (bg 7 underlying32 rfl sizeOf3 rfl (aG (aQ 7 (l' := [_, _, _, _, _, _, _, _, _, _, _, _, _, _, _, _, _, _, _, _, _, _, _, _, _, _, _, _, _, _, _, _, _, _]) xO sizeOf3 rfl rfl (by first | rfl | assumption) rfl rfl) ?_))))))
              rintro _ w16 tJ
              refine bP rfl (bg 0 underlying37 rfl sizeOf32 rfl (bg 8 underlying32 rfl sizeOf3 rfl (aG (aQ 8 (l' := [_, _, _, _, _, _, _, _, _, _, _, _, _, _, _, _, _, _, _, _, _, _, _, _, _, _, _, _, _, _, _, _, _, _]) tJ sizeOf3 rfl rfl (by first | rfl | assumption) rfl rfl) ?_)))
              rintro _ Uw Fj
              refine aA (aj (ay (ah (aU rfl (aA (aj (aJ (aI (.inl rfl) results27 rfl ?_))))))))
              refine ⟨rfl, ?_⟩
              first
                | exact absurd (hw2.symm.trans hwh) (by decide)
                | exact absurd (hwh.symm.trans hw2) (by decide)
                | (rw [nS]; exact aB.dF dD bG Fj.f11.f11.f11.f11.f11.f11.f11.f11.f11.f11.f11)
            · (try simp only [aH] at h9)
              have nS := eY jC hon hrun h9
              refine aP (aj (ay (ah (aU rfl (aA (aj (aJ (aI (.inl rfl) results27 rfl ?_))))))))
              refine ⟨rfl, ?_⟩
              first
                | exact absurd (hw2.symm.trans hwh) (by decide)
                | exact absurd (hwh.symm.trans hw2) (by decide)
                | (rw [nS]; exact aB.dF dD bG xO.f11.f11.f11.f11.f11.f11.f11.f11.f11.f11.f11)
        · (try simp only [aH] at h6)
          have hw2 : s.whole = false := by simpa using h6
          have hrun : (s.typed && (!s.put.isEmpty || s.c.run)) = false := by first | exact absurd (hwh.symm.trans hw2) (by decide) | (rw [hty]; rfl)
          refine bD (bD (lq (lq (lq (lq (lq (bD (fG rfl rfl (bP rfl (bg 0 underlying37 rfl sizeOf32 rfl (bg 10 underlying32 rfl sizeOf4 rfl (aG (aQ 10 (l' := [_, _, _, _, _, _, _, _, _, _, _, _, _, _, _, _, _, _, _, _, _, _, _, _, _, _, _, _, _, _, _, _, _, _]) dG sizeOf4 rfl rfl (by first | rfl | assumption) rfl rfl) ?_))))))))))))
          rintro _ Rx Ei
          refine aA (aj (ay (ah (aO rfl (aO rfl (bP rfl (bg 28 underlying37 rfl sizeOf3 rfl (dS underlying3 rfl (Ei).get.2 rfl (bP rfl (bg 0 underlying37 rfl sizeOf32 rfl (bg 6 underlying32 rfl sizeOf3 rfl (aG (aQ 6 (l' := [_, _, _, _, _, _, _, _, _, _, _, _, _, _, _, _, _, _, _, _, _, _, _, _, _, _, _, _, _, _, _, _, _, _]) Ei sizeOf3 rfl rfl (by first | rfl | assumption) rfl rfl) ?_))))))))))))
          rintro _ RF BF
          refine aA (aj (ay (ay (ah (aO rfl (bP rfl (bg 28 underlying37 rfl sizeOf3 rfl (dS underlying3 rfl (BF).get.2 rfl (aW (dK rfl rfl) (aA (aj (aN rfl (fun h10 => ?_) (fun h10 => ?_)))))))))))))
          · (try simp only [aH] at h10)
            have nS := gq jC hon hrun h10
            refine ah (aO rfl (aO rfl (bP rfl (bg 0 underlying37 rfl sizeOf32 rfl (bg 7 underlying32 rfl sizeOf3 rfl (aG (aQ 7 (l' := [_, _, _, _, _, _, _, _, _, _, _, _, _, _, _, _, _, _, _, _, _, _, _, _, _, _, _, _, _, _, _, _, _, _]) BF sizeOf3 rfl rfl (by first | rfl | assumption) rfl rfl) ?_))))))
            rintro _ Ry xM
            refine bP rfl (bg 0 underlying37 rfl sizeOf32 rfl (bg 8 underlying32 rfl sizeOf3 rfl (aG (aQ 8 (l' := [_, _, _, _, _, _, _, _, _, _, _, _, _, _, _, _, _, _, _, _, _, _, _, _, _, _, _, _, _, _, _, _, _, _]) xM sizeOf3 rfl rfl (by first | rfl | assumption) rfl rfl) ?_)))
            rintro _ Ti oM
            refine aA (aj (ay (ah (aU rfl (aA (aj (aJ (aI (.inl rfl) results27 rfl ?_))))))))
            refine ⟨rfl, ?_⟩
            first
              | exact absurd (hw2.symm.trans hwh) (by decide)
              | exact absurd (hwh.symm.trans hw2) (by decide)
              | (rw [nS]; exact aB.dF dD bG oM.f11.f11.f11.f11.f11.f11.f11.f11.f11.f11.f11)
          · (try simp only [aH] at h10)
            have nS := eY jC hon hrun h10
            refine aP (aj (ay (ah (aU rfl (aA (aj (aJ (aI (.inl rfl) results27 rfl ?_))))))))
            refine ⟨rfl, ?_⟩
            first
              | exact absurd (hw2.symm.trans hwh) (by decide)
              | exact absurd (hwh.symm.trans hw2) (by decide)
              | (rw [nS]; exact aB.dF dD bG BF.f11.f11.f11.f11.f11.f11.f11.f11.f11.f11.f11)
      · (try simp only [aH] at h5)
        have hwh : s.whole = false := by simpa using h5
        have hty : s.typed = false := by unfold aZ.typed; rw [hc3, hwh]; rfl
        have hrun : (s.typed && (!s.put.isEmpty || s.c.run)) = false := by rw [hty]; rfl
        refine bD (bD (bD (bD (bD (fG rfl rfl ?_)))))
        have hwo := ql (wV.f11)
        have F6 := wV.f11.right
        have HW0 := aB.xA (c := s.was) (u := [mP, mQ, mV, mW, mX, mY, mZ, ng, ni, ny, nC]) F6 hwo
        obtain ⟨s1, jC, Pv⟩ : ∃ s1, s1 = s.dZ ∧ aB w0 (w6.drew) (dw e s1 • F) := ⟨_, hs1, aB.dF (hs1 ▸ pF dD) bG HW0.f11.f11.f11.f11.f11.f11.f11.f11.f11.f11⟩
        have hr1 : s1.c.run = s.c.run := by rw [jC]; unfold aZ.dZ; split <;> rfl
        refine bZ rfl func96 (kL Pv) ?_
        rintro _ RG yR
        obtain ⟨on, hon, HZ⟩ : ∃ on, (s.typed && s.c.run) = on ∧ aB w0 RG (dw e (s1.dI on) • F) := ⟨_, by rw [hty]; rfl, yR⟩
        refine aA (aj (ay ?_))
        obtain ⟨qy, qA, qB, qC, qE, qF, qG, qH, oH, mP, mQ, mV, mW, mX, mY, mZ, ng, ni, ny, nC, dD, bG, fZ, dG⟩ := (HZ).AA
        refine ah (aO rfl (aO rfl (gB rfl (fun h11 => ?_) (fun h11 => ?_))))
        · (try simp only [aH] at h11)
          have hw2 : s.whole = true := h11
          refine bf (aO rfl (bf (gB rfl (fun h12 => ?_) (fun h12 => ?_))))
          · (try simp only [aH] at h12)
            have hrun : (s.typed && (!s.put.isEmpty || s.c.run)) = true := by first | exact absurd (hw2.symm.trans hwh) (by decide) | (rw [lK, decide_eq_false (show ¬ s.put.length = 0 by omega), hty]; rfl)
            refine bD (bD (bD (bD (bD (bf (fQ rfl rfl (fQ rfl rfl (bP rfl (bg 0 underlying37 rfl sizeOf32 rfl (bg 10 underlying32 rfl sizeOf4 rfl (aG (aQ 10 (l' := [_, _, _, _, _, _, _, _, _, _, _, _, _, _, _, _, _, _, _, _, _, _, _, _, _, _, _, _, _, _, _, _, _, _]) dG sizeOf4 rfl rfl (by first | rfl | assumption) rfl rfl) ?_)))))))))))
            rintro _ WU KG
            refine aA (aj (ay (ah (aO rfl (aO rfl (bP rfl (bg 28 underlying37 rfl sizeOf3 rfl (dS underlying3 rfl (KG).get.2 rfl (bP rfl (bg 0 underlying37 rfl sizeOf32 rfl (bg 6 underlying32 rfl sizeOf3 rfl (aG (aQ 6 (l' := [_, _, _, _, _, _, _, _, _, _, _, _, _, _, _, _, _, _, _, _, _, _, _, _, _, _, _, _, _, _, _, _, _, _]) KG sizeOf3 rfl rfl (by first | rfl | assumption) rfl rfl) ?_))))))))))))
            rintro _ Vg MF
            refine aA (aj (ay (ay (ah (aO rfl (bP rfl (bg 28 underlying37 rfl sizeOf3 rfl (dS underlying3 rfl (MF).get.2 rfl (aW (dK rfl rfl) (aA (aj (aN rfl (fun h13 => ?_) (fun h13 => ?_)))))))))))))
            · (try simp only [aH] at h13)
              have nS := gq jC hon hrun h13
              refine ah (aO rfl (aO rfl (bP rfl (bg 0 underlying37 rfl sizeOf32 rfl (bg 7 underlying32 rfl sizeOf3 rfl (aG (aQ 7 (l' := [_, _, _, _, _, _, _, _, _, _, _, _, _, _, _, _, _, _, _, _, _, _, _, _, _, _, _, _, _, _, _, _, _, _]) MF sizeOf3 rfl rfl (by first | rfl | assumption) rfl rfl) ?_))))))
              rintro _ Vh PZ
              refine bP rfl (bg 0 underlying37 rfl sizeOf32 rfl (bg 8 underlying32 rfl sizeOf3 rfl (aG (aQ 8 (l' := [_, _, _, _, _, _, _, _, _, _, _, _, _, _, _, _, _, _, _, _, _, _, _, _, _, _, _, _, _, _, _, _, _, _]) PZ sizeOf3 rfl rfl (by first | rfl | assumption) rfl rfl) ?_)))
              rintro _ WV P5
              refine aA (aj (ay (ah (aU rfl (aA (aj (aJ (aI (.inl rfl) results27 rfl ?_))))))))
              refine ⟨rfl, ?_⟩
              first
                | exact absurd (hw2.symm.trans hwh) (by decide)
                | exact absurd (hwh.symm.trans hw2) (by decide)
                | (rw [nS]; exact aB.dF dD bG P5.f11.f11.f11.f11.f11.f11.f11.f11.f11.f11.f11)
            · (try simp only [aH] at h13)
              have nS := eY jC hon hrun h13
              refine aP (aj (ay (ah (aU rfl (aA (aj (aJ (aI (.inl rfl) results27 rfl ?_))))))))
              refine ⟨rfl, ?_⟩
              first
                | exact absurd (hw2.symm.trans hwh) (by decide)
                | exact absurd (hwh.symm.trans hw2) (by decide)
                | (rw [nS]; exact aB.dF dD bG MF.f11.f11.f11.f11.f11.f11.f11.f11.f11.f11.f11)
          · (try simp only [aH] at h12)
            have hrun : (s.typed && (!s.put.isEmpty || s.c.run)) = (s1.dI on).c.run := by first | exact absurd (hw2.symm.trans hwh) (by decide) | (rw [lK, decide_eq_true (show s.put.length = 0 by omega), hty, um, hr1]; rfl)
            refine bf (aO rfl (bf (bP rfl (bf (bg 0 underlying37 rfl sizeOf32 rfl (bf (bg 10 underlying32 rfl sizeOf4 rfl (bf (dS underlying4 rfl (dG).get.2 rfl (bf (fG rfl rfl (fQ rfl rfl (bP rfl (bg 0 underlying37 rfl sizeOf32 rfl (bg 10 underlying32 rfl sizeOf4 rfl (aG (aQ 10 (l' := [_, _, _, _, _, _, _, _, _, _, _, _, _, _, _, _, _, _, _, _, _, _, _, _, _, _, _, _, _, _, _, _, _, _]) dG sizeOf4 rfl rfl (by first | rfl | assumption) rfl rfl) ?_))))))))))))))))
            rintro _ ZA Tj
            refine aA (aj (ay (ah (aO rfl (aO rfl (bP rfl (bg 28 underlying37 rfl sizeOf3 rfl (dS underlying3 rfl (Tj).get.2 rfl (bP rfl (bg 0 underlying37 rfl sizeOf32 rfl (bg 6 underlying32 rfl sizeOf3 rfl (aG (aQ 6 (l' := [_, _, _, _, _, _, _, _, _, _, _, _, _, _, _, _, _, _, _, _, _, _, _, _, _, _, _, _, _, _, _, _, _, _]) Tj sizeOf3 rfl rfl (by first | rfl | assumption) rfl rfl) ?_))))))))))))
            rintro _ Xw Og
            refine aA (aj (ay (ay (ah (aO rfl (bP rfl (bg 28 underlying37 rfl sizeOf3 rfl (dS underlying3 rfl (Og).get.2 rfl (aW (dK rfl rfl) (aA (aj (aN rfl (fun h14 => ?_) (fun h14 => ?_)))))))))))))
            · (try simp only [aH] at h14)
              have nS := gq jC hon hrun h14
              refine ah (aO rfl (aO rfl (bP rfl (bg 0 underlying37 rfl sizeOf32 rfl (bg 7 underlying32 rfl sizeOf3 rfl (aG (aQ 7 (l' := [_, _, _, _, _, _, _, _, _, _, _, _, _, _, _, _, _, _, _, _, _, _, _, _, _, _, _, _, _, _, _, _, _, _]) Og sizeOf3 rfl rfl (by first | rfl | assumption) rfl rfl) ?_))))))
              rintro _ Vj Jj
              refine bP rfl (bg 0 underlying37 rfl sizeOf32 rfl (bg 8 underlying32 rfl sizeOf3 rfl (aG (aQ 8 (l' := [_, _, _, _, _, _, _, _, _, _, _, _, _, _, _, _, _, _, _, _, _, _, _, _, _, _, _, _, _, _, _, _, _, _]) Jj sizeOf3 rfl rfl (by first | rfl | assumption) rfl rfl) ?_)))
              rintro _ w32 NG
              refine aA (aj (ay (ah (aU rfl (aA (aj (aJ (aI (.inl rfl) results27 rfl ?_))))))))
              refine ⟨rfl, ?_⟩
              first
                | exact absurd (hw2.symm.trans hwh) (by decide)
                | exact absurd (hwh.symm.trans hw2) (by decide)
                | (rw [nS]; exact aB.dF dD bG NG.f11.f11.f11.f11.f11.f11.f11.f11.f11.f11.f11)
            · (try simp only [aH] at h14)
              have nS := eY jC hon hrun h14
              refine aP (aj (ay (ah (aU rfl (aA (aj (aJ (aI (.inl rfl) results27 rfl ?_))))))))
              refine ⟨rfl, ?_⟩
              first
                | exact absurd (hw2.symm.trans hwh) (by decide)
                | exact absurd (hwh.symm.trans hw2) (by decide)
                | (rw [nS]; exact aB.dF dD bG Og.f11.f11.f11.f11.f11.f11.f11.f11.f11.f11.f11)
        · (try simp only [aH] at h11)
          have hw2 : s.whole = false := by simpa using h11
          have hrun : (s.typed && (!s.put.isEmpty || s.c.run)) = false := by first | exact absurd (hwh.symm.trans hw2) (by decide) | (rw [hty]; rfl)
          refine bD (bD (lq (lq (lq (lq (lq (bD (fG rfl rfl (bP rfl (bg 0 underlying37 rfl sizeOf32 rfl (bg 10 underlying32 rfl sizeOf4 rfl (aG (aQ 10 (l' := [_, _, _, _, _, _, _, _, _, _, _, _, _, _, _, _, _, _, _, _, _, _, _, _, _, _, _, _, _, _, _, _, _, _]) dG sizeOf4 rfl rfl (by first | rfl | assumption) rfl rfl) ?_))))))))))))
          rintro _ WW Jk
          refine aA (aj (ay (ah (aO rfl (aO rfl (bP rfl (bg 28 underlying37 rfl sizeOf3 rfl (dS underlying3 rfl (Jk).get.2 rfl (bP rfl (bg 0 underlying37 rfl sizeOf32 rfl (bg 6 underlying32 rfl sizeOf3 rfl (aG (aQ 6 (l' := [_, _, _, _, _, _, _, _, _, _, _, _, _, _, _, _, _, _, _, _, _, _, _, _, _, _, _, _, _, _, _, _, _, _]) Jk sizeOf3 rfl rfl (by first | rfl | assumption) rfl rfl) ?_))))))))))))
          rintro _ Xx P6
          refine aA (aj (ay (ay (ah (aO rfl (bP rfl (bg 28 underlying37 rfl sizeOf3 rfl (dS underlying3 rfl (P6).get.2 rfl (aW (dK rfl rfl) (aA (aj (aN rfl (fun h15 => ?_) (fun h15 => ?_)))))))))))))
          · (try simp only [aH] at h15)
            have nS := gq jC hon hrun h15
            refine ah (aO rfl (aO rfl (bP rfl (bg 0 underlying37 rfl sizeOf32 rfl (bg 7 underlying32 rfl sizeOf3 rfl (aG (aQ 7 (l' := [_, _, _, _, _, _, _, _, _, _, _, _, _, _, _, _, _, _, _, _, _, _, _, _, _, _, _, _, _, _, _, _, _, _]) P6 sizeOf3 rfl rfl (by first | rfl | assumption) rfl rfl) ?_))))))
            rintro _ ZB Ux
            refine bP rfl (bg 0 underlying37 rfl sizeOf32 rfl (bg 8 underlying32 rfl sizeOf3 rfl (aG (aQ 8 (l' := [_, _, _, _, _, _, _, _, _, _, _, _, _, _, _, _, _, _, _, _, _, _, _, _, _, _, _, _, _, _, _, _, _, _]) Ux sizeOf3 rfl rfl (by first | rfl | assumption) rfl rfl) ?_)))
            rintro _ ZC Vk
            refine aA (aj (ay (ah (aU rfl (aA (aj (aJ (aI (.inl rfl) results27 rfl ?_))))))))
            refine ⟨rfl, ?_⟩
            first
              | exact absurd (hw2.symm.trans hwh) (by decide)
              | exact absurd (hwh.symm.trans hw2) (by decide)
              | (rw [nS]; exact aB.dF dD bG Vk.f11.f11.f11.f11.f11.f11.f11.f11.f11.f11.f11)
          · (try simp only [aH] at h15)
            have nS := eY jC hon hrun h15
            refine aP (aj (ay (ah (aU rfl (aA (aj (aJ (aI (.inl rfl) results27 rfl ?_))))))))
            refine ⟨rfl, ?_⟩
            first
              | exact absurd (hw2.symm.trans hwh) (by decide)
              | exact absurd (hwh.symm.trans hw2) (by decide)
              | (rw [nS]; exact aB.dF dD bG P6.f11.f11.f11.f11.f11.f11.f11.f11.f11.f11.f11)
    · (try simp only [aH] at h4)
      have hty : s.typed = false := by unfold aZ.typed; rw [beq_false_of_ne h4]; rfl
      have hrun : (s.typed && (!s.put.isEmpty || s.c.run)) = false := by rw [hty]; rfl
      refine zD 6 rfl rfl rfl rfl (by kernel_rfl) (by kernel_rfl) eP (oJ rfl) ?_
      refine zD 7 rfl rfl rfl rfl (by kernel_rfl) (by kernel_rfl) eP (oJ rfl) ?_
      refine zD 8 rfl rfl rfl rfl (by kernel_rfl) (by kernel_rfl) eP (oJ rfl) ?_
      refine zD 9 rfl rfl rfl rfl (by kernel_rfl) (by kernel_rfl) eP (oJ rfl) ?_
      refine jc 10 rfl eP (fun _ => AY rfl rfl) (iE 11 rfl eP rfl (jF 12 rfl eP rfl (gG 13 rfl eP 33 underlying37 rfl sizeOf35 rfl (je 14 rfl eP (fun W hW => jE underlying35 rfl ((Kp.h hW)).get.2 rfl) (jc 15 rfl eP (fun _ => iH ((wV.f9).aT) underlying35 rfl) (jc 16 rfl eP (fun _ => dn rfl rfl) (jc 17 rfl eP (fun _ => fO rfl) (jc 18 rfl eP (fun _ => fO rfl) (pU (aj (ay (ah (aO rfl (aO rfl (aO rfl (bD (bD (bD (bD (bD (fG rfl rfl ?_)))))))))))))))))))))
      have hwo := ql (wV.f11)
      have Uh := wV.f11.right
      have HW0 := aB.xA (c := s.was) (u := [mP, mQ, mV, mW, mX, mY, mZ, ng, ni, ny, nC]) Uh hwo
      obtain ⟨s1, jC, Pv⟩ : ∃ s1, s1 = s.dZ ∧ aB w0 (w6.drew) (dw e s1 • F) := ⟨_, hs1, aB.dF (hs1 ▸ pF dD) bG HW0.f11.f11.f11.f11.f11.f11.f11.f11.f11.f11⟩
      have hr1 : s1.c.run = s.c.run := by rw [jC]; unfold aZ.dZ; split <;> rfl
      refine bZ rfl func96 (kL Pv) ?_
      rintro _ Vl Tn
      obtain ⟨on, hon, HZ⟩ : ∃ on, (s.typed && s.c.run) = on ∧ aB w0 Vl (dw e (s1.dI on) • F) := ⟨_, by rw [hty]; rfl, Tn⟩
      refine aA (aj (ay ?_))
      obtain ⟨qy, qA, qB, qC, qE, qF, qG, qH, oH, mP, mQ, mV, mW, mX, mY, mZ, ng, ni, ny, nC, dD, bG, fZ, dG⟩ := (HZ).AA
      refine ah (aO rfl (aO rfl (aO rfl (bD (bD (lq (lq (lq (lq (lq (bD (fG rfl rfl (bP rfl (bg 0 underlying37 rfl sizeOf32 rfl (bg 10 underlying32 rfl sizeOf4 rfl (aG (aQ 10 (l' := [_, _, _, _, _, _, _, _, _, _, _, _, _, _, _, _, _, _, _, _, _, _, _, _, _, _, _, _, _, _, _, _, _, _]) dG sizeOf4 rfl rfl (by first | rfl | assumption) rfl rfl) ?_))))))))))))))))
      rintro _ w40 WY
      refine aA (aj (ay (ah (aO rfl (aO rfl (bP rfl (bg 28 underlying37 rfl sizeOf3 rfl (dS underlying3 rfl (WY).get.2 rfl (bP rfl (bg 0 underlying37 rfl sizeOf32 rfl (bg 6 underlying32 rfl sizeOf3 rfl (aG (aQ 6 (l' := [_, _, _, _, _, _, _, _, _, _, _, _, _, _, _, _, _, _, _, _, _, _, _, _, _, _, _, _, _, _, _, _, _, _]) WY sizeOf3 rfl rfl (by first | rfl | assumption) rfl rfl) ?_))))))))))))
      rintro _ ZF RH
      refine aA (aj (ay (ay (ah (aO rfl (bP rfl (bg 28 underlying37 rfl sizeOf3 rfl (dS underlying3 rfl (RH).get.2 rfl (aW (dK rfl rfl) (aA (aj (aN rfl (fun h16 => ?_) (fun h16 => ?_)))))))))))))
      · (try simp only [aH] at h16)
        have nS := gq jC hon hrun h16
        refine ah (aO rfl (aO rfl (bP rfl (bg 0 underlying37 rfl sizeOf32 rfl (bg 7 underlying32 rfl sizeOf3 rfl (aG (aQ 7 (l' := [_, _, _, _, _, _, _, _, _, _, _, _, _, _, _, _, _, _, _, _, _, _, _, _, _, _, _, _, _, _, _, _, _, _]) RH sizeOf3 rfl rfl (by first | rfl | assumption) rfl rfl) ?_))))))
        rintro _ ZG Uy
        refine bP rfl (bg 0 underlying37 rfl sizeOf32 rfl (bg 8 underlying32 rfl sizeOf3 rfl (aG (aQ 8 (l' := [_, _, _, _, _, _, _, _, _, _, _, _, _, _, _, _, _, _, _, _, _, _, _, _, _, _, _, _, _, _, _, _, _, _]) Uy sizeOf3 rfl rfl (by first | rfl | assumption) rfl rfl) ?_)))
        rintro _ Xz Uz
        refine aA (aj (ay (ah (aU rfl (aA (aj (aJ (aI (.inl rfl) results27 rfl ?_))))))))
        refine ⟨rfl, ?_⟩
        first
          | exact absurd (hw2.symm.trans hwh) (by decide)
          | exact absurd (hwh.symm.trans hw2) (by decide)
          | (rw [nS]; exact aB.dF dD bG Uz.f11.f11.f11.f11.f11.f11.f11.f11.f11.f11.f11)
      · (try simp only [aH] at h16)
        have nS := eY jC hon hrun h16
        refine aP (aj (ay (ah (aU rfl (aA (aj (aJ (aI (.inl rfl) results27 rfl ?_))))))))
        refine ⟨rfl, ?_⟩
        first
          | exact absurd (hw2.symm.trans hwh) (by decide)
          | exact absurd (hwh.symm.trans hw2) (by decide)
          | (rw [nS]; exact aB.dF dD bG RH.f11.f11.f11.f11.f11.f11.f11.f11.f11.f11.f11)
  · (try simp only [aH] at h2)
    have har : s.argues = true := by simpa using h2
    have hs1 : ({ s with dN := false } : aZ) = s.dZ := by unfold aZ.dZ; rw [if_pos har]
    refine bf (aO rfl (bf (aW (dK rfl rfl) (fG rfl rfl (aA (aj (aN rfl (fun h => by exfalso; (try simp only [aH] at h); simp at h) (fun h17 => ?_))))))))
    (try simp only [aH] at h17)
    refine aP (aj (ay (ay (ah (aO rfl (aW (dK rfl rfl) (aA (aj (aN rfl (fun h => by exfalso; (try simp only [aH] at h); simp at h) (fun h18 => ?_))))))))))
    (try simp only [aH] at h18)
    refine aP (aj (ay ?_))
    have rE := H3.drew
    have dL := aB.kp (rE.f11.f11.f11.f11.f11.f11.f11.f11.f11.f11.f11)
    refine yQ [3, 9, 14] dL rfl (iE 0 rfl dL rfl (jF 1 rfl dL rfl (gG 2 rfl dL 28 underlying37 rfl sizeOf3 rfl (je 3 rfl dL (fun W hW => jE underlying3 rfl ((Kp.h hW)).get.2 rfl) (jc 4 rfl dL (fun _ => eX rfl rfl) ?_)))))
    refine GK 5 rfl rfl (by kernel_rfl) (by kernel_rfl) dL (oJ rfl) (fun h19 => ?_) (fun h19 => ?_)
    · (try simp only [aH] at h19)
      have hc3 : s.cls = 3 := h19
      refine kF 6 rfl rfl rfl (by kernel_rfl) (by kernel_rfl) dL (fun _ => AV rfl) (oJ rfl) ?_
      refine kF 7 rfl rfl rfl (by kernel_rfl) (by kernel_rfl) dL (fun _ => Ku rfl) (oJ rfl) ?_
      refine kF 8 rfl rfl rfl (by kernel_rfl) (by kernel_rfl) dL (fun _ => AZ 32 underlying37 rfl rfl sizeOf4 (by decide) rfl rfl) (oJ rfl) ?_
      refine zC 9 rfl rfl rfl (by kernel_rfl) (by kernel_rfl) dL (by decide) (fun W hW => pO (gI underlying4 rfl) rfl (fK ((Kp.h hW)).get.2 rfl)) (oJ rfl) ?_
      refine jc 10 rfl dL (fun _ => AX rfl rfl) (iE 11 rfl dL rfl (jF 12 rfl dL rfl (gG 13 rfl dL 33 underlying37 rfl sizeOf35 rfl (je 14 rfl dL (fun W hW => jE underlying35 rfl ((Kp.h hW)).get.2 rfl) (jc 15 rfl dL (fun _ => iH ((rE.f9).aT) underlying35 rfl) (jc 16 rfl dL (fun _ => dn rfl rfl) (jc 17 rfl dL (fun _ => fO rfl) (jc 18 rfl dL (fun _ => fO rfl) (pU (aj (ay (ah (aO rfl (aO rfl (gB rfl (fun h20 => ?_) (fun h20 => ?_))))))))))))))))
      · (try simp only [aH] at h20)
        have hwh : s.whole = true := h20
        have hty : s.typed = true := by unfold aZ.typed; rw [hc3, hwh]; rfl
        refine bf (aO rfl (bf (bP rfl (bf (bg 0 underlying37 rfl sizeOf32 rfl (bf (bg 10 underlying32 rfl sizeOf4 rfl (bf (dS underlying4 rfl (rE).get.2 rfl (fQ rfl rfl ?_))))))))))
        have hwo := ql (rE.f11)
        have Zm := rE.f11.right
        have HW0 := aB.xA (c := s.was) (u := [mP, mQ, mV, mW, mX, mY, mZ, ng, ni, ny, nC]) Zm hwo
        obtain ⟨s1, jC, Pv⟩ : ∃ s1, s1 = s.dZ ∧ aB w0 (w3.drew) (dw e s1 • F) := ⟨_, hs1, aB.dF (hs1 ▸ pF dD) bG HW0.f11.f11.f11.f11.f11.f11.f11.f11.f11.f11⟩
        have hr1 : s1.c.run = s.c.run := by rw [jC]; unfold aZ.dZ; split <;> rfl
        refine bZ rfl func96 (kL Pv) ?_
        rintro _ WZ RI
        obtain ⟨on, hon, HZ⟩ : ∃ on, (s.typed && s.c.run) = on ∧ aB w0 WZ (dw e (s1.dI on) • F) := ⟨_, by rw [hty]; rfl, RI⟩
        refine aA (aj (ay ?_))
        obtain ⟨qy, qA, qB, qC, qE, qF, qG, qH, oH, mP, mQ, mV, mW, mX, mY, mZ, ng, ni, ny, nC, dD, bG, fZ, dG⟩ := (HZ).AA
        refine ah (aO rfl (aO rfl (gB rfl (fun h21 => ?_) (fun h21 => ?_))))
        · (try simp only [aH] at h21)
          have hw2 : s.whole = true := h21
          refine bf (aO rfl (bf (gB rfl (fun h22 => ?_) (fun h22 => ?_))))
          · (try simp only [aH] at h22)
            have hrun : (s.typed && (!s.put.isEmpty || s.c.run)) = true := by first | exact absurd (hw2.symm.trans hwh) (by decide) | (rw [lK, decide_eq_false (show ¬ s.put.length = 0 by omega), hty]; rfl)
            refine bD (bD (bD (bD (bD (bf (fQ rfl rfl (fQ rfl rfl (bP rfl (bg 0 underlying37 rfl sizeOf32 rfl (bg 10 underlying32 rfl sizeOf4 rfl (aG (aQ 10 (l' := [_, _, _, _, _, _, _, _, _, _, _, _, _, _, _, _, _, _, _, _, _, _, _, _, _, _, _, _, _, _, _, _, _, _]) dG sizeOf4 rfl rfl (by first | rfl | assumption) rfl rfl) ?_)))))))))))
            rintro _ ZJ UA
            refine aA (aj (ay (ah (aO rfl (aO rfl (bP rfl (bg 28 underlying37 rfl sizeOf3 rfl (dS underlying3 rfl (UA).get.2 rfl (bP rfl (bg 0 underlying37 rfl sizeOf32 rfl (bg 6 underlying32 rfl sizeOf3 rfl (aG (aQ 6 (l' := [_, _, _, _, _, _, _, _, _, _, _, _, _, _, _, _, _, _, _, _, _, _, _, _, _, _, _, _, _, _, _, _, _, _]) UA sizeOf3 rfl rfl (by first | rfl | assumption) rfl rfl) ?_))))))))))))
            rintro _ w48 Zn
            refine aA (aj (ay (ay (ah (aO rfl (bP rfl (bg 28 underlying37 rfl sizeOf3 rfl (dS underlying3 rfl (Zn).get.2 rfl (aW (dK rfl rfl) (aA (aj (aN rfl (fun h23 => ?_) (fun h23 => ?_)))))))))))))
            · (try simp only [aH] at h23)
              have nS := gq jC hon hrun h23
              refine ah (aO rfl (aO rfl (bP rfl (bg 0 underlying37 rfl sizeOf32 rfl (bg 7 underlying32 rfl sizeOf3 rfl (aG (aQ 7 (l' := [_, _, _, _, _, _, _, _, _, _, _, _, _, _, _, _, _, _, _, _, _, _, _, _, _, _, _, _, _, _, _, _, _, _]) Zn sizeOf3 rfl rfl (by first | rfl | assumption) rfl rfl) ?_))))))
              rintro _ w49 Xf
              refine bP rfl (bg 0 underlying37 rfl sizeOf32 rfl (bg 8 underlying32 rfl sizeOf3 rfl (aG (aQ 8 (l' := [_, _, _, _, _, _, _, _, _, _, _, _, _, _, _, _, _, _, _, _, _, _, _, _, _, _, _, _, _, _, _, _, _, _]) Xf sizeOf3 rfl rfl (by first | rfl | assumption) rfl rfl) ?_)))
              rintro _ Z9 UH
              refine aA (aj (ay (ah (aU rfl (aA (aj (aJ (aI (.inl rfl) results27 rfl ?_))))))))
              refine ⟨rfl, ?_⟩
              first
                | exact absurd (hw2.symm.trans hwh) (by decide)
                | exact absurd (hwh.symm.trans hw2) (by decide)
                | (rw [nS]; exact aB.dF dD bG UH.f11.f11.f11.f11.f11.f11.f11.f11.f11.f11.f11)
            · (try simp only [aH] at h23)
              have nS := eY jC hon hrun h23
              refine aP (aj (ay (ah (aU rfl (aA (aj (aJ (aI (.inl rfl) results27 rfl ?_))))))))
              refine ⟨rfl, ?_⟩
              first
                | exact absurd (hw2.symm.trans hwh) (by decide)
                | exact absurd (hwh.symm.trans hw2) (by decide)
                | (rw [nS]; exact aB.dF dD bG Zn.f11.f11.f11.f11.f11.f11.f11.f11.f11.f11.f11)
          · (try simp only [aH] at h22)
            have hrun : (s.typed && (!s.put.isEmpty || s.c.run)) = (s1.dI on).c.run := by first | exact absurd (hw2.symm.trans hwh) (by decide) | (rw [lK, decide_eq_true (show s.put.length = 0 by omega), hty, um, hr1]; rfl)
            refine bf (aO rfl (bf (bP rfl (bf (bg 0 underlying37 rfl sizeOf32 rfl (bf (bg 10 underlying32 rfl sizeOf4 rfl (bf (dS underlying4 rfl (dG).get.2 rfl (bf (fG rfl rfl (fQ rfl rfl (bP rfl (bg 0 underlying37 rfl sizeOf32 rfl (bg 10 underlying32 rfl sizeOf4 rfl (aG (aQ 10 (l' := [_, _, _, _, _, _, _, _, _, _, _, _, _, _, _, _, _, _, _, _, _, _, _, _, _, _, _, _, _, _, _, _, _, _]) dG sizeOf4 rfl rfl (by first | rfl | assumption) rfl rfl) ?_))))))))))))))))
            rintro _ w51 Ub
            refine aA (aj (ay (ah (aO rfl (aO rfl (bP rfl (bg 28 underlying37 rfl sizeOf3 rfl (dS underlying3 rfl (Ub).get.2 rfl (bP rfl (bg 0 underlying37 rfl sizeOf32 rfl (bg 6 underlying32 rfl sizeOf3 rfl (aG (aQ 6 (l' := [_, _, _, _, _, _, _, _, _, _, _, _, _, _, _, _, _, _, _, _, _, _, _, _, _, _, _, _, _, _, _, _, _, _]) Ub sizeOf3 rfl rfl (by first | rfl | assumption) rfl rfl) ?_))))))))))))
            rintro _ w52 Sj
            refine aA (aj (ay (ay (ah (aO rfl (bP rfl (bg 28 underlying37 rfl sizeOf3 rfl (dS underlying3 rfl (Sj).get.2 rfl (aW (dK rfl rfl) (aA (aj (aN rfl (fun h24 => ?_) (fun h24 => ?_)))))))))))))
            · (try simp only [aH] at h24)
              have nS := gq jC hon hrun h24
              refine ah (aO rfl (aO rfl (bP rfl (bg 0 underlying37 rfl sizeOf32 rfl (bg 7 underlying32 rfl sizeOf3 rfl (aG (aQ 7 (l' := [_, _, _, _, _, _, _, _, _, _, _, _, _, _, _, _, _, _, _, _, _, _, _, _, _, _, _, _, _, _, _, _, _, _]) Sj sizeOf3 rfl rfl (by first | rfl | assumption) rfl rfl) ?_))))))
              rintro _ w53 UJ
              refine bP rfl (bg 0 underlying37 rfl sizeOf32 rfl (bg 8 underlying32 rfl sizeOf3 rfl (aG (aQ 8 (l' := [_, _, _, _, _, _, _, _, _, _, _, _, _, _, _, _, _, _, _, _, _, _, _, _, _, _, _, _, _, _, _, _, _, _]) UJ sizeOf3 rfl rfl (by first | rfl | assumption) rfl rfl) ?_)))
              rintro _ w54 YB
              refine aA (aj (ay (ah (aU rfl (aA (aj (aJ (aI (.inl rfl) results27 rfl ?_))))))))
              refine ⟨rfl, ?_⟩
              first
                | exact absurd (hw2.symm.trans hwh) (by decide)
                | exact absurd (hwh.symm.trans hw2) (by decide)
                | (rw [nS]; exact aB.dF dD bG YB.f11.f11.f11.f11.f11.f11.f11.f11.f11.f11.f11)
            · (try simp only [aH] at h24)
              have nS := eY jC hon hrun h24
              refine aP (aj (ay (ah (aU rfl (aA (aj (aJ (aI (.inl rfl) results27 rfl ?_))))))))
              refine ⟨rfl, ?_⟩
              first
                | exact absurd (hw2.symm.trans hwh) (by decide)
                | exact absurd (hwh.symm.trans hw2) (by decide)
                | (rw [nS]; exact aB.dF dD bG Sj.f11.f11.f11.f11.f11.f11.f11.f11.f11.f11.f11)
        · (try simp only [aH] at h21)
          have hw2 : s.whole = false := by simpa using h21
          have hrun : (s.typed && (!s.put.isEmpty || s.c.run)) = false := by first | exact absurd (hwh.symm.trans hw2) (by decide) | (rw [hty]; rfl)
          refine bD (bD (lq (lq (lq (lq (lq (bD (fG rfl rfl (bP rfl (bg 0 underlying37 rfl sizeOf32 rfl (bg 10 underlying32 rfl sizeOf4 rfl (aG (aQ 10 (l' := [_, _, _, _, _, _, _, _, _, _, _, _, _, _, _, _, _, _, _, _, _, _, _, _, _, _, _, _, _, _, _, _, _, _]) dG sizeOf4 rfl rfl (by first | rfl | assumption) rfl rfl) ?_))))))))))))
          rintro _ w55 Xg
          refine aA (aj (ay (ah (aO rfl (aO rfl (bP rfl (bg 28 underlying37 rfl sizeOf3 rfl (dS underlying3 rfl (Xg).get.2 rfl (bP rfl (bg 0 underlying37 rfl sizeOf32 rfl (bg 6 underlying32 rfl sizeOf3 rfl (aG (aQ 6 (l' := [_, _, _, _, _, _, _, _, _, _, _, _, _, _, _, _, _, _, _, _, _, _, _, _, _, _, _, _, _, _, _, _, _, _]) Xg sizeOf3 rfl rfl (by first | rfl | assumption) rfl rfl) ?_))))))))))))
          rintro _ w56 Zo
          refine aA (aj (ay (ay (ah (aO rfl (bP rfl (bg 28 underlying37 rfl sizeOf3 rfl (dS underlying3 rfl (Zo).get.2 rfl (aW (dK rfl rfl) (aA (aj (aN rfl (fun h25 => ?_) (fun h25 => ?_)))))))))))))
          · (try simp only [aH] at h25)
            have nS := gq jC hon hrun h25
            refine ah (aO rfl (aO rfl (bP rfl (bg 0 underlying37 rfl sizeOf32 rfl (bg 7 underlying32 rfl sizeOf3 rfl (aG (aQ 7 (l' := [_, _, _, _, _, _, _, _, _, _, _, _, _, _, _, _, _, _, _, _, _, _, _, _, _, _, _, _, _, _, _, _, _, _]) Zo sizeOf3 rfl rfl (by first | rfl | assumption) rfl rfl) ?_))))))
            rintro _ w57 H57
            refine bP rfl (bg 0 underlying37 rfl sizeOf32 rfl (bg 8 underlying32 rfl sizeOf3 rfl (aG (aQ 8 (l' := [_, _, _, _, _, _, _, _, _, _, _, _, _, _, _, _, _, _, _, _, _, _, _, _, _, _, _, _, _, _, _, _, _, _]) H57 sizeOf3 rfl rfl (by first | rfl | assumption) rfl rfl) ?_)))
            rintro _ w58 QO
            refine aA (aj (ay (ah (aU rfl (aA (aj (aJ (aI (.inl rfl) results27 rfl ?_))))))))
            refine ⟨rfl, ?_⟩
            first
              | exact absurd (hw2.symm.trans hwh) (by decide)
              | exact absurd (hwh.symm.trans hw2) (by decide)
              | (rw [nS]; exact aB.dF dD bG QO.f11.f11.f11.f11.f11.f11.f11.f11.f11.f11.f11)
          · (try simp only [aH] at h25)
            have nS := eY jC hon hrun h25
            refine aP (aj (ay (ah (aU rfl (aA (aj (aJ (aI (.inl rfl) results27 rfl ?_))))))))
            refine ⟨rfl, ?_⟩
            first
              | exact absurd (hw2.symm.trans hwh) (by decide)
              | exact absurd (hwh.symm.trans hw2) (by decide)
              | (rw [nS]; exact aB.dF dD bG Zo.f11.f11.f11.f11.f11.f11.f11.f11.f11.f11.f11)
      · (try simp only [aH] at h20)
        have hwh : s.whole = false := by simpa using h20
        have hty : s.typed = false := by unfold aZ.typed; rw [hc3, hwh]; rfl
        have hrun : (s.typed && (!s.put.isEmpty || s.c.run)) = false := by rw [hty]; rfl
        refine bD (bD (bD (bD (bD (fG rfl rfl ?_)))))
        have hwo := ql (rE.f11)
        have Zp := rE.f11.right
        have HW0 := aB.xA (c := s.was) (u := [mP, mQ, mV, mW, mX, mY, mZ, ng, ni, ny, nC]) Zp hwo
        obtain ⟨s1, jC, Pv⟩ : ∃ s1, s1 = s.dZ ∧ aB w0 (w3.drew) (dw e s1 • F) := ⟨_, hs1, aB.dF (hs1 ▸ pF dD) bG HW0.f11.f11.f11.f11.f11.f11.f11.f11.f11.f11⟩
        have hr1 : s1.c.run = s.c.run := by rw [jC]; unfold aZ.dZ; split <;> rfl
        refine bZ rfl func96 (kL Pv) ?_
        rintro _ YE UK
        obtain ⟨on, hon, HZ⟩ : ∃ on, (s.typed && s.c.run) = on ∧ aB w0 YE (dw e (s1.dI on) • F) := ⟨_, by rw [hty]; rfl, UK⟩
        refine aA (aj (ay ?_))
        obtain ⟨qy, qA, qB, qC, qE, qF, qG, qH, oH, mP, mQ, mV, mW, mX, mY, mZ, ng, ni, ny, nC, dD, bG, fZ, dG⟩ := (HZ).AA
        refine ah (aO rfl (aO rfl (gB rfl (fun h26 => ?_) (fun h26 => ?_))))
        · (try simp only [aH] at h26)
          have hw2 : s.whole = true := h26
          refine bf (aO rfl (bf (gB rfl (fun h27 => ?_) (fun h27 => ?_))))
          · (try simp only [aH] at h27)
            have hrun : (s.typed && (!s.put.isEmpty || s.c.run)) = true := by first | exact absurd (hw2.symm.trans hwh) (by decide) | (rw [lK, decide_eq_false (show ¬ s.put.length = 0 by omega), hty]; rfl)
            refine bD (bD (bD (bD (bD (bf (fQ rfl rfl (fQ rfl rfl (bP rfl (bg 0 underlying37 rfl sizeOf32 rfl (bg 10 underlying32 rfl sizeOf4 rfl (aG (aQ 10 (l' := [_, _, _, _, _, _, _, _, _, _, _, _, _, _, _, _, _, _, _, _, _, _, _, _, _, _, _, _, _, _, _, _, _, _]) dG sizeOf4 rfl rfl (by first | rfl | assumption) rfl rfl) ?_)))))))))))
            rintro _ w62 Wh
            refine aA (aj (ay (ah (aO rfl (aO rfl (bP rfl (bg 28 underlying37 rfl sizeOf3 rfl (dS underlying3 rfl (Wh).get.2 rfl (bP rfl (bg 0 underlying37 rfl sizeOf32 rfl (bg 6 underlying32 rfl sizeOf3 rfl (aG (aQ 6 (l' := [_, _, _, _, _, _, _, _, _, _, _, _, _, _, _, _, _, _, _, _, _, _, _, _, _, _, _, _, _, _, _, _, _, _]) Wh sizeOf3 rfl rfl (by first | rfl | assumption) rfl rfl) ?_))))))))))))
            rintro _ w63 Wj
            refine aA (aj (ay (ay (ah (aO rfl (bP rfl (bg 28 underlying37 rfl sizeOf3 rfl (dS underlying3 rfl (Wj).get.2 rfl (aW (dK rfl rfl) (aA (aj (aN rfl (fun h28 => ?_) (fun h28 => ?_)))))))))))))
            · (try simp only [aH] at h28)
              have nS := gq jC hon hrun h28
              refine ah (aO rfl (aO rfl (bP rfl (bg 0 underlying37 rfl sizeOf32 rfl (bg 7 underlying32 rfl sizeOf3 rfl (aG (aQ 7 (l' := [_, _, _, _, _, _, _, _, _, _, _, _, _, _, _, _, _, _, _, _, _, _, _, _, _, _, _, _, _, _, _, _, _, _]) Wj sizeOf3 rfl rfl (by first | rfl | assumption) rfl rfl) ?_))))))
              rintro _ w64 Wn
              refine bP rfl (bg 0 underlying37 rfl sizeOf32 rfl (bg 8 underlying32 rfl sizeOf3 rfl (aG (aQ 8 (l' := [_, _, _, _, _, _, _, _, _, _, _, _, _, _, _, _, _, _, _, _, _, _, _, _, _, _, _, _, _, _, _, _, _, _]) Wn sizeOf3 rfl rfl (by first | rfl | assumption) rfl rfl) ?_)))
              rintro _ w65 YF
              refine aA (aj (ay (ah (aU rfl (aA (aj (aJ (aI (.inl rfl) results27 rfl ?_))))))))
              refine ⟨rfl, ?_⟩
              first
                | exact absurd (hw2.symm.trans hwh) (by decide)
                | exact absurd (hwh.symm.trans hw2) (by decide)
                | (rw [nS]; exact aB.dF dD bG YF.f11.f11.f11.f11.f11.f11.f11.f11.f11.f11.f11)
            · (try simp only [aH] at h28)
              have nS := eY jC hon hrun h28
              refine aP (aj (ay (ah (aU rfl (aA (aj (aJ (aI (.inl rfl) results27 rfl ?_))))))))
              refine ⟨rfl, ?_⟩
              first
                | exact absurd (hw2.symm.trans hwh) (by decide)
                | exact absurd (hwh.symm.trans hw2) (by decide)
                | (rw [nS]; exact aB.dF dD bG Wj.f11.f11.f11.f11.f11.f11.f11.f11.f11.f11.f11)
          · (try simp only [aH] at h27)
            have hrun : (s.typed && (!s.put.isEmpty || s.c.run)) = (s1.dI on).c.run := by first | exact absurd (hw2.symm.trans hwh) (by decide) | (rw [lK, decide_eq_true (show s.put.length = 0 by omega), hty, um, hr1]; rfl)
            refine bf (aO rfl (bf (bP rfl (bf (bg 0 underlying37 rfl sizeOf32 rfl (bf (bg 10 underlying32 rfl sizeOf4 rfl (bf (dS underlying4 rfl (dG).get.2 rfl (bf (fG rfl rfl (fQ rfl rfl (bP rfl (bg 0 underlying37 rfl sizeOf32 rfl (bg 10 underlying32 rfl sizeOf4 rfl (aG (aQ 10 (l' := [_, _, _, _, _, _, _, _, _, _, _, _, _, _, _, _, _, _, _, _, _, _, _, _, _, _, _, _, _, _, _, _, _, _]) dG sizeOf4 rfl rfl (by first | rfl | assumption) rfl rfl) ?_))))))))))))))))
            rintro _ w66 H66
            refine aA (aj (ay (ah (aO rfl (aO rfl (bP rfl (bg 28 underlying37 rfl sizeOf3 rfl (dS underlying3 rfl (H66).get.2 rfl (bP rfl (bg 0 underlying37 rfl sizeOf32 rfl (bg 6 underlying32 rfl sizeOf3 rfl (aG (aQ 6 (l' := [_, _, _, _, _, _, _, _, _, _, _, _, _, _, _, _, _, _, _, _, _, _, _, _, _, _, _, _, _, _, _, _, _, _]) H66 sizeOf3 rfl rfl (by first | rfl | assumption) rfl rfl) ?_))))))))))))
            rintro _ w67 Zq
            refine aA (aj (ay (ay (ah (aO rfl (bP rfl (bg 28 underlying37 rfl sizeOf3 rfl (dS underlying3 rfl (Zq).get.2 rfl (aW (dK rfl rfl) (aA (aj (aN rfl (fun h29 => ?_) (fun h29 => ?_)))))))))))))
            · (try simp only [aH] at h29)
              have nS := gq jC hon hrun h29
              refine ah (aO rfl (aO rfl (bP rfl (bg 0 underlying37 rfl sizeOf32 rfl (bg 7 underlying32 rfl sizeOf3 rfl (aG (aQ 7 (l' := [_, _, _, _, _, _, _, _, _, _, _, _, _, _, _, _, _, _, _, _, _, _, _, _, _, _, _, _, _, _, _, _, _, _]) Zq sizeOf3 rfl rfl (by first | rfl | assumption) rfl rfl) ?_))))))
              rintro _ w68 Xi
              refine bP rfl (bg 0 underlying37 rfl sizeOf32 rfl (bg 8 underlying32 rfl sizeOf3 rfl (aG (aQ 8 (l' := [_, _, _, _, _, _, _, _, _, _, _, _, _, _, _, _, _, _, _, _, _, _, _, _, _, _, _, _, _, _, _, _, _, _]) Xi sizeOf3 rfl rfl (by first | rfl | assumption) rfl rfl) ?_)))
              rintro _ w69 Xj
              refine aA (aj (ay (ah (aU rfl (aA (aj (aJ (aI (.inl rfl) results27 rfl ?_))))))))
              refine ⟨rfl, ?_⟩
              first
                | exact absurd (hw2.symm.trans hwh) (by decide)
                | exact absurd (hwh.symm.trans hw2) (by decide)
                | (rw [nS]; exact aB.dF dD bG Xj.f11.f11.f11.f11.f11.f11.f11.f11.f11.f11.f11)
            · (try simp only [aH] at h29)
              have nS := eY jC hon hrun h29
              refine aP (aj (ay (ah (aU rfl (aA (aj (aJ (aI (.inl rfl) results27 rfl ?_))))))))
              refine ⟨rfl, ?_⟩
              first
                | exact absurd (hw2.symm.trans hwh) (by decide)
                | exact absurd (hwh.symm.trans hw2) (by decide)
                | (rw [nS]; exact aB.dF dD bG Zq.f11.f11.f11.f11.f11.f11.f11.f11.f11.f11.f11)
        · (try simp only [aH] at h26)
          have hw2 : s.whole = false := by simpa using h26
          have hrun : (s.typed && (!s.put.isEmpty || s.c.run)) = false := by first | exact absurd (hwh.symm.trans hw2) (by decide) | (rw [hty]; rfl)
          refine bD (bD (lq (lq (lq (lq (lq (bD (fG rfl rfl (bP rfl (bg 0 underlying37 rfl sizeOf32 rfl (bg 10 underlying32 rfl sizeOf4 rfl (aG (aQ 10 (l' := [_, _, _, _, _, _, _, _, _, _, _, _, _, _, _, _, _, _, _, _, _, _, _, _, _, _, _, _, _, _, _, _, _, _]) dG sizeOf4 rfl rfl (by first | rfl | assumption) rfl rfl) ?_))))))))))))
          rintro _ w70 Wq
          refine aA (aj (ay (ah (aO rfl (aO rfl (bP rfl (bg 28 underlying37 rfl sizeOf3 rfl (dS underlying3 rfl (Wq).get.2 rfl (bP rfl (bg 0 underlying37 rfl sizeOf32 rfl (bg 6 underlying32 rfl sizeOf3 rfl (aG (aQ 6 (l' := [_, _, _, _, _, _, _, _, _, _, _, _, _, _, _, _, _, _, _, _, _, _, _, _, _, _, _, _, _, _, _, _, _, _]) Wq sizeOf3 rfl rfl (by first | rfl | assumption) rfl rfl) ?_))))))))))))
          rintro _ w71 UL
          refine aA (aj (ay (ay (ah (aO rfl (bP rfl (bg 28 underlying37 rfl sizeOf3 rfl (dS underlying3 rfl (UL).get.2 rfl (aW (dK rfl rfl) (aA (aj (aN rfl (fun h30 => ?_) (fun h30 => ?_)))))))))))))
          · (try simp only [aH] at h30)
            have nS := gq jC hon hrun h30
            refine ah (aO rfl (aO rfl (bP rfl (bg 0 underlying37 rfl sizeOf32 rfl (bg 7 underlying32 rfl sizeOf3 rfl (aG (aQ 7 (l' := [_, _, _, _, _, _, _, _, _, _, _, _, _, _, _, _, _, _, _, _, _, _, _, _, _, _, _, _, _, _, _, _, _, _]) UL sizeOf3 rfl rfl (by first | rfl | assumption) rfl rfl) ?_))))))
            rintro _ w72 YI
            refine bP rfl (bg 0 underlying37 rfl sizeOf32 rfl (bg 8 underlying32 rfl sizeOf3 rfl (aG (aQ 8 (l' := [_, _, _, _, _, _, _, _, _, _, _, _, _, _, _, _, _, _, _, _, _, _, _, _, _, _, _, _, _, _, _, _, _, _]) YI sizeOf3 rfl rfl (by first | rfl | assumption) rfl rfl) ?_)))
            rintro _ w73 YJ
            refine aA (aj (ay (ah (aU rfl (aA (aj (aJ (aI (.inl rfl) results27 rfl ?_))))))))
            refine ⟨rfl, ?_⟩
            first
              | exact absurd (hw2.symm.trans hwh) (by decide)
              | exact absurd (hwh.symm.trans hw2) (by decide)
              | (rw [nS]; exact aB.dF dD bG YJ.f11.f11.f11.f11.f11.f11.f11.f11.f11.f11.f11)
          · (try simp only [aH] at h30)
            have nS := eY jC hon hrun h30
            refine aP (aj (ay (ah (aU rfl (aA (aj (aJ (aI (.inl rfl) results27 rfl ?_))))))))
            refine ⟨rfl, ?_⟩
            first
              | exact absurd (hw2.symm.trans hwh) (by decide)
              | exact absurd (hwh.symm.trans hw2) (by decide)
              | (rw [nS]; exact aB.dF dD bG UL.f11.f11.f11.f11.f11.f11.f11.f11.f11.f11.f11)
    · (try simp only [aH] at h19)
      have hty : s.typed = false := by unfold aZ.typed; rw [beq_false_of_ne h19]; rfl
      have hrun : (s.typed && (!s.put.isEmpty || s.c.run)) = false := by rw [hty]; rfl
      refine zD 6 rfl rfl rfl rfl (by kernel_rfl) (by kernel_rfl) dL (oJ rfl) ?_
      refine zD 7 rfl rfl rfl rfl (by kernel_rfl) (by kernel_rfl) dL (oJ rfl) ?_
      refine zD 8 rfl rfl rfl rfl (by kernel_rfl) (by kernel_rfl) dL (oJ rfl) ?_
      refine zD 9 rfl rfl rfl rfl (by kernel_rfl) (by kernel_rfl) dL (oJ rfl) ?_
      refine jc 10 rfl dL (fun _ => AY rfl rfl) (iE 11 rfl dL rfl (jF 12 rfl dL rfl (gG 13 rfl dL 33 underlying37 rfl sizeOf35 rfl (je 14 rfl dL (fun W hW => jE underlying35 rfl ((Kp.h hW)).get.2 rfl) (jc 15 rfl dL (fun _ => iH ((rE.f9).aT) underlying35 rfl) (jc 16 rfl dL (fun _ => dn rfl rfl) (jc 17 rfl dL (fun _ => fO rfl) (jc 18 rfl dL (fun _ => fO rfl) (pU (aj (ay (ah (aO rfl (aO rfl (aO rfl (bD (bD (bD (bD (bD (fG rfl rfl ?_)))))))))))))))))))))
      have hwo := ql (rE.f11)
      have Zr := rE.f11.right
      have HW0 := aB.xA (c := s.was) (u := [mP, mQ, mV, mW, mX, mY, mZ, ng, ni, ny, nC]) Zr hwo
      obtain ⟨s1, jC, Pv⟩ : ∃ s1, s1 = s.dZ ∧ aB w0 (w3.drew) (dw e s1 • F) := ⟨_, hs1, aB.dF (hs1 ▸ pF dD) bG HW0.f11.f11.f11.f11.f11.f11.f11.f11.f11.f11⟩
      have hr1 : s1.c.run = s.c.run := by rw [jC]; unfold aZ.dZ; split <;> rfl
      refine bZ rfl func96 (kL Pv) ?_
      rintro _ w75 H75
      obtain ⟨on, hon, HZ⟩ : ∃ on, (s.typed && s.c.run) = on ∧ aB w0 w75 (dw e (s1.dI on) • F) := ⟨_, by rw [hty]; rfl, H75⟩
      refine aA (aj (ay ?_))
      obtain ⟨qy, qA, qB, qC, qE, qF, qG, qH, oH, mP, mQ, mV, mW, mX, mY, mZ, ng, ni, ny, nC, dD, bG, fZ, dG⟩ := (HZ).AA
      refine ah (aO rfl (aO rfl (aO rfl (bD (bD (lq (lq (lq (lq (lq (bD (fG rfl rfl (bP rfl (bg 0 underlying37 rfl sizeOf32 rfl (bg 10 underlying32 rfl sizeOf4 rfl (aG (aQ 10 (l' := [_, _, _, _, _, _, _, _, _, _, _, _, _, _, _, _, _, _, _, _, _, _, _, _, _, _, _, _, _, _, _, _, _, _]) dG sizeOf4 rfl rfl (by first | rfl | assumption) rfl rfl) ?_))))))))))))))))
      rintro _ w77 H77
      refine aA (aj (ay (ah (aO rfl (aO rfl (bP rfl (bg 28 underlying37 rfl sizeOf3 rfl (dS underlying3 rfl (H77).get.2 rfl (bP rfl (bg 0 underlying37 rfl sizeOf32 rfl (bg 6 underlying32 rfl sizeOf3 rfl (aG (aQ 6 (l' := [_, _, _, _, _, _, _, _, _, _, _, _, _, _, _, _, _, _, _, _, _, _, _, _, _, _, _, _, _, _, _, _, _, _]) H77 sizeOf3 rfl rfl (by first | rfl | assumption) rfl rfl) ?_))))))))))))
      rintro _ w78 Zt
      refine aA (aj (ay (ay (ah (aO rfl (bP rfl (bg 28 underlying37 rfl sizeOf3 rfl (dS underlying3 rfl (Zt).get.2 rfl (aW (dK rfl rfl) (aA (aj (aN rfl (fun h31 => ?_) (fun h31 => ?_)))))))))))))
      · (try simp only [aH] at h31)
        have nS := gq jC hon hrun h31
        refine ah (aO rfl (aO rfl (bP rfl (bg 0 underlying37 rfl sizeOf32 rfl (bg 7 underlying32 rfl sizeOf3 rfl (aG (aQ 7 (l' := [_, _, _, _, _, _, _, _, _, _, _, _, _, _, _, _, _, _, _, _, _, _, _, _, _, _, _, _, _, _, _, _, _, _]) Zt sizeOf3 rfl rfl (by first | rfl | assumption) rfl rfl) ?_))))))
        rintro _ w79 H79
        refine bP rfl (bg 0 underlying37 rfl sizeOf32 rfl (bg 8 underlying32 rfl sizeOf3 rfl (aG (aQ 8 (l' := [_, _, _, _, _, _, _, _, _, _, _, _, _, _, _, _, _, _, _, _, _, _, _, _, _, _, _, _, _, _, _, _, _, _]) H79 sizeOf3 rfl rfl (by first | rfl | assumption) rfl rfl) ?_)))
        rintro _ w80 H80
        refine aA (aj (ay (ah (aU rfl (aA (aj (aJ (aI (.inl rfl) results27 rfl ?_))))))))
        refine ⟨rfl, ?_⟩
        first
          | exact absurd (hw2.symm.trans hwh) (by decide)
          | exact absurd (hwh.symm.trans hw2) (by decide)
          | (rw [nS]; exact aB.dF dD bG H80.f11.f11.f11.f11.f11.f11.f11.f11.f11.f11.f11)
      · (try simp only [aH] at h31)
        have nS := eY jC hon hrun h31
        refine aP (aj (ay (ah (aU rfl (aA (aj (aJ (aI (.inl rfl) results27 rfl ?_))))))))
        refine ⟨rfl, ?_⟩
        first
          | exact absurd (hw2.symm.trans hwh) (by decide)
          | exact absurd (hwh.symm.trans hw2) (by decide)
          | (rw [nS]; exact aB.dF dD bG Zt.f11.f11.f11.f11.f11.f11.f11.f11.f11.f11.f11)
theorem EM {s : aZ} {x : Int} (hin : s.dN = true) (hx : x ≠ 0) : s.iC x = s.vG ∧ s.pY x = x := by
  unfold aZ.iC aZ.pY
  rw [if_pos hin, if_neg hx, if_pos hin]; exact ⟨rfl, rfl⟩
theorem Px {s : aZ} (h : jJ s) (hin : s.dN = true) : jJ s.vG := by
  obtain ⟨h1, h2, h3⟩ := h.2.1 hin
  exact ⟨h1, fun h => Bool.noConfusion h, ⟨by show (-1 : Int) ≤ -1; decide, by show (-1 : Int) ≤ 1000000; decide⟩, by simp [aZ.vG], h2, h3⟩
theorem J6 (hin : s.dN = true) (hx : x ≠ 0) (H : aB w0 w (dw e s • F)) : fA prog 27 #[.pointer (some ⟨e, 0, none⟩), .int .i64 x] w fun v w' => v = .int .i64 x ∧ aB w0 w' (dw e s.vG • F) := by
 have hpe : s.sH = 0 := by unfold aZ.sH; rw [if_pos hin]
 refine fU func27 ntmps27 ?_
 dsimp only [aY, Nat.reduceAdd]
 refine ay (ah (aU rfl (aA (aj (ay (ay (ah (aO rfl (bZ rfl func94 (jm H) ?_)))))))))
 rintro _ _ ⟨rfl, rfl⟩
 refine aU rfl (aA (aj (ay (ah (aO rfl (aW (dK rfl rfl) (aA (aj (aN rfl (fun h => by exfalso; (try simp only [aH] at h); exact h hpe) (fun h1 => ?_))))))))))
 (try simp only [aH] at h1)
 refine aP (aj (ay ?_))
 obtain ⟨qy, qA, qB, qC, qE, qF, qG, qH, oH, mP, mQ, mV, mW, mX, mY, mZ, ng, ni, ny, nC, dD, bG, fZ, dG⟩ := (H).AA
 have HI := dG
 rw [hin] at HI
 obtain ⟨qb, qr, qw, qt, qm, hu, HW⟩ := (HI.f11).was
 simp only [KU, List.cons.injEq, and_true] at hu
 obtain ⟨rfl, rfl, rfl, rfl, rfl, rfl, rfl, rfl, rfl, rfl, rfl⟩ := hu
 refine ah (aO rfl (bP rfl (bg 16 underlying37 rfl sizeOf4 rfl (aG (aQ 16 (l' := [_, _, _, _, _, _, _, _, _, _, _, _, _, _, _, _, _, _, _, _, _, _, _, _, _, _, _, _, _, _, _, _, _, _]) HW.f6 sizeOf4 rfl rfl (by first | rfl | assumption) rfl rfl) ?_))))
 rintro _ w3 H3
 refine aA (aj (ay (ay (ah (aO rfl (bP rfl (bg 31 underlying37 rfl sizeOf4 rfl (dS underlying4 rfl (H3).get.2 rfl (aW (jS rfl) (gB rfl (fun h2 => ?_) (fun h2 => ?_)))))))))))
 ·(try simp only [aH] at h2)
  refine bD (bD (fQ rfl rfl (aA (aj (wB (ah (aO rfl (aO rfl (aO rfl (bP rfl (bg 13 underlying37 rfl sizeOf4 rfl (aG (aQ 13 (l' := [_, _, _, _, _, _, _, _, _, _, _, _, _, _, _, _, _, _, _, _, _, _, _, _, _, _, _, _, _, _, _, _, _, _]) H3 sizeOf4 rfl rfl (by first | rfl | assumption) rfl rfl) ?_))))))))))))
  rintro _ w4 H4
  refine bP rfl (bg 14 underlying37 rfl sizeOf4 rfl (aG (aQ 14 (l' := [_, _, _, _, _, _, _, _, _, _, _, _, _, _, _, _, _, _, _, _, _, _, _, _, _, _, _, _, _, _, _, _, _, _]) H4 sizeOf4 rfl rfl (by first | rfl | assumption) rfl rfl) ?_))
  rintro _ w5 H5
  refine bP rfl (bg 15 underlying37 rfl sizeOf3 rfl (aG (aQ 15 (l' := [_, _, _, _, _, _, _, _, _, _, _, _, _, _, _, _, _, _, _, _, _, _, _, _, _, _, _, _, _, _, _, _, _, _]) H5 sizeOf3 rfl rfl (by first | rfl | assumption) rfl rfl) ?_))
  rintro _ w6 H6
  refine aA (aj (ay (ay (ah (aO rfl (aW (dK rfl rfl) (aA (aj (aN rfl (fun h3 => ?_) (fun h => by exfalso; (try simp only [aH] at h); exact hx h))))))))))
  (try simp only [aH] at h3)
  refine ay (ah (aO rfl (aO rfl (bP rfl (bg 17 underlying37 rfl sizeOf32 rfl (aW (qL 17 (xs := [_, _, _, _, _, _, _, _, _, _, _]) underlying32 rfl sizeOf32 rfl rfl (H6).get.2 rfl) (bP rfl (bg 0 underlying37 rfl sizeOf32 rfl (aG (cZ 0 (l' := [_, _, _, _, _, _, _, _, _, _, _, _, _, _, _, _, _, _, _, _, _, _, _, _, _, _, _, _, _, _, _, _, _, _]) (us := [_, _, _, _, _, _, _, _, _, _, _]) H6 sizeOf32 rfl rfl rfl (aC (by first | rfl | assumption) (aC (by first | rfl | assumption) (aC (by first | rfl | assumption) (aC (by first | rfl | assumption) (aC (by first | rfl | assumption) (aC (by first | rfl | assumption) (aC (by first | rfl | assumption) (aC (by first | rfl | assumption) (aC (by first | rfl | assumption) (aC (by first | rfl | assumption) (aC (by first | rfl | assumption) bU))))))))))) rfl rfl) ?_)))))))))
  rintro _ w7 H7
  refine aA (aj (ay (ah (aO rfl (bP rfl (bg 12 underlying37 rfl sizeOf34 rfl (dS underlying34 rfl (H7).get.2 rfl (bZ rfl func95 (yH H7.f13) ?_))))))))
  rintro _ w8 ⟨rfl, H8⟩
  refine aA (aj (ay (ah (aO rfl (aO rfl (aO rfl (aO rfl (bP rfl (bg 0 underlying37 rfl sizeOf32 rfl (bg 6 underlying32 rfl sizeOf3 rfl (aG (aQ 6 (l' := [_, _, _, _, _, _, _, _, _, _, _, _, _, _, _, _, _, _, _, _, _, _, _, _, _, _, _, _, _, _, _, _, _, _]) H8.f2 sizeOf3 rfl rfl (by first | rfl | assumption) rfl rfl) ?_)))))))))))
  rintro _ w9 H9
  refine bP rfl (bg 0 underlying37 rfl sizeOf32 rfl (bg 7 underlying32 rfl sizeOf3 rfl (aG (aQ 7 (l' := [_, _, _, _, _, _, _, _, _, _, _, _, _, _, _, _, _, _, _, _, _, _, _, _, _, _, _, _, _, _, _, _, _, _]) H9 sizeOf3 rfl rfl (by first | rfl | assumption) rfl rfl) ?_)))
  rintro _ w10 mJ
  refine bP rfl (bg 0 underlying37 rfl sizeOf32 rfl (bg 8 underlying32 rfl sizeOf3 rfl (aG (aQ 8 (l' := [_, _, _, _, _, _, _, _, _, _, _, _, _, _, _, _, _, _, _, _, _, _, _, _, _, _, _, _, _, _, _, _, _, _]) mJ sizeOf3 rfl rfl (by first | rfl | assumption) rfl rfl) ?_)))
  rintro _ He uO
  refine bP rfl (bg 33 underlying37 rfl sizeOf35 rfl (aG (aQ 33 (l' := [_, _, _, _, _, _, _, _, _, _, _, _, _, _, _, _, _, _, _, _, _, _, _, _, _, _, _, _, _, _, _, _, _, _]) uO sizeOf35 rfl rfl (by first | rfl | assumption) rfl rfl) ?_))
  rintro _ w12 wE
  refine aA (aj (ay (ah (aO rfl (aU rfl (aA (aj (aJ (aK (aI (.inl rfl) results27 rfl ?_))))))))))
  exact ⟨rfl, aB.JV (s := s.vG) (Px dD hin) rfl rfl wE.f8.right.f8.right.f8.right.f8.right.f8.right.f9.right.f9.right.f2.f8.f8.f8.f8.f8.f8.f8⟩
 ·(try simp only [aH] at h2)
  refine bf (aO rfl (bf (aW (dK rfl rfl) (fG rfl rfl (aA (aj (aN rfl (fun h4 => ?_) (fun h => by exfalso; (try simp only [aH] at h); exact hx h))))))))
  (try simp only [aH] at h4)
  refine ah (aO rfl (aO rfl (aO rfl (bP rfl (bg 13 underlying37 rfl sizeOf4 rfl (aG (aQ 13 (l' := [_, _, _, _, _, _, _, _, _, _, _, _, _, _, _, _, _, _, _, _, _, _, _, _, _, _, _, _, _, _, _, _, _, _]) H3 sizeOf4 rfl rfl (by first | rfl | assumption) rfl rfl) ?_))))))
  rintro _ ND vY
  refine bP rfl (bg 14 underlying37 rfl sizeOf4 rfl (aG (aQ 14 (l' := [_, _, _, _, _, _, _, _, _, _, _, _, _, _, _, _, _, _, _, _, _, _, _, _, _, _, _, _, _, _, _, _, _, _]) vY sizeOf4 rfl rfl (by first | rfl | assumption) rfl rfl) ?_))
  rintro _ Me yc
  refine bP rfl (bg 15 underlying37 rfl sizeOf3 rfl (aG (aQ 15 (l' := [_, _, _, _, _, _, _, _, _, _, _, _, _, _, _, _, _, _, _, _, _, _, _, _, _, _, _, _, _, _, _, _, _, _]) yc sizeOf3 rfl rfl (by first | rfl | assumption) rfl rfl) ?_))
  rintro _ Oe xO
  refine aA (aj (ay (ay (ah (aO rfl (aW (dK rfl rfl) (aA (aj (aN rfl (fun h5 => ?_) (fun h => by exfalso; (try simp only [aH] at h); exact hx h))))))))))
  (try simp only [aH] at h5)
  refine ay (ah (aO rfl (aO rfl (bP rfl (bg 17 underlying37 rfl sizeOf32 rfl (aW (qL 17 (xs := [_, _, _, _, _, _, _, _, _, _, _]) underlying32 rfl sizeOf32 rfl rfl (xO).get.2 rfl) (bP rfl (bg 0 underlying37 rfl sizeOf32 rfl (aG (cZ 0 (l' := [_, _, _, _, _, _, _, _, _, _, _, _, _, _, _, _, _, _, _, _, _, _, _, _, _, _, _, _, _, _, _, _, _, _]) (us := [_, _, _, _, _, _, _, _, _, _, _]) xO sizeOf32 rfl rfl rfl (aC (by first | rfl | assumption) (aC (by first | rfl | assumption) (aC (by first | rfl | assumption) (aC (by first | rfl | assumption) (aC (by first | rfl | assumption) (aC (by first | rfl | assumption) (aC (by first | rfl | assumption) (aC (by first | rfl | assumption) (aC (by first | rfl | assumption) (aC (by first | rfl | assumption) (aC (by first | rfl | assumption) bU))))))))))) rfl rfl) ?_)))))))))
  rintro _ w16 tJ
  refine aA (aj (ay (ah (aO rfl (bP rfl (bg 12 underlying37 rfl sizeOf34 rfl (dS underlying34 rfl (tJ).get.2 rfl (bZ rfl func95 (yH tJ.f13) ?_))))))))
  rintro _ Uw ⟨rfl, Fj⟩
  refine aA (aj (ay (ah (aO rfl (aO rfl (aO rfl (aO rfl (bP rfl (bg 0 underlying37 rfl sizeOf32 rfl (bg 6 underlying32 rfl sizeOf3 rfl (aG (aQ 6 (l' := [_, _, _, _, _, _, _, _, _, _, _, _, _, _, _, _, _, _, _, _, _, _, _, _, _, _, _, _, _, _, _, _, _, _]) Fj.f2 sizeOf3 rfl rfl (by first | rfl | assumption) rfl rfl) ?_)))))))))))
  rintro _ Rx Ei
  refine bP rfl (bg 0 underlying37 rfl sizeOf32 rfl (bg 7 underlying32 rfl sizeOf3 rfl (aG (aQ 7 (l' := [_, _, _, _, _, _, _, _, _, _, _, _, _, _, _, _, _, _, _, _, _, _, _, _, _, _, _, _, _, _, _, _, _, _]) Ei sizeOf3 rfl rfl (by first | rfl | assumption) rfl rfl) ?_)))
  rintro _ RF BF
  refine bP rfl (bg 0 underlying37 rfl sizeOf32 rfl (bg 8 underlying32 rfl sizeOf3 rfl (aG (aQ 8 (l' := [_, _, _, _, _, _, _, _, _, _, _, _, _, _, _, _, _, _, _, _, _, _, _, _, _, _, _, _, _, _, _, _, _, _]) BF sizeOf3 rfl rfl (by first | rfl | assumption) rfl rfl) ?_)))
  rintro _ Ry xM
  refine bP rfl (bg 33 underlying37 rfl sizeOf35 rfl (aG (aQ 33 (l' := [_, _, _, _, _, _, _, _, _, _, _, _, _, _, _, _, _, _, _, _, _, _, _, _, _, _, _, _, _, _, _, _, _, _]) xM sizeOf35 rfl rfl (by first | rfl | assumption) rfl rfl) ?_))
  rintro _ Ti oM
  refine aA (aj (ay (ah (aO rfl (aU rfl (aA (aj (aJ (aK (aI (.inl rfl) results27 rfl ?_))))))))))
  exact ⟨rfl, aB.JV (s := s.vG) (Px dD hin) rfl rfl oM.f8.right.f8.right.f8.right.f8.right.f8.right.f9.right.f9.right.f2.f8.f8.f8.f8.f8.f8.f8⟩
theorem Dk (H : aB w0 w (dw e s • F)) : fA prog 27 #[.pointer (some ⟨e, 0, none⟩), .int .i64 x] w fun v w' => v = .int .i64 (s.pY x) ∧ aB w0 w' (dw e (s.iC x) • F) := by
 by_cases hin : s.dN = true
 ·by_cases hx : x = 0
  ·subst hx
   rw [show s.iC 0 = s.iT from by unfold aZ.iC; rw [if_pos hin, if_pos rfl], show s.pY 0 = 0 from by unfold aZ.pY; rw [if_pos hin]]
   exact IV hin H
  ·rw [(EM hin hx).1, (EM hin hx).2]
   exact J6 hin hx H
 ·have hin' : s.dN = false := by simpa using hin
  have hpe : s.sH = 1 := by unfold aZ.sH; rw [if_neg hin]
  rw [show s.iC x = s from by unfold aZ.iC; rw [if_neg hin], show s.pY x = 1 from by unfold aZ.pY; rw [if_neg hin]]
  refine fU func27 ntmps27 ?_
  dsimp only [aY, Nat.reduceAdd]
  refine ay (ah (aU rfl (aA (aj (ay (ay (ah (aO rfl (bZ rfl func94 (jm H) ?_)))))))))
  rintro _ _ ⟨rfl, rfl⟩
  refine aU rfl (aA (aj (ay (ah (aO rfl (aW (dK rfl rfl) (aA (aj (aN rfl (fun h1 => ?_) (fun h => by exfalso; (try simp only [aH] at h); rw [hpe] at h; exact absurd h (by decide)))))))))))
  (try simp only [aH] at h1)
  refine ay (ah (aO rfl (aU rfl (aA (aj (aJ (aK (aI (.inl rfl) results27 rfl ?_))))))))
  rw [hpe]
  exact ⟨rfl, H⟩
end
end Go.Proofs.YtgndbccogcofjaaGreatDoor
end
