import Derived.Test.YtgmpclifphbjkaaGreatDoorZ2
import Derived.Test.YtgmpclifphbjkaaGreatDoorZ15
set_option linter.unusedSimpArgs false
set_option linter.unusedVariables false
/- Texts of mine, joined, their names in short: EdE. -/
section
namespace Go.Proofs.YtgmpclifphbjkaaGreatDoor
open Go.RowKit
open _root_.Go.Proofs.Tryz
theorem wS (s : aY) (on : Bool) : (s.bG on).c.run = s.c.run := by unfold aY.bG; split <;> rfl
theorem Fh (s : aY) (on : Bool) : (s.bG on).cls = s.cls := by unfold aY.bG; split <;> rfl
theorem iP {s s1 : aY} {on run : Bool} (h1 : s1 = s.fV) (hon : (s.typed && s.c.run) = on) (hrun : (s.typed && (!s.put.isEmpty || s.c.run)) = run) (h2 : (s1.bG on).cls ≠ 2) :
    s.jR = { s1.bG on with c := { (s1.bG on).c with run := run, last := (s1.bG on).cls, fr := 0, to := 0 } } := by
  subst h1 hon hrun
  have hc : (s.fV.bG (s.typed && s.c.run)).cls = s.cls := by rw [Fh]; unfold aY.fV; split <;> rfl
  unfold aY.jR
  rw [hc] at h2 ⊢
  dsimp only
  rw [if_pos h2]
theorem gZ {s s1 : aY} {on run : Bool} (h1 : s1 = s.fV) (hon : (s.typed && s.c.run) = on) (hrun : (s.typed && (!s.put.isEmpty || s.c.run)) = run) (h2 : (s1.bG on).cls = 2) :
    s.jR = { s1.bG on with c := { (s1.bG on).c with run := run, last := (s1.bG on).cls } } := by
  subst h1 hon hrun
  have hc : (s.fV.bG (s.typed && s.c.run)).cls = s.cls := by rw [Fh]; unfold aY.fV; split <;> rfl
  unfold aY.jR
  rw [hc] at h2 ⊢
  dsimp only
  rw [if_neg (by omega)]
theorem sO {s : aY} (h : lg s) : lg s.fV := by
  obtain ⟨h1, h2, h3, h4, h5, h6⟩ := h
  unfold aY.fV
  split
  · exact ⟨h1, fun h => Bool.noConfusion h, h3, h4, h5, h6⟩
  · exact ⟨h1, fun h => Bool.noConfusion h, ⟨by show (-1 : Int) ≤ -1; decide, by show (-1 : Int) ≤ 1000000; decide⟩, h4, h5, h6⟩
theorem lU {l : List eH} : l.isEmpty = decide (l.length = 0) := by cases l <;> rfl
section
variable {w0 w : World} {F : HP} {e p : Nat} {s : aY} {x : Int}
theorem Lj (hin : s.inn = true) (H : aB w0 w (dD e s • F)) : fQ prog 13 #[.pointer (some ⟨e, 0, none⟩), .int .i64 0] w fun v w' => v = .int .i64 0 ∧ aB w0 w' (dD e s.jR • F) := by
  have hpe : s.vT = 0 := by unfold aY.vT; rw [if_pos hin]
  refine gX func13 ntmps13 ?_
  dsimp only [bg, Nat.reduceAdd]
  refine ay (ah (aV rfl (aA (aj (ay (ay (ah (aO rfl (dw rfl func51 (gJ H) ?_)))))))))
  rintro _ _ ⟨rfl, rfl⟩
  refine aV rfl (aA (aj (ay (ah (aO rfl (aU (bZ rfl rfl) (aA (aj (aH rfl (fun h => by exfalso; (try simp only [aG] at h); exact h hpe) (fun h1 => ?_))))))))))
  (try simp only [aG] at h1)
  refine aS (aj (ay ?_))
  obtain ⟨nD, nN, nO, oG, nP, nR, nS, nT, mG, lu, lC, lD, lF, lG, lH, lI, lJ, lK, lM, lN, cZ, bC, gG, dn⟩ := (H).Ak
  refine ah (aO rfl (bH rfl (aZ 16 underlying66 rfl sizeOf4 rfl (aI (aN 16 (l' := [_, _, _, _, _, _, _, _, _, _, _, _, _, _, _, _, _, _, _, _, _, _, _, _, _, _, _, _, _, _, _, _, _, _]) dn sizeOf4 rfl rfl (by first | rfl | assumption) rfl rfl) ?_))))
  rintro _ w3 H3
  refine aA (aj (ay (ay (ah (aO rfl (bH rfl (aZ 31 underlying66 rfl sizeOf4 rfl (cO underlying4 rfl (H3).get.2 rfl (aU (kM rfl) (jo rfl (fun h2 => ?_) (fun h2 => ?_)))))))))))
  · (try simp only [aG] at h2)
    have har : s.argues = false := by simpa using h2
    have hs1 : ({ s.um with inn := false } : aY) = s.fV := by unfold aY.fV; rw [if_neg (by simp [har])]
    refine bI (bI (jO rfl rfl (aA (aj (yL (ah (aO rfl (aO rfl (aO rfl (bH rfl (aZ 13 underlying66 rfl sizeOf4 rfl (aI (aN 13 (l' := [_, _, _, _, _, _, _, _, _, _, _, _, _, _, _, _, _, _, _, _, _, _, _, _, _, _, _, _, _, _, _, _, _, _]) H3 sizeOf4 rfl rfl (by first | rfl | assumption) rfl rfl) ?_))))))))))))
    rintro _ w4 H4
    refine bH rfl (aZ 14 underlying66 rfl sizeOf4 rfl (aI (aN 14 (l' := [_, _, _, _, _, _, _, _, _, _, _, _, _, _, _, _, _, _, _, _, _, _, _, _, _, _, _, _, _, _, _, _, _, _]) H4 sizeOf4 rfl rfl (by first | rfl | assumption) rfl rfl) ?_))
    rintro _ w5 H5
    refine bH rfl (aZ 15 underlying66 rfl sizeOf3 rfl (aI (aN 15 (l' := [_, _, _, _, _, _, _, _, _, _, _, _, _, _, _, _, _, _, _, _, _, _, _, _, _, _, _, _, _, _, _, _, _, _]) H5 sizeOf3 rfl rfl (by first | rfl | assumption) rfl rfl) ?_))
    rintro _ w6 H6
    refine aA (aj (ay (ay (ah (aO rfl (aU (bZ rfl rfl) (aA (aj (aH rfl (fun h => by exfalso; (try simp only [aG] at h); simp at h) (fun h3 => ?_))))))))))
    (try simp only [aG] at h3)
    refine aS (aj (ay ?_))
    have Fj := H6.drew
    have gW := aB.kp (Fj.f11.f11.f11.f11.f11.f11.f11.f11.f11.f11.f11)
    refine uH [3, 9, 14] gW rfl (fU 0 rfl gW rfl (iT 1 rfl gW rfl (dP 2 rfl gW 28 underlying66 rfl sizeOf3 rfl (gQ 3 rfl gW (fun W hW => iI underlying3 rfl ((Kp.h hW)).get.2 rfl) (iJ 4 rfl gW (fun _ => dW rfl rfl) ?_)))))
    refine Au 5 rfl rfl (by kernel_rfl) (by kernel_rfl) gW (jq rfl) (fun h4 => ?_) (fun h4 => ?_)
    · (try simp only [aG] at h4)
      have hc3 : s.cls = 3 := h4
      refine dY 6 rfl rfl rfl (by kernel_rfl) (by kernel_rfl) gW (fun _ => zG rfl) (jq rfl) ?_
      refine dY 7 rfl rfl rfl (by kernel_rfl) (by kernel_rfl) gW (fun _ => Oo rfl) (jq rfl) ?_
      refine dY 8 rfl rfl rfl (by kernel_rfl) (by kernel_rfl) gW (fun _ => qM 32 underlying66 rfl rfl sizeOf4 (by decide) rfl rfl) (jq rfl) ?_
      refine lZ 9 rfl rfl rfl (by kernel_rfl) (by kernel_rfl) gW (by decide) (fun W hW => iC (dM underlying4 rfl) rfl (fJ ((Kp.h hW)).get.2 rfl)) (jq rfl) ?_
      refine iJ 10 rfl gW (fun _ => xP rfl rfl) (fU 11 rfl gW rfl (iT 12 rfl gW rfl (dP 13 rfl gW 33 underlying66 rfl sizeOf64 rfl (gQ 14 rfl gW (fun W hW => iI underlying64 rfl ((Kp.h hW)).get.2 rfl) (iJ 15 rfl gW (fun _ => fB ((Fj.f9).aT) underlying64 rfl) (iJ 16 rfl gW (fun _ => dQ rfl rfl) (iJ 17 rfl gW (fun _ => fO rfl) (iJ 18 rfl gW (fun _ => fO rfl) (mg (aj (ay (ah (aO rfl (aO rfl (jo rfl (fun h5 => ?_) (fun h5 => ?_))))))))))))))))
      · (try simp only [aG] at h5)
        have hwh : s.whole = true := h5
        have hty : s.typed = true := by unfold aY.typed; rw [hc3, hwh]; rfl
        refine bD (aO rfl (bD (bH rfl (bD (aZ 0 underlying66 rfl sizeOf62 rfl (bD (aZ 10 underlying62 rfl sizeOf4 rfl (bD (cO underlying4 rfl (Fj).get.2 rfl (jO rfl rfl ?_))))))))))
        have Hd7 := Fj.f11.right
        have HW0 := aB.zY (c := s.was) (u := [lu, lC, lD, lF, lG, lH, lI, lJ, lK, lM, lN]) Hd7
        obtain ⟨s1, kW, TU⟩ : ∃ s1, s1 = s.fV ∧ aB w0 (w6.drew) (dD e s1 • F) := ⟨_, hs1, aB.dG (hs1 ▸ sO cZ) bC HW0.f11.f11.f11.f11.f11.f11.f11.f11.f11.f11⟩
        have hr1 : s1.c.run = s.c.run := by rw [kW]; unfold aY.fV; split <;> rfl
        refine dw rfl func53 (ku TU) ?_
        rintro _ w8 H8
        obtain ⟨on, hon, HZ⟩ : ∃ on, (s.typed && s.c.run) = on ∧ aB w0 w8 (dD e (s1.bG on) • F) := ⟨_, by rw [hty]; rfl, H8⟩
        refine aA (aj (ay ?_))
        obtain ⟨nD, nN, nO, oG, nP, nR, nS, nT, mG, lu, lC, lD, lF, lG, lH, lI, lJ, lK, lM, lN, cZ, bC, gG, dn⟩ := (HZ).Ak
        refine ah (aO rfl (aO rfl (jo rfl (fun h6 => ?_) (fun h6 => ?_))))
        · (try simp only [aG] at h6)
          have hw2 : s.whole = true := h6
          refine bD (aO rfl (bD (jo rfl (fun h7 => ?_) (fun h7 => ?_))))
          · (try simp only [aG] at h7)
            have hrun : (s.typed && (!s.put.isEmpty || s.c.run)) = true := by first | exact absurd (hw2.symm.trans hwh) (by decide) | (rw [lU, decide_eq_false (show ¬ s.put.length = 0 by omega), hty]; rfl)
            refine bI (bI (bI (bI (bI (bD (jO rfl rfl (jO rfl rfl (bH rfl (aZ 0 underlying66 rfl sizeOf62 rfl (aZ 10 underlying62 rfl sizeOf4 rfl (aI (aN 10 (l' := [_, _, _, _, _, _, _, _, _, _, _, _, _, _, _, _, _, _, _, _, _, _, _, _, _, _, _, _, _, _, _, _, _, _]) dn sizeOf4 rfl rfl (by first | rfl | assumption) rfl rfl) ?_)))))))))))
            rintro _ w10 oP
            refine aA (aj (ay (ah (aO rfl (aO rfl (bH rfl (aZ 28 underlying66 rfl sizeOf3 rfl (cO underlying3 rfl (oP).get.2 rfl (bH rfl (aZ 0 underlying66 rfl sizeOf62 rfl (aZ 6 underlying62 rfl sizeOf3 rfl (aI (aN 6 (l' := [_, _, _, _, _, _, _, _, _, _, _, _, _, _, _, _, _, _, _, _, _, _, _, _, _, _, _, _, _, _, _, _, _, _]) oP sizeOf3 rfl rfl (by first | rfl | assumption) rfl rfl) ?_))))))))))))
            rintro _ FT uV
            refine aA (aj (ay (ay (ah (aO rfl (bH rfl (aZ 28 underlying66 rfl sizeOf3 rfl (cO underlying3 rfl (uV).get.2 rfl (aU (bZ rfl rfl) (aA (aj (aH rfl (fun h8 => ?_) (fun h8 => ?_)))))))))))))
            · (try simp only [aG] at h8)
              have qC := iP kW hon hrun h8
              refine ah (aO rfl (aO rfl (bH rfl (aZ 0 underlying66 rfl sizeOf62 rfl (aZ 7 underlying62 rfl sizeOf3 rfl (aI (aN 7 (l' := [_, _, _, _, _, _, _, _, _, _, _, _, _, _, _, _, _, _, _, _, _, _, _, _, _, _, _, _, _, _, _, _, _, _]) uV sizeOf3 rfl rfl (by first | rfl | assumption) rfl rfl) ?_))))))
              rintro _ w12 rV
              refine bH rfl (aZ 0 underlying66 rfl sizeOf62 rfl (aZ 8 underlying62 rfl sizeOf3 rfl (aI (aN 8 (l' := [_, _, _, _, _, _, _, _, _, _, _, _, _, _, _, _, _, _, _, _, _, _, _, _, _, _, _, _, _, _, _, _, _, _]) rV sizeOf3 rfl rfl (by first | rfl | assumption) rfl rfl) ?_)))
              rintro _ MB vZ
              refine aA (aj (ay (ah (aV rfl (aA (aj (aJ (aP (.inl rfl) results13 rfl ?_))))))))
              refine ⟨rfl, ?_⟩
              first
                | exact absurd (hw2.symm.trans hwh) (by decide)
                | exact absurd (hwh.symm.trans hw2) (by decide)
                | (rw [qC]; exact aB.dG cZ bC vZ.f11.f11.f11.f11.f11.f11.f11.f11.f11.f11.f11)
            · (try simp only [aG] at h8)
              have qC := gZ kW hon hrun h8
              refine aS (aj (ay (ah (aV rfl (aA (aj (aJ (aP (.inl rfl) results13 rfl ?_))))))))
              refine ⟨rfl, ?_⟩
              first
                | exact absurd (hw2.symm.trans hwh) (by decide)
                | exact absurd (hwh.symm.trans hw2) (by decide)
                | (rw [qC]; exact aB.dG cZ bC uV.f11.f11.f11.f11.f11.f11.f11.f11.f11.f11.f11)
          · (try simp only [aG] at h7)
            have hrun : (s.typed && (!s.put.isEmpty || s.c.run)) = (s1.bG on).c.run := by first | exact absurd (hw2.symm.trans hwh) (by decide) | (rw [lU, decide_eq_true (show s.put.length = 0 by omega), hty, wS, hr1]; rfl)
            refine bD (aO rfl (bD (bH rfl (bD (aZ 0 underlying66 rfl sizeOf62 rfl (bD (aZ 10 underlying62 rfl sizeOf4 rfl (bD (cO underlying4 rfl (dn).get.2 rfl (bD (jr rfl rfl (jO rfl rfl (bH rfl (aZ 0 underlying66 rfl sizeOf62 rfl (aZ 10 underlying62 rfl sizeOf4 rfl (aI (aN 10 (l' := [_, _, _, _, _, _, _, _, _, _, _, _, _, _, _, _, _, _, _, _, _, _, _, _, _, _, _, _, _, _, _, _, _, _]) dn sizeOf4 rfl rfl (by first | rfl | assumption) rfl rfl) ?_))))))))))))))))
            rintro _ JE uX
            refine aA (aj (ay (ah (aO rfl (aO rfl (bH rfl (aZ 28 underlying66 rfl sizeOf3 rfl (cO underlying3 rfl (uX).get.2 rfl (bH rfl (aZ 0 underlying66 rfl sizeOf62 rfl (aZ 6 underlying62 rfl sizeOf3 rfl (aI (aN 6 (l' := [_, _, _, _, _, _, _, _, _, _, _, _, _, _, _, _, _, _, _, _, _, _, _, _, _, _, _, _, _, _, _, _, _, _]) uX sizeOf3 rfl rfl (by first | rfl | assumption) rfl rfl) ?_))))))))))))
            rintro _ P8 yQ
            refine aA (aj (ay (ay (ah (aO rfl (bH rfl (aZ 28 underlying66 rfl sizeOf3 rfl (cO underlying3 rfl (yQ).get.2 rfl (aU (bZ rfl rfl) (aA (aj (aH rfl (fun h9 => ?_) (fun h9 => ?_)))))))))))))
            · (try simp only [aG] at h9)
              have qC := iP kW hon hrun h9
              refine ah (aO rfl (aO rfl (bH rfl (aZ 0 underlying66 rfl sizeOf62 rfl (aZ 7 underlying62 rfl sizeOf3 rfl (aI (aN 7 (l' := [_, _, _, _, _, _, _, _, _, _, _, _, _, _, _, _, _, _, _, _, _, _, _, _, _, _, _, _, _, _, _, _, _, _]) yQ sizeOf3 rfl rfl (by first | rfl | assumption) rfl rfl) ?_))))))
              rintro _ w16 qH
              refine bH rfl (aZ 0 underlying66 rfl sizeOf62 rfl (aZ 8 underlying62 rfl sizeOf3 rfl (aI (aN 8 (l' := [_, _, _, _, _, _, _, _, _, _, _, _, _, _, _, _, _, _, _, _, _, _, _, _, _, _, _, _, _, _, _, _, _, _]) qH sizeOf3 rfl rfl (by first | rfl | assumption) rfl rfl) ?_)))
              rintro _ UN Aj
              refine aA (aj (ay (ah (aV rfl (aA (aj (aJ (aP (.inl rfl) results13 rfl ?_))))))))
              refine ⟨rfl, ?_⟩
              first
                | exact absurd (hw2.symm.trans hwh) (by decide)
                | exact absurd (hwh.symm.trans hw2) (by decide)
                | (rw [qC]; exact aB.dG cZ bC Aj.f11.f11.f11.f11.f11.f11.f11.f11.f11.f11.f11)
            · (try simp only [aG] at h9)
              have qC := gZ kW hon hrun h9
              refine aS (aj (ay (ah (aV rfl (aA (aj (aJ (aP (.inl rfl) results13 rfl ?_))))))))
              refine ⟨rfl, ?_⟩
              first
                | exact absurd (hw2.symm.trans hwh) (by decide)
                | exact absurd (hwh.symm.trans hw2) (by decide)
                | (rw [qC]; exact aB.dG cZ bC yQ.f11.f11.f11.f11.f11.f11.f11.f11.f11.f11.f11)
        · (try simp only [aG] at h6)
          have hw2 : s.whole = false := by simpa using h6
          have hrun : (s.typed && (!s.put.isEmpty || s.c.run)) = false := by first | exact absurd (hwh.symm.trans hw2) (by decide) | (rw [hty]; rfl)
          refine bI (bI (oJ (oJ (oJ (oJ (oJ (bI (jr rfl rfl (bH rfl (aZ 0 underlying66 rfl sizeOf62 rfl (aZ 10 underlying62 rfl sizeOf4 rfl (aI (aN 10 (l' := [_, _, _, _, _, _, _, _, _, _, _, _, _, _, _, _, _, _, _, _, _, _, _, _, _, _, _, _, _, _, _, _, _, _]) dn sizeOf4 rfl rfl (by first | rfl | assumption) rfl rfl) ?_))))))))))))
          rintro _ UO BF
          refine aA (aj (ay (ah (aO rfl (aO rfl (bH rfl (aZ 28 underlying66 rfl sizeOf3 rfl (cO underlying3 rfl (BF).get.2 rfl (bH rfl (aZ 0 underlying66 rfl sizeOf62 rfl (aZ 6 underlying62 rfl sizeOf3 rfl (aI (aN 6 (l' := [_, _, _, _, _, _, _, _, _, _, _, _, _, _, _, _, _, _, _, _, _, _, _, _, _, _, _, _, _, _, _, _, _, _]) BF sizeOf3 rfl rfl (by first | rfl | assumption) rfl rfl) ?_))))))))))))
          rintro _ UQ xk
          refine aA (aj (ay (ay (ah (aO rfl (bH rfl (aZ 28 underlying66 rfl sizeOf3 rfl (cO underlying3 rfl (xk).get.2 rfl (aU (bZ rfl rfl) (aA (aj (aH rfl (fun h10 => ?_) (fun h10 => ?_)))))))))))))
          · (try simp only [aG] at h10)
            have qC := iP kW hon hrun h10
            refine ah (aO rfl (aO rfl (bH rfl (aZ 0 underlying66 rfl sizeOf62 rfl (aZ 7 underlying62 rfl sizeOf3 rfl (aI (aN 7 (l' := [_, _, _, _, _, _, _, _, _, _, _, _, _, _, _, _, _, _, _, _, _, _, _, _, _, _, _, _, _, _, _, _, _, _]) xk sizeOf3 rfl rfl (by first | rfl | assumption) rfl rfl) ?_))))))
            rintro _ Vh yR
            refine bH rfl (aZ 0 underlying66 rfl sizeOf62 rfl (aZ 8 underlying62 rfl sizeOf3 rfl (aI (aN 8 (l' := [_, _, _, _, _, _, _, _, _, _, _, _, _, _, _, _, _, _, _, _, _, _, _, _, _, _, _, _, _, _, _, _, _, _]) yR sizeOf3 rfl rfl (by first | rfl | assumption) rfl rfl) ?_)))
            rintro _ Vj oQ
            refine aA (aj (ay (ah (aV rfl (aA (aj (aJ (aP (.inl rfl) results13 rfl ?_))))))))
            refine ⟨rfl, ?_⟩
            first
              | exact absurd (hw2.symm.trans hwh) (by decide)
              | exact absurd (hwh.symm.trans hw2) (by decide)
              | (rw [qC]; exact aB.dG cZ bC oQ.f11.f11.f11.f11.f11.f11.f11.f11.f11.f11.f11)
          · (try simp only [aG] at h10)
            have qC := gZ kW hon hrun h10
            refine aS (aj (ay (ah (aV rfl (aA (aj (aJ (aP (.inl rfl) results13 rfl ?_))))))))
            refine ⟨rfl, ?_⟩
            first
              | exact absurd (hw2.symm.trans hwh) (by decide)
              | exact absurd (hwh.symm.trans hw2) (by decide)
              | (rw [qC]; exact aB.dG cZ bC xk.f11.f11.f11.f11.f11.f11.f11.f11.f11.f11.f11)
      · (try simp only [aG] at h5)
        have hwh : s.whole = false := by simpa using h5
        have hty : s.typed = false := by unfold aY.typed; rw [hc3, hwh]; rfl
        have hrun : (s.typed && (!s.put.isEmpty || s.c.run)) = false := by rw [hty]; rfl
        refine bI (bI (bI (bI (bI (jr rfl rfl ?_)))))
        have Jj := Fj.f11.right
        have HW0 := aB.zY (c := s.was) (u := [lu, lC, lD, lF, lG, lH, lI, lJ, lK, lM, lN]) Jj
        obtain ⟨s1, kW, TU⟩ : ∃ s1, s1 = s.fV ∧ aB w0 (w6.drew) (dD e s1 • F) := ⟨_, hs1, aB.dG (hs1 ▸ sO cZ) bC HW0.f11.f11.f11.f11.f11.f11.f11.f11.f11.f11⟩
        have hr1 : s1.c.run = s.c.run := by rw [kW]; unfold aY.fV; split <;> rfl
        refine dw rfl func53 (ku TU) ?_
        rintro _ RJ tY
        obtain ⟨on, hon, HZ⟩ : ∃ on, (s.typed && s.c.run) = on ∧ aB w0 RJ (dD e (s1.bG on) • F) := ⟨_, by rw [hty]; rfl, tY⟩
        refine aA (aj (ay ?_))
        obtain ⟨nD, nN, nO, oG, nP, nR, nS, nT, mG, lu, lC, lD, lF, lG, lH, lI, lJ, lK, lM, lN, cZ, bC, gG, dn⟩ := (HZ).Ak
        refine ah (aO rfl (aO rfl (jo rfl (fun h11 => ?_) (fun h11 => ?_))))
        · (try simp only [aG] at h11)
          have hw2 : s.whole = true := h11
          refine bD (aO rfl (bD (jo rfl (fun h12 => ?_) (fun h12 => ?_))))
          · (try simp only [aG] at h12)
            have hrun : (s.typed && (!s.put.isEmpty || s.c.run)) = true := by first | exact absurd (hw2.symm.trans hwh) (by decide) | (rw [lU, decide_eq_false (show ¬ s.put.length = 0 by omega), hty]; rfl)
            refine bI (bI (bI (bI (bI (bD (jO rfl rfl (jO rfl rfl (bH rfl (aZ 0 underlying66 rfl sizeOf62 rfl (aZ 10 underlying62 rfl sizeOf4 rfl (aI (aN 10 (l' := [_, _, _, _, _, _, _, _, _, _, _, _, _, _, _, _, _, _, _, _, _, _, _, _, _, _, _, _, _, _, _, _, _, _]) dn sizeOf4 rfl rfl (by first | rfl | assumption) rfl rfl) ?_)))))))))))
            rintro _ Yt G6
            refine aA (aj (ay (ah (aO rfl (aO rfl (bH rfl (aZ 28 underlying66 rfl sizeOf3 rfl (cO underlying3 rfl (G6).get.2 rfl (bH rfl (aZ 0 underlying66 rfl sizeOf62 rfl (aZ 6 underlying62 rfl sizeOf3 rfl (aI (aN 6 (l' := [_, _, _, _, _, _, _, _, _, _, _, _, _, _, _, _, _, _, _, _, _, _, _, _, _, _, _, _, _, _, _, _, _, _]) G6 sizeOf3 rfl rfl (by first | rfl | assumption) rfl rfl) ?_))))))))))))
            rintro _ Yu JZ
            refine aA (aj (ay (ay (ah (aO rfl (bH rfl (aZ 28 underlying66 rfl sizeOf3 rfl (cO underlying3 rfl (JZ).get.2 rfl (aU (bZ rfl rfl) (aA (aj (aH rfl (fun h13 => ?_) (fun h13 => ?_)))))))))))))
            · (try simp only [aG] at h13)
              have qC := iP kW hon hrun h13
              refine ah (aO rfl (aO rfl (bH rfl (aZ 0 underlying66 rfl sizeOf62 rfl (aZ 7 underlying62 rfl sizeOf3 rfl (aI (aN 7 (l' := [_, _, _, _, _, _, _, _, _, _, _, _, _, _, _, _, _, _, _, _, _, _, _, _, _, _, _, _, _, _, _, _, _, _]) JZ sizeOf3 rfl rfl (by first | rfl | assumption) rfl rfl) ?_))))))
              rintro _ Yv FZ
              refine bH rfl (aZ 0 underlying66 rfl sizeOf62 rfl (aZ 8 underlying62 rfl sizeOf3 rfl (aI (aN 8 (l' := [_, _, _, _, _, _, _, _, _, _, _, _, _, _, _, _, _, _, _, _, _, _, _, _, _, _, _, _, _, _, _, _, _, _]) FZ sizeOf3 rfl rfl (by first | rfl | assumption) rfl rfl) ?_)))
              rintro _ w28 RN
              refine aA (aj (ay (ah (aV rfl (aA (aj (aJ (aP (.inl rfl) results13 rfl ?_))))))))
              refine ⟨rfl, ?_⟩
              first
                | exact absurd (hw2.symm.trans hwh) (by decide)
                | exact absurd (hwh.symm.trans hw2) (by decide)
                | (rw [qC]; exact aB.dG cZ bC RN.f11.f11.f11.f11.f11.f11.f11.f11.f11.f11.f11)
            · (try simp only [aG] at h13)
              have qC := gZ kW hon hrun h13
              refine aS (aj (ay (ah (aV rfl (aA (aj (aJ (aP (.inl rfl) results13 rfl ?_))))))))
              refine ⟨rfl, ?_⟩
              first
                | exact absurd (hw2.symm.trans hwh) (by decide)
                | exact absurd (hwh.symm.trans hw2) (by decide)
                | (rw [qC]; exact aB.dG cZ bC JZ.f11.f11.f11.f11.f11.f11.f11.f11.f11.f11.f11)
          · (try simp only [aG] at h12)
            have hrun : (s.typed && (!s.put.isEmpty || s.c.run)) = (s1.bG on).c.run := by first | exact absurd (hw2.symm.trans hwh) (by decide) | (rw [lU, decide_eq_true (show s.put.length = 0 by omega), hty, wS, hr1]; rfl)
            refine bD (aO rfl (bD (bH rfl (bD (aZ 0 underlying66 rfl sizeOf62 rfl (bD (aZ 10 underlying62 rfl sizeOf4 rfl (bD (cO underlying4 rfl (dn).get.2 rfl (bD (jr rfl rfl (jO rfl rfl (bH rfl (aZ 0 underlying66 rfl sizeOf62 rfl (aZ 10 underlying62 rfl sizeOf4 rfl (aI (aN 10 (l' := [_, _, _, _, _, _, _, _, _, _, _, _, _, _, _, _, _, _, _, _, _, _, _, _, _, _, _, _, _, _, _, _, _, _]) dn sizeOf4 rfl rfl (by first | rfl | assumption) rfl rfl) ?_))))))))))))))))
            rintro _ w29 RP
            refine aA (aj (ay (ah (aO rfl (aO rfl (bH rfl (aZ 28 underlying66 rfl sizeOf3 rfl (cO underlying3 rfl (RP).get.2 rfl (bH rfl (aZ 0 underlying66 rfl sizeOf62 rfl (aZ 6 underlying62 rfl sizeOf3 rfl (aI (aN 6 (l' := [_, _, _, _, _, _, _, _, _, _, _, _, _, _, _, _, _, _, _, _, _, _, _, _, _, _, _, _, _, _, _, _, _, _]) RP sizeOf3 rfl rfl (by first | rfl | assumption) rfl rfl) ?_))))))))))))
            rintro _ w30 MV
            refine aA (aj (ay (ay (ah (aO rfl (bH rfl (aZ 28 underlying66 rfl sizeOf3 rfl (cO underlying3 rfl (MV).get.2 rfl (aU (bZ rfl rfl) (aA (aj (aH rfl (fun h14 => ?_) (fun h14 => ?_)))))))))))))
            · (try simp only [aG] at h14)
              have qC := iP kW hon hrun h14
              refine ah (aO rfl (aO rfl (bH rfl (aZ 0 underlying66 rfl sizeOf62 rfl (aZ 7 underlying62 rfl sizeOf3 rfl (aI (aN 7 (l' := [_, _, _, _, _, _, _, _, _, _, _, _, _, _, _, _, _, _, _, _, _, _, _, _, _, _, _, _, _, _, _, _, _, _]) MV sizeOf3 rfl rfl (by first | rfl | assumption) rfl rfl) ?_))))))
              rintro _ Yw IQ
              refine bH rfl (aZ 0 underlying66 rfl sizeOf62 rfl (aZ 8 underlying62 rfl sizeOf3 rfl (aI (aN 8 (l' := [_, _, _, _, _, _, _, _, _, _, _, _, _, _, _, _, _, _, _, _, _, _, _, _, _, _, _, _, _, _, _, _, _, _]) IQ sizeOf3 rfl rfl (by first | rfl | assumption) rfl rfl) ?_)))
              rintro _ Xj FU
              refine aA (aj (ay (ah (aV rfl (aA (aj (aJ (aP (.inl rfl) results13 rfl ?_))))))))
              refine ⟨rfl, ?_⟩
              first
                | exact absurd (hw2.symm.trans hwh) (by decide)
                | exact absurd (hwh.symm.trans hw2) (by decide)
                | (rw [qC]; exact aB.dG cZ bC FU.f11.f11.f11.f11.f11.f11.f11.f11.f11.f11.f11)
            · (try simp only [aG] at h14)
              have qC := gZ kW hon hrun h14
              refine aS (aj (ay (ah (aV rfl (aA (aj (aJ (aP (.inl rfl) results13 rfl ?_))))))))
              refine ⟨rfl, ?_⟩
              first
                | exact absurd (hw2.symm.trans hwh) (by decide)
                | exact absurd (hwh.symm.trans hw2) (by decide)
                | (rw [qC]; exact aB.dG cZ bC MV.f11.f11.f11.f11.f11.f11.f11.f11.f11.f11.f11)
        · (try simp only [aG] at h11)
          have hw2 : s.whole = false := by simpa using h11
          have hrun : (s.typed && (!s.put.isEmpty || s.c.run)) = false := by first | exact absurd (hwh.symm.trans hw2) (by decide) | (rw [hty]; rfl)
          refine bI (bI (oJ (oJ (oJ (oJ (oJ (bI (jr rfl rfl (bH rfl (aZ 0 underlying66 rfl sizeOf62 rfl (aZ 10 underlying62 rfl sizeOf4 rfl (aI (aN 10 (l' := [_, _, _, _, _, _, _, _, _, _, _, _, _, _, _, _, _, _, _, _, _, _, _, _, _, _, _, _, _, _, _, _, _, _]) dn sizeOf4 rfl rfl (by first | rfl | assumption) rfl rfl) ?_))))))))))))
          rintro _ w33 P9
          refine aA (aj (ay (ah (aO rfl (aO rfl (bH rfl (aZ 28 underlying66 rfl sizeOf3 rfl (cO underlying3 rfl (P9).get.2 rfl (bH rfl (aZ 0 underlying66 rfl sizeOf62 rfl (aZ 6 underlying62 rfl sizeOf3 rfl (aI (aN 6 (l' := [_, _, _, _, _, _, _, _, _, _, _, _, _, _, _, _, _, _, _, _, _, _, _, _, _, _, _, _, _, _, _, _, _, _]) P9 sizeOf3 rfl rfl (by first | rfl | assumption) rfl rfl) ?_))))))))))))
          rintro _ w34 Tz
          refine aA (aj (ay (ay (ah (aO rfl (bH rfl (aZ 28 underlying66 rfl sizeOf3 rfl (cO underlying3 rfl (Tz).get.2 rfl (aU (bZ rfl rfl) (aA (aj (aH rfl (fun h15 => ?_) (fun h15 => ?_)))))))))))))
          · (try simp only [aG] at h15)
            have qC := iP kW hon hrun h15
            refine ah (aO rfl (aO rfl (bH rfl (aZ 0 underlying66 rfl sizeOf62 rfl (aZ 7 underlying62 rfl sizeOf3 rfl (aI (aN 7 (l' := [_, _, _, _, _, _, _, _, _, _, _, _, _, _, _, _, _, _, _, _, _, _, _, _, _, _, _, _, _, _, _, _, _, _]) Tz sizeOf3 rfl rfl (by first | rfl | assumption) rfl rfl) ?_))))))
            rintro _ w35 XM
            refine bH rfl (aZ 0 underlying66 rfl sizeOf62 rfl (aZ 8 underlying62 rfl sizeOf3 rfl (aI (aN 8 (l' := [_, _, _, _, _, _, _, _, _, _, _, _, _, _, _, _, _, _, _, _, _, _, _, _, _, _, _, _, _, _, _, _, _, _]) XM sizeOf3 rfl rfl (by first | rfl | assumption) rfl rfl) ?_)))
            rintro _ w36 YB
            refine aA (aj (ay (ah (aV rfl (aA (aj (aJ (aP (.inl rfl) results13 rfl ?_))))))))
            refine ⟨rfl, ?_⟩
            first
              | exact absurd (hw2.symm.trans hwh) (by decide)
              | exact absurd (hwh.symm.trans hw2) (by decide)
              | (rw [qC]; exact aB.dG cZ bC YB.f11.f11.f11.f11.f11.f11.f11.f11.f11.f11.f11)
          · (try simp only [aG] at h15)
            have qC := gZ kW hon hrun h15
            refine aS (aj (ay (ah (aV rfl (aA (aj (aJ (aP (.inl rfl) results13 rfl ?_))))))))
            refine ⟨rfl, ?_⟩
            first
              | exact absurd (hw2.symm.trans hwh) (by decide)
              | exact absurd (hwh.symm.trans hw2) (by decide)
              | (rw [qC]; exact aB.dG cZ bC Tz.f11.f11.f11.f11.f11.f11.f11.f11.f11.f11.f11)
    · (try simp only [aG] at h4)
      have hty : s.typed = false := by unfold aY.typed; rw [beq_false_of_ne h4]; rfl
      have hrun : (s.typed && (!s.put.isEmpty || s.c.run)) = false := by rw [hty]; rfl
      refine kG 6 rfl rfl rfl rfl (by kernel_rfl) (by kernel_rfl) gW (jq rfl) ?_
      refine kG 7 rfl rfl rfl rfl (by kernel_rfl) (by kernel_rfl) gW (jq rfl) ?_
      refine kG 8 rfl rfl rfl rfl (by kernel_rfl) (by kernel_rfl) gW (jq rfl) ?_
      refine kG 9 rfl rfl rfl rfl (by kernel_rfl) (by kernel_rfl) gW (jq rfl) ?_
      refine iJ 10 rfl gW (fun _ => xQ rfl rfl) (fU 11 rfl gW rfl (iT 12 rfl gW rfl (dP 13 rfl gW 33 underlying66 rfl sizeOf64 rfl (gQ 14 rfl gW (fun W hW => iI underlying64 rfl ((Kp.h hW)).get.2 rfl) (iJ 15 rfl gW (fun _ => fB ((Fj.f9).aT) underlying64 rfl) (iJ 16 rfl gW (fun _ => dQ rfl rfl) (iJ 17 rfl gW (fun _ => fO rfl) (iJ 18 rfl gW (fun _ => fO rfl) (mg (aj (ay (ah (aO rfl (aO rfl (aO rfl (bI (bI (bI (bI (bI (jr rfl rfl ?_)))))))))))))))))))))
      have XZ := Fj.f11.right
      have HW0 := aB.zY (c := s.was) (u := [lu, lC, lD, lF, lG, lH, lI, lJ, lK, lM, lN]) XZ
      obtain ⟨s1, kW, TU⟩ : ∃ s1, s1 = s.fV ∧ aB w0 (w6.drew) (dD e s1 • F) := ⟨_, hs1, aB.dG (hs1 ▸ sO cZ) bC HW0.f11.f11.f11.f11.f11.f11.f11.f11.f11.f11⟩
      have hr1 : s1.c.run = s.c.run := by rw [kW]; unfold aY.fV; split <;> rfl
      refine dw rfl func53 (ku TU) ?_
      rintro _ Y3 NQ
      obtain ⟨on, hon, HZ⟩ : ∃ on, (s.typed && s.c.run) = on ∧ aB w0 Y3 (dD e (s1.bG on) • F) := ⟨_, by rw [hty]; rfl, NQ⟩
      refine aA (aj (ay ?_))
      obtain ⟨nD, nN, nO, oG, nP, nR, nS, nT, mG, lu, lC, lD, lF, lG, lH, lI, lJ, lK, lM, lN, cZ, bC, gG, dn⟩ := (HZ).Ak
      refine ah (aO rfl (aO rfl (aO rfl (bI (bI (oJ (oJ (oJ (oJ (oJ (bI (jr rfl rfl (bH rfl (aZ 0 underlying66 rfl sizeOf62 rfl (aZ 10 underlying62 rfl sizeOf4 rfl (aI (aN 10 (l' := [_, _, _, _, _, _, _, _, _, _, _, _, _, _, _, _, _, _, _, _, _, _, _, _, _, _, _, _, _, _, _, _, _, _]) dn sizeOf4 rfl rfl (by first | rfl | assumption) rfl rfl) ?_))))))))))))))))
      rintro _ w40 ZV
      refine aA (aj (ay (ah (aO rfl (aO rfl (bH rfl (aZ 28 underlying66 rfl sizeOf3 rfl (cO underlying3 rfl (ZV).get.2 rfl (bH rfl (aZ 0 underlying66 rfl sizeOf62 rfl (aZ 6 underlying62 rfl sizeOf3 rfl (aI (aN 6 (l' := [_, _, _, _, _, _, _, _, _, _, _, _, _, _, _, _, _, _, _, _, _, _, _, _, _, _, _, _, _, _, _, _, _, _]) ZV sizeOf3 rfl rfl (by first | rfl | assumption) rfl rfl) ?_))))))))))))
      rintro _ w41 Vy
      refine aA (aj (ay (ay (ah (aO rfl (bH rfl (aZ 28 underlying66 rfl sizeOf3 rfl (cO underlying3 rfl (Vy).get.2 rfl (aU (bZ rfl rfl) (aA (aj (aH rfl (fun h16 => ?_) (fun h16 => ?_)))))))))))))
      · (try simp only [aG] at h16)
        have qC := iP kW hon hrun h16
        refine ah (aO rfl (aO rfl (bH rfl (aZ 0 underlying66 rfl sizeOf62 rfl (aZ 7 underlying62 rfl sizeOf3 rfl (aI (aN 7 (l' := [_, _, _, _, _, _, _, _, _, _, _, _, _, _, _, _, _, _, _, _, _, _, _, _, _, _, _, _, _, _, _, _, _, _]) Vy sizeOf3 rfl rfl (by first | rfl | assumption) rfl rfl) ?_))))))
        rintro _ w42 XO
        refine bH rfl (aZ 0 underlying66 rfl sizeOf62 rfl (aZ 8 underlying62 rfl sizeOf3 rfl (aI (aN 8 (l' := [_, _, _, _, _, _, _, _, _, _, _, _, _, _, _, _, _, _, _, _, _, _, _, _, _, _, _, _, _, _, _, _, _, _]) XO sizeOf3 rfl rfl (by first | rfl | assumption) rfl rfl) ?_)))
        rintro _ w43 XP
        refine aA (aj (ay (ah (aV rfl (aA (aj (aJ (aP (.inl rfl) results13 rfl ?_))))))))
        refine ⟨rfl, ?_⟩
        first
          | exact absurd (hw2.symm.trans hwh) (by decide)
          | exact absurd (hwh.symm.trans hw2) (by decide)
          | (rw [qC]; exact aB.dG cZ bC XP.f11.f11.f11.f11.f11.f11.f11.f11.f11.f11.f11)
      · (try simp only [aG] at h16)
        have qC := gZ kW hon hrun h16
        refine aS (aj (ay (ah (aV rfl (aA (aj (aJ (aP (.inl rfl) results13 rfl ?_))))))))
        refine ⟨rfl, ?_⟩
        first
          | exact absurd (hw2.symm.trans hwh) (by decide)
          | exact absurd (hwh.symm.trans hw2) (by decide)
          | (rw [qC]; exact aB.dG cZ bC Vy.f11.f11.f11.f11.f11.f11.f11.f11.f11.f11.f11)
  · (try simp only [aG] at h2)
    have har : s.argues = true := by simpa using h2
    have hs1 : ({ s with inn := false } : aY) = s.fV := by unfold aY.fV; rw [if_pos har]
    refine bD (aO rfl (bD (aU (bZ rfl rfl) (jr rfl rfl (aA (aj (aH rfl (fun h => by exfalso; (try simp only [aG] at h); simp at h) (fun h17 => ?_))))))))
    (try simp only [aG] at h17)
    refine aS (aj (ay (ay (ah (aO rfl (aU (bZ rfl rfl) (aA (aj (aH rfl (fun h => by exfalso; (try simp only [aG] at h); simp at h) (fun h18 => ?_))))))))))
    (try simp only [aG] at h18)
    refine aS (aj (ay ?_))
    have Ad := H3.drew
    have fD := aB.kp (Ad.f11.f11.f11.f11.f11.f11.f11.f11.f11.f11.f11)
    refine uH [3, 9, 14] fD rfl (fU 0 rfl fD rfl (iT 1 rfl fD rfl (dP 2 rfl fD 28 underlying66 rfl sizeOf3 rfl (gQ 3 rfl fD (fun W hW => iI underlying3 rfl ((Kp.h hW)).get.2 rfl) (iJ 4 rfl fD (fun _ => dW rfl rfl) ?_)))))
    refine Au 5 rfl rfl (by kernel_rfl) (by kernel_rfl) fD (jq rfl) (fun h19 => ?_) (fun h19 => ?_)
    · (try simp only [aG] at h19)
      have hc3 : s.cls = 3 := h19
      refine dY 6 rfl rfl rfl (by kernel_rfl) (by kernel_rfl) fD (fun _ => zG rfl) (jq rfl) ?_
      refine dY 7 rfl rfl rfl (by kernel_rfl) (by kernel_rfl) fD (fun _ => Oo rfl) (jq rfl) ?_
      refine dY 8 rfl rfl rfl (by kernel_rfl) (by kernel_rfl) fD (fun _ => qM 32 underlying66 rfl rfl sizeOf4 (by decide) rfl rfl) (jq rfl) ?_
      refine lZ 9 rfl rfl rfl (by kernel_rfl) (by kernel_rfl) fD (by decide) (fun W hW => iC (dM underlying4 rfl) rfl (fJ ((Kp.h hW)).get.2 rfl)) (jq rfl) ?_
      refine iJ 10 rfl fD (fun _ => xP rfl rfl) (fU 11 rfl fD rfl (iT 12 rfl fD rfl (dP 13 rfl fD 33 underlying66 rfl sizeOf64 rfl (gQ 14 rfl fD (fun W hW => iI underlying64 rfl ((Kp.h hW)).get.2 rfl) (iJ 15 rfl fD (fun _ => fB ((Ad.f9).aT) underlying64 rfl) (iJ 16 rfl fD (fun _ => dQ rfl rfl) (iJ 17 rfl fD (fun _ => fO rfl) (iJ 18 rfl fD (fun _ => fO rfl) (mg (aj (ay (ah (aO rfl (aO rfl (jo rfl (fun h20 => ?_) (fun h20 => ?_))))))))))))))))
      · (try simp only [aG] at h20)
        have hwh : s.whole = true := h20
        have hty : s.typed = true := by unfold aY.typed; rw [hc3, hwh]; rfl
        refine bD (aO rfl (bD (bH rfl (bD (aZ 0 underlying66 rfl sizeOf62 rfl (bD (aZ 10 underlying62 rfl sizeOf4 rfl (bD (cO underlying4 rfl (Ad).get.2 rfl (jO rfl rfl ?_))))))))))
        have abA := Ad.f11.right
        have HW0 := aB.zY (c := s.was) (u := [lu, lC, lD, lF, lG, lH, lI, lJ, lK, lM, lN]) abA
        obtain ⟨s1, kW, TU⟩ : ∃ s1, s1 = s.fV ∧ aB w0 (w3.drew) (dD e s1 • F) := ⟨_, hs1, aB.dG (hs1 ▸ sO cZ) bC HW0.f11.f11.f11.f11.f11.f11.f11.f11.f11.f11⟩
        have hr1 : s1.c.run = s.c.run := by rw [kW]; unfold aY.fV; split <;> rfl
        refine dw rfl func53 (ku TU) ?_
        rintro _ w45 MC
        obtain ⟨on, hon, HZ⟩ : ∃ on, (s.typed && s.c.run) = on ∧ aB w0 w45 (dD e (s1.bG on) • F) := ⟨_, by rw [hty]; rfl, MC⟩
        refine aA (aj (ay ?_))
        obtain ⟨nD, nN, nO, oG, nP, nR, nS, nT, mG, lu, lC, lD, lF, lG, lH, lI, lJ, lK, lM, lN, cZ, bC, gG, dn⟩ := (HZ).Ak
        refine ah (aO rfl (aO rfl (jo rfl (fun h21 => ?_) (fun h21 => ?_))))
        · (try simp only [aG] at h21)
          have hw2 : s.whole = true := h21
          refine bD (aO rfl (bD (jo rfl (fun h22 => ?_) (fun h22 => ?_))))
          · (try simp only [aG] at h22)
            have hrun : (s.typed && (!s.put.isEmpty || s.c.run)) = true := by first | exact absurd (hw2.symm.trans hwh) (by decide) | (rw [lU, decide_eq_false (show ¬ s.put.length = 0 by omega), hty]; rfl)
            refine bI (bI (bI (bI (bI (bD (jO rfl rfl (jO rfl rfl (bH rfl (aZ 0 underlying66 rfl sizeOf62 rfl (aZ 10 underlying62 rfl sizeOf4 rfl (aI (aN 10 (l' := [_, _, _, _, _, _, _, _, _, _, _, _, _, _, _, _, _, _, _, _, _, _, _, _, _, _, _, _, _, _, _, _, _, _]) dn sizeOf4 rfl rfl (by first | rfl | assumption) rfl rfl) ?_)))))))))))
            rintro _ w47 X0
            refine aA (aj (ay (ah (aO rfl (aO rfl (bH rfl (aZ 28 underlying66 rfl sizeOf3 rfl (cO underlying3 rfl (X0).get.2 rfl (bH rfl (aZ 0 underlying66 rfl sizeOf62 rfl (aZ 6 underlying62 rfl sizeOf3 rfl (aI (aN 6 (l' := [_, _, _, _, _, _, _, _, _, _, _, _, _, _, _, _, _, _, _, _, _, _, _, _, _, _, _, _, _, _, _, _, _, _]) X0 sizeOf3 rfl rfl (by first | rfl | assumption) rfl rfl) ?_))))))))))))
            rintro _ w48 H48
            refine aA (aj (ay (ay (ah (aO rfl (bH rfl (aZ 28 underlying66 rfl sizeOf3 rfl (cO underlying3 rfl (H48).get.2 rfl (aU (bZ rfl rfl) (aA (aj (aH rfl (fun h23 => ?_) (fun h23 => ?_)))))))))))))
            · (try simp only [aG] at h23)
              have qC := iP kW hon hrun h23
              refine ah (aO rfl (aO rfl (bH rfl (aZ 0 underlying66 rfl sizeOf62 rfl (aZ 7 underlying62 rfl sizeOf3 rfl (aI (aN 7 (l' := [_, _, _, _, _, _, _, _, _, _, _, _, _, _, _, _, _, _, _, _, _, _, _, _, _, _, _, _, _, _, _, _, _, _]) H48 sizeOf3 rfl rfl (by first | rfl | assumption) rfl rfl) ?_))))))
              rintro _ w49 H49
              refine bH rfl (aZ 0 underlying66 rfl sizeOf62 rfl (aZ 8 underlying62 rfl sizeOf3 rfl (aI (aN 8 (l' := [_, _, _, _, _, _, _, _, _, _, _, _, _, _, _, _, _, _, _, _, _, _, _, _, _, _, _, _, _, _, _, _, _, _]) H49 sizeOf3 rfl rfl (by first | rfl | assumption) rfl rfl) ?_)))
              rintro _ w50 YC
              refine aA (aj (ay (ah (aV rfl (aA (aj (aJ (aP (.inl rfl) results13 rfl ?_))))))))
              refine ⟨rfl, ?_⟩
              first
                | exact absurd (hw2.symm.trans hwh) (by decide)
                | exact absurd (hwh.symm.trans hw2) (by decide)
                | (rw [qC]; exact aB.dG cZ bC YC.f11.f11.f11.f11.f11.f11.f11.f11.f11.f11.f11)
            · (try simp only [aG] at h23)
              have qC := gZ kW hon hrun h23
              refine aS (aj (ay (ah (aV rfl (aA (aj (aJ (aP (.inl rfl) results13 rfl ?_))))))))
              refine ⟨rfl, ?_⟩
              first
                | exact absurd (hw2.symm.trans hwh) (by decide)
                | exact absurd (hwh.symm.trans hw2) (by decide)
                | (rw [qC]; exact aB.dG cZ bC H48.f11.f11.f11.f11.f11.f11.f11.f11.f11.f11.f11)
          · (try simp only [aG] at h22)
            have hrun : (s.typed && (!s.put.isEmpty || s.c.run)) = (s1.bG on).c.run := by first | exact absurd (hw2.symm.trans hwh) (by decide) | (rw [lU, decide_eq_true (show s.put.length = 0 by omega), hty, wS, hr1]; rfl)
            refine bD (aO rfl (bD (bH rfl (bD (aZ 0 underlying66 rfl sizeOf62 rfl (bD (aZ 10 underlying62 rfl sizeOf4 rfl (bD (cO underlying4 rfl (dn).get.2 rfl (bD (jr rfl rfl (jO rfl rfl (bH rfl (aZ 0 underlying66 rfl sizeOf62 rfl (aZ 10 underlying62 rfl sizeOf4 rfl (aI (aN 10 (l' := [_, _, _, _, _, _, _, _, _, _, _, _, _, _, _, _, _, _, _, _, _, _, _, _, _, _, _, _, _, _, _, _, _, _]) dn sizeOf4 rfl rfl (by first | rfl | assumption) rfl rfl) ?_))))))))))))))))
            rintro _ w51 XQ
            refine aA (aj (ay (ah (aO rfl (aO rfl (bH rfl (aZ 28 underlying66 rfl sizeOf3 rfl (cO underlying3 rfl (XQ).get.2 rfl (bH rfl (aZ 0 underlying66 rfl sizeOf62 rfl (aZ 6 underlying62 rfl sizeOf3 rfl (aI (aN 6 (l' := [_, _, _, _, _, _, _, _, _, _, _, _, _, _, _, _, _, _, _, _, _, _, _, _, _, _, _, _, _, _, _, _, _, _]) XQ sizeOf3 rfl rfl (by first | rfl | assumption) rfl rfl) ?_))))))))))))
            rintro _ w52 Wy
            refine aA (aj (ay (ay (ah (aO rfl (bH rfl (aZ 28 underlying66 rfl sizeOf3 rfl (cO underlying3 rfl (Wy).get.2 rfl (aU (bZ rfl rfl) (aA (aj (aH rfl (fun h24 => ?_) (fun h24 => ?_)))))))))))))
            · (try simp only [aG] at h24)
              have qC := iP kW hon hrun h24
              refine ah (aO rfl (aO rfl (bH rfl (aZ 0 underlying66 rfl sizeOf62 rfl (aZ 7 underlying62 rfl sizeOf3 rfl (aI (aN 7 (l' := [_, _, _, _, _, _, _, _, _, _, _, _, _, _, _, _, _, _, _, _, _, _, _, _, _, _, _, _, _, _, _, _, _, _]) Wy sizeOf3 rfl rfl (by first | rfl | assumption) rfl rfl) ?_))))))
              rintro _ w53 YD
              refine bH rfl (aZ 0 underlying66 rfl sizeOf62 rfl (aZ 8 underlying62 rfl sizeOf3 rfl (aI (aN 8 (l' := [_, _, _, _, _, _, _, _, _, _, _, _, _, _, _, _, _, _, _, _, _, _, _, _, _, _, _, _, _, _, _, _, _, _]) YD sizeOf3 rfl rfl (by first | rfl | assumption) rfl rfl) ?_)))
              rintro _ w54 H54
              refine aA (aj (ay (ah (aV rfl (aA (aj (aJ (aP (.inl rfl) results13 rfl ?_))))))))
              refine ⟨rfl, ?_⟩
              first
                | exact absurd (hw2.symm.trans hwh) (by decide)
                | exact absurd (hwh.symm.trans hw2) (by decide)
                | (rw [qC]; exact aB.dG cZ bC H54.f11.f11.f11.f11.f11.f11.f11.f11.f11.f11.f11)
            · (try simp only [aG] at h24)
              have qC := gZ kW hon hrun h24
              refine aS (aj (ay (ah (aV rfl (aA (aj (aJ (aP (.inl rfl) results13 rfl ?_))))))))
              refine ⟨rfl, ?_⟩
              first
                | exact absurd (hw2.symm.trans hwh) (by decide)
                | exact absurd (hwh.symm.trans hw2) (by decide)
                | (rw [qC]; exact aB.dG cZ bC Wy.f11.f11.f11.f11.f11.f11.f11.f11.f11.f11.f11)
        · (try simp only [aG] at h21)
          have hw2 : s.whole = false := by simpa using h21
          have hrun : (s.typed && (!s.put.isEmpty || s.c.run)) = false := by first | exact absurd (hwh.symm.trans hw2) (by decide) | (rw [hty]; rfl)
          refine bI (bI (oJ (oJ (oJ (oJ (oJ (bI (jr rfl rfl (bH rfl (aZ 0 underlying66 rfl sizeOf62 rfl (aZ 10 underlying62 rfl sizeOf4 rfl (aI (aN 10 (l' := [_, _, _, _, _, _, _, _, _, _, _, _, _, _, _, _, _, _, _, _, _, _, _, _, _, _, _, _, _, _, _, _, _, _]) dn sizeOf4 rfl rfl (by first | rfl | assumption) rfl rfl) ?_))))))))))))
          rintro _ w55 H55
          refine aA (aj (ay (ah (aO rfl (aO rfl (bH rfl (aZ 28 underlying66 rfl sizeOf3 rfl (cO underlying3 rfl (H55).get.2 rfl (bH rfl (aZ 0 underlying66 rfl sizeOf62 rfl (aZ 6 underlying62 rfl sizeOf3 rfl (aI (aN 6 (l' := [_, _, _, _, _, _, _, _, _, _, _, _, _, _, _, _, _, _, _, _, _, _, _, _, _, _, _, _, _, _, _, _, _, _]) H55 sizeOf3 rfl rfl (by first | rfl | assumption) rfl rfl) ?_))))))))))))
          rintro _ w56 H56
          refine aA (aj (ay (ay (ah (aO rfl (bH rfl (aZ 28 underlying66 rfl sizeOf3 rfl (cO underlying3 rfl (H56).get.2 rfl (aU (bZ rfl rfl) (aA (aj (aH rfl (fun h25 => ?_) (fun h25 => ?_)))))))))))))
          · (try simp only [aG] at h25)
            have qC := iP kW hon hrun h25
            refine ah (aO rfl (aO rfl (bH rfl (aZ 0 underlying66 rfl sizeOf62 rfl (aZ 7 underlying62 rfl sizeOf3 rfl (aI (aN 7 (l' := [_, _, _, _, _, _, _, _, _, _, _, _, _, _, _, _, _, _, _, _, _, _, _, _, _, _, _, _, _, _, _, _, _, _]) H56 sizeOf3 rfl rfl (by first | rfl | assumption) rfl rfl) ?_))))))
            rintro _ w57 H57
            refine bH rfl (aZ 0 underlying66 rfl sizeOf62 rfl (aZ 8 underlying62 rfl sizeOf3 rfl (aI (aN 8 (l' := [_, _, _, _, _, _, _, _, _, _, _, _, _, _, _, _, _, _, _, _, _, _, _, _, _, _, _, _, _, _, _, _, _, _]) H57 sizeOf3 rfl rfl (by first | rfl | assumption) rfl rfl) ?_)))
            rintro _ w58 Vz
            refine aA (aj (ay (ah (aV rfl (aA (aj (aJ (aP (.inl rfl) results13 rfl ?_))))))))
            refine ⟨rfl, ?_⟩
            first
              | exact absurd (hw2.symm.trans hwh) (by decide)
              | exact absurd (hwh.symm.trans hw2) (by decide)
              | (rw [qC]; exact aB.dG cZ bC Vz.f11.f11.f11.f11.f11.f11.f11.f11.f11.f11.f11)
          · (try simp only [aG] at h25)
            have qC := gZ kW hon hrun h25
            refine aS (aj (ay (ah (aV rfl (aA (aj (aJ (aP (.inl rfl) results13 rfl ?_))))))))
            refine ⟨rfl, ?_⟩
            first
              | exact absurd (hw2.symm.trans hwh) (by decide)
              | exact absurd (hwh.symm.trans hw2) (by decide)
              | (rw [qC]; exact aB.dG cZ bC H56.f11.f11.f11.f11.f11.f11.f11.f11.f11.f11.f11)
      · (try simp only [aG] at h20)
        have hwh : s.whole = false := by simpa using h20
        have hty : s.typed = false := by unfold aY.typed; rw [hc3, hwh]; rfl
        have hrun : (s.typed && (!s.put.isEmpty || s.c.run)) = false := by rw [hty]; rfl
        refine bI (bI (bI (bI (bI (jr rfl rfl ?_)))))
        have abB := Ad.f11.right
        have HW0 := aB.zY (c := s.was) (u := [lu, lC, lD, lF, lG, lH, lI, lJ, lK, lM, lN]) abB
        obtain ⟨s1, kW, TU⟩ : ∃ s1, s1 = s.fV ∧ aB w0 (w3.drew) (dD e s1 • F) := ⟨_, hs1, aB.dG (hs1 ▸ sO cZ) bC HW0.f11.f11.f11.f11.f11.f11.f11.f11.f11.f11⟩
        have hr1 : s1.c.run = s.c.run := by rw [kW]; unfold aY.fV; split <;> rfl
        refine dw rfl func53 (ku TU) ?_
        rintro _ w60 YE
        obtain ⟨on, hon, HZ⟩ : ∃ on, (s.typed && s.c.run) = on ∧ aB w0 w60 (dD e (s1.bG on) • F) := ⟨_, by rw [hty]; rfl, YE⟩
        refine aA (aj (ay ?_))
        obtain ⟨nD, nN, nO, oG, nP, nR, nS, nT, mG, lu, lC, lD, lF, lG, lH, lI, lJ, lK, lM, lN, cZ, bC, gG, dn⟩ := (HZ).Ak
        refine ah (aO rfl (aO rfl (jo rfl (fun h26 => ?_) (fun h26 => ?_))))
        · (try simp only [aG] at h26)
          have hw2 : s.whole = true := h26
          refine bD (aO rfl (bD (jo rfl (fun h27 => ?_) (fun h27 => ?_))))
          · (try simp only [aG] at h27)
            have hrun : (s.typed && (!s.put.isEmpty || s.c.run)) = true := by first | exact absurd (hw2.symm.trans hwh) (by decide) | (rw [lU, decide_eq_false (show ¬ s.put.length = 0 by omega), hty]; rfl)
            refine bI (bI (bI (bI (bI (bD (jO rfl rfl (jO rfl rfl (bH rfl (aZ 0 underlying66 rfl sizeOf62 rfl (aZ 10 underlying62 rfl sizeOf4 rfl (aI (aN 10 (l' := [_, _, _, _, _, _, _, _, _, _, _, _, _, _, _, _, _, _, _, _, _, _, _, _, _, _, _, _, _, _, _, _, _, _]) dn sizeOf4 rfl rfl (by first | rfl | assumption) rfl rfl) ?_)))))))))))
            rintro _ w62 ZA
            refine aA (aj (ay (ah (aO rfl (aO rfl (bH rfl (aZ 28 underlying66 rfl sizeOf3 rfl (cO underlying3 rfl (ZA).get.2 rfl (bH rfl (aZ 0 underlying66 rfl sizeOf62 rfl (aZ 6 underlying62 rfl sizeOf3 rfl (aI (aN 6 (l' := [_, _, _, _, _, _, _, _, _, _, _, _, _, _, _, _, _, _, _, _, _, _, _, _, _, _, _, _, _, _, _, _, _, _]) ZA sizeOf3 rfl rfl (by first | rfl | assumption) rfl rfl) ?_))))))))))))
            rintro _ w63 ZC
            refine aA (aj (ay (ay (ah (aO rfl (bH rfl (aZ 28 underlying66 rfl sizeOf3 rfl (cO underlying3 rfl (ZC).get.2 rfl (aU (bZ rfl rfl) (aA (aj (aH rfl (fun h28 => ?_) (fun h28 => ?_)))))))))))))
            · (try simp only [aG] at h28)
              have qC := iP kW hon hrun h28
              refine ah (aO rfl (aO rfl (bH rfl (aZ 0 underlying66 rfl sizeOf62 rfl (aZ 7 underlying62 rfl sizeOf3 rfl (aI (aN 7 (l' := [_, _, _, _, _, _, _, _, _, _, _, _, _, _, _, _, _, _, _, _, _, _, _, _, _, _, _, _, _, _, _, _, _, _]) ZC sizeOf3 rfl rfl (by first | rfl | assumption) rfl rfl) ?_))))))
              rintro _ w64 ZE
              refine bH rfl (aZ 0 underlying66 rfl sizeOf62 rfl (aZ 8 underlying62 rfl sizeOf3 rfl (aI (aN 8 (l' := [_, _, _, _, _, _, _, _, _, _, _, _, _, _, _, _, _, _, _, _, _, _, _, _, _, _, _, _, _, _, _, _, _, _]) ZE sizeOf3 rfl rfl (by first | rfl | assumption) rfl rfl) ?_)))
              rintro _ w65 H65
              refine aA (aj (ay (ah (aV rfl (aA (aj (aJ (aP (.inl rfl) results13 rfl ?_))))))))
              refine ⟨rfl, ?_⟩
              first
                | exact absurd (hw2.symm.trans hwh) (by decide)
                | exact absurd (hwh.symm.trans hw2) (by decide)
                | (rw [qC]; exact aB.dG cZ bC H65.f11.f11.f11.f11.f11.f11.f11.f11.f11.f11.f11)
            · (try simp only [aG] at h28)
              have qC := gZ kW hon hrun h28
              refine aS (aj (ay (ah (aV rfl (aA (aj (aJ (aP (.inl rfl) results13 rfl ?_))))))))
              refine ⟨rfl, ?_⟩
              first
                | exact absurd (hw2.symm.trans hwh) (by decide)
                | exact absurd (hwh.symm.trans hw2) (by decide)
                | (rw [qC]; exact aB.dG cZ bC ZC.f11.f11.f11.f11.f11.f11.f11.f11.f11.f11.f11)
          · (try simp only [aG] at h27)
            have hrun : (s.typed && (!s.put.isEmpty || s.c.run)) = (s1.bG on).c.run := by first | exact absurd (hw2.symm.trans hwh) (by decide) | (rw [lU, decide_eq_true (show s.put.length = 0 by omega), hty, wS, hr1]; rfl)
            refine bD (aO rfl (bD (bH rfl (bD (aZ 0 underlying66 rfl sizeOf62 rfl (bD (aZ 10 underlying62 rfl sizeOf4 rfl (bD (cO underlying4 rfl (dn).get.2 rfl (bD (jr rfl rfl (jO rfl rfl (bH rfl (aZ 0 underlying66 rfl sizeOf62 rfl (aZ 10 underlying62 rfl sizeOf4 rfl (aI (aN 10 (l' := [_, _, _, _, _, _, _, _, _, _, _, _, _, _, _, _, _, _, _, _, _, _, _, _, _, _, _, _, _, _, _, _, _, _]) dn sizeOf4 rfl rfl (by first | rfl | assumption) rfl rfl) ?_))))))))))))))))
            rintro _ w66 H66
            refine aA (aj (ay (ah (aO rfl (aO rfl (bH rfl (aZ 28 underlying66 rfl sizeOf3 rfl (cO underlying3 rfl (H66).get.2 rfl (bH rfl (aZ 0 underlying66 rfl sizeOf62 rfl (aZ 6 underlying62 rfl sizeOf3 rfl (aI (aN 6 (l' := [_, _, _, _, _, _, _, _, _, _, _, _, _, _, _, _, _, _, _, _, _, _, _, _, _, _, _, _, _, _, _, _, _, _]) H66 sizeOf3 rfl rfl (by first | rfl | assumption) rfl rfl) ?_))))))))))))
            rintro _ w67 H67
            refine aA (aj (ay (ay (ah (aO rfl (bH rfl (aZ 28 underlying66 rfl sizeOf3 rfl (cO underlying3 rfl (H67).get.2 rfl (aU (bZ rfl rfl) (aA (aj (aH rfl (fun h29 => ?_) (fun h29 => ?_)))))))))))))
            · (try simp only [aG] at h29)
              have qC := iP kW hon hrun h29
              refine ah (aO rfl (aO rfl (bH rfl (aZ 0 underlying66 rfl sizeOf62 rfl (aZ 7 underlying62 rfl sizeOf3 rfl (aI (aN 7 (l' := [_, _, _, _, _, _, _, _, _, _, _, _, _, _, _, _, _, _, _, _, _, _, _, _, _, _, _, _, _, _, _, _, _, _]) H67 sizeOf3 rfl rfl (by first | rfl | assumption) rfl rfl) ?_))))))
              rintro _ w68 H68
              refine bH rfl (aZ 0 underlying66 rfl sizeOf62 rfl (aZ 8 underlying62 rfl sizeOf3 rfl (aI (aN 8 (l' := [_, _, _, _, _, _, _, _, _, _, _, _, _, _, _, _, _, _, _, _, _, _, _, _, _, _, _, _, _, _, _, _, _, _]) H68 sizeOf3 rfl rfl (by first | rfl | assumption) rfl rfl) ?_)))
              rintro _ w69 H69
              refine aA (aj (ay (ah (aV rfl (aA (aj (aJ (aP (.inl rfl) results13 rfl ?_))))))))
              refine ⟨rfl, ?_⟩
              first
                | exact absurd (hw2.symm.trans hwh) (by decide)
                | exact absurd (hwh.symm.trans hw2) (by decide)
                | (rw [qC]; exact aB.dG cZ bC H69.f11.f11.f11.f11.f11.f11.f11.f11.f11.f11.f11)
            · (try simp only [aG] at h29)
              have qC := gZ kW hon hrun h29
              refine aS (aj (ay (ah (aV rfl (aA (aj (aJ (aP (.inl rfl) results13 rfl ?_))))))))
              refine ⟨rfl, ?_⟩
              first
                | exact absurd (hw2.symm.trans hwh) (by decide)
                | exact absurd (hwh.symm.trans hw2) (by decide)
                | (rw [qC]; exact aB.dG cZ bC H67.f11.f11.f11.f11.f11.f11.f11.f11.f11.f11.f11)
        · (try simp only [aG] at h26)
          have hw2 : s.whole = false := by simpa using h26
          have hrun : (s.typed && (!s.put.isEmpty || s.c.run)) = false := by first | exact absurd (hwh.symm.trans hw2) (by decide) | (rw [hty]; rfl)
          refine bI (bI (oJ (oJ (oJ (oJ (oJ (bI (jr rfl rfl (bH rfl (aZ 0 underlying66 rfl sizeOf62 rfl (aZ 10 underlying62 rfl sizeOf4 rfl (aI (aN 10 (l' := [_, _, _, _, _, _, _, _, _, _, _, _, _, _, _, _, _, _, _, _, _, _, _, _, _, _, _, _, _, _, _, _, _, _]) dn sizeOf4 rfl rfl (by first | rfl | assumption) rfl rfl) ?_))))))))))))
          rintro _ w70 ZG
          refine aA (aj (ay (ah (aO rfl (aO rfl (bH rfl (aZ 28 underlying66 rfl sizeOf3 rfl (cO underlying3 rfl (ZG).get.2 rfl (bH rfl (aZ 0 underlying66 rfl sizeOf62 rfl (aZ 6 underlying62 rfl sizeOf3 rfl (aI (aN 6 (l' := [_, _, _, _, _, _, _, _, _, _, _, _, _, _, _, _, _, _, _, _, _, _, _, _, _, _, _, _, _, _, _, _, _, _]) ZG sizeOf3 rfl rfl (by first | rfl | assumption) rfl rfl) ?_))))))))))))
          rintro _ w71 YF
          refine aA (aj (ay (ay (ah (aO rfl (bH rfl (aZ 28 underlying66 rfl sizeOf3 rfl (cO underlying3 rfl (YF).get.2 rfl (aU (bZ rfl rfl) (aA (aj (aH rfl (fun h30 => ?_) (fun h30 => ?_)))))))))))))
          · (try simp only [aG] at h30)
            have qC := iP kW hon hrun h30
            refine ah (aO rfl (aO rfl (bH rfl (aZ 0 underlying66 rfl sizeOf62 rfl (aZ 7 underlying62 rfl sizeOf3 rfl (aI (aN 7 (l' := [_, _, _, _, _, _, _, _, _, _, _, _, _, _, _, _, _, _, _, _, _, _, _, _, _, _, _, _, _, _, _, _, _, _]) YF sizeOf3 rfl rfl (by first | rfl | assumption) rfl rfl) ?_))))))
            rintro _ w72 H72
            refine bH rfl (aZ 0 underlying66 rfl sizeOf62 rfl (aZ 8 underlying62 rfl sizeOf3 rfl (aI (aN 8 (l' := [_, _, _, _, _, _, _, _, _, _, _, _, _, _, _, _, _, _, _, _, _, _, _, _, _, _, _, _, _, _, _, _, _, _]) H72 sizeOf3 rfl rfl (by first | rfl | assumption) rfl rfl) ?_)))
            rintro _ w73 H73
            refine aA (aj (ay (ah (aV rfl (aA (aj (aJ (aP (.inl rfl) results13 rfl ?_))))))))
            refine ⟨rfl, ?_⟩
            first
              | exact absurd (hw2.symm.trans hwh) (by decide)
              | exact absurd (hwh.symm.trans hw2) (by decide)
              | (rw [qC]; exact aB.dG cZ bC H73.f11.f11.f11.f11.f11.f11.f11.f11.f11.f11.f11)
          · (try simp only [aG] at h30)
            have qC := gZ kW hon hrun h30
            refine aS (aj (ay (ah (aV rfl (aA (aj (aJ (aP (.inl rfl) results13 rfl ?_))))))))
            refine ⟨rfl, ?_⟩
            first
              | exact absurd (hw2.symm.trans hwh) (by decide)
              | exact absurd (hwh.symm.trans hw2) (by decide)
              | (rw [qC]; exact aB.dG cZ bC YF.f11.f11.f11.f11.f11.f11.f11.f11.f11.f11.f11)
    · (try simp only [aG] at h19)
      have hty : s.typed = false := by unfold aY.typed; rw [beq_false_of_ne h19]; rfl
      have hrun : (s.typed && (!s.put.isEmpty || s.c.run)) = false := by rw [hty]; rfl
      refine kG 6 rfl rfl rfl rfl (by kernel_rfl) (by kernel_rfl) fD (jq rfl) ?_
      refine kG 7 rfl rfl rfl rfl (by kernel_rfl) (by kernel_rfl) fD (jq rfl) ?_
      refine kG 8 rfl rfl rfl rfl (by kernel_rfl) (by kernel_rfl) fD (jq rfl) ?_
      refine kG 9 rfl rfl rfl rfl (by kernel_rfl) (by kernel_rfl) fD (jq rfl) ?_
      refine iJ 10 rfl fD (fun _ => xQ rfl rfl) (fU 11 rfl fD rfl (iT 12 rfl fD rfl (dP 13 rfl fD 33 underlying66 rfl sizeOf64 rfl (gQ 14 rfl fD (fun W hW => iI underlying64 rfl ((Kp.h hW)).get.2 rfl) (iJ 15 rfl fD (fun _ => fB ((Ad.f9).aT) underlying64 rfl) (iJ 16 rfl fD (fun _ => dQ rfl rfl) (iJ 17 rfl fD (fun _ => fO rfl) (iJ 18 rfl fD (fun _ => fO rfl) (mg (aj (ay (ah (aO rfl (aO rfl (aO rfl (bI (bI (bI (bI (bI (jr rfl rfl ?_)))))))))))))))))))))
      have abC := Ad.f11.right
      have HW0 := aB.zY (c := s.was) (u := [lu, lC, lD, lF, lG, lH, lI, lJ, lK, lM, lN]) abC
      obtain ⟨s1, kW, TU⟩ : ∃ s1, s1 = s.fV ∧ aB w0 (w3.drew) (dD e s1 • F) := ⟨_, hs1, aB.dG (hs1 ▸ sO cZ) bC HW0.f11.f11.f11.f11.f11.f11.f11.f11.f11.f11⟩
      have hr1 : s1.c.run = s.c.run := by rw [kW]; unfold aY.fV; split <;> rfl
      refine dw rfl func53 (ku TU) ?_
      rintro _ w75 H75
      obtain ⟨on, hon, HZ⟩ : ∃ on, (s.typed && s.c.run) = on ∧ aB w0 w75 (dD e (s1.bG on) • F) := ⟨_, by rw [hty]; rfl, H75⟩
      refine aA (aj (ay ?_))
      obtain ⟨nD, nN, nO, oG, nP, nR, nS, nT, mG, lu, lC, lD, lF, lG, lH, lI, lJ, lK, lM, lN, cZ, bC, gG, dn⟩ := (HZ).Ak
      refine ah (aO rfl (aO rfl (aO rfl (bI (bI (oJ (oJ (oJ (oJ (oJ (bI (jr rfl rfl (bH rfl (aZ 0 underlying66 rfl sizeOf62 rfl (aZ 10 underlying62 rfl sizeOf4 rfl (aI (aN 10 (l' := [_, _, _, _, _, _, _, _, _, _, _, _, _, _, _, _, _, _, _, _, _, _, _, _, _, _, _, _, _, _, _, _, _, _]) dn sizeOf4 rfl rfl (by first | rfl | assumption) rfl rfl) ?_))))))))))))))))
      rintro _ w77 H77
      refine aA (aj (ay (ah (aO rfl (aO rfl (bH rfl (aZ 28 underlying66 rfl sizeOf3 rfl (cO underlying3 rfl (H77).get.2 rfl (bH rfl (aZ 0 underlying66 rfl sizeOf62 rfl (aZ 6 underlying62 rfl sizeOf3 rfl (aI (aN 6 (l' := [_, _, _, _, _, _, _, _, _, _, _, _, _, _, _, _, _, _, _, _, _, _, _, _, _, _, _, _, _, _, _, _, _, _]) H77 sizeOf3 rfl rfl (by first | rfl | assumption) rfl rfl) ?_))))))))))))
      rintro _ w78 H78
      refine aA (aj (ay (ay (ah (aO rfl (bH rfl (aZ 28 underlying66 rfl sizeOf3 rfl (cO underlying3 rfl (H78).get.2 rfl (aU (bZ rfl rfl) (aA (aj (aH rfl (fun h31 => ?_) (fun h31 => ?_)))))))))))))
      · (try simp only [aG] at h31)
        have qC := iP kW hon hrun h31
        refine ah (aO rfl (aO rfl (bH rfl (aZ 0 underlying66 rfl sizeOf62 rfl (aZ 7 underlying62 rfl sizeOf3 rfl (aI (aN 7 (l' := [_, _, _, _, _, _, _, _, _, _, _, _, _, _, _, _, _, _, _, _, _, _, _, _, _, _, _, _, _, _, _, _, _, _]) H78 sizeOf3 rfl rfl (by first | rfl | assumption) rfl rfl) ?_))))))
        rintro _ w79 H79
        refine bH rfl (aZ 0 underlying66 rfl sizeOf62 rfl (aZ 8 underlying62 rfl sizeOf3 rfl (aI (aN 8 (l' := [_, _, _, _, _, _, _, _, _, _, _, _, _, _, _, _, _, _, _, _, _, _, _, _, _, _, _, _, _, _, _, _, _, _]) H79 sizeOf3 rfl rfl (by first | rfl | assumption) rfl rfl) ?_)))
        rintro _ w80 H80
        refine aA (aj (ay (ah (aV rfl (aA (aj (aJ (aP (.inl rfl) results13 rfl ?_))))))))
        refine ⟨rfl, ?_⟩
        first
          | exact absurd (hw2.symm.trans hwh) (by decide)
          | exact absurd (hwh.symm.trans hw2) (by decide)
          | (rw [qC]; exact aB.dG cZ bC H80.f11.f11.f11.f11.f11.f11.f11.f11.f11.f11.f11)
      · (try simp only [aG] at h31)
        have qC := gZ kW hon hrun h31
        refine aS (aj (ay (ah (aV rfl (aA (aj (aJ (aP (.inl rfl) results13 rfl ?_))))))))
        refine ⟨rfl, ?_⟩
        first
          | exact absurd (hw2.symm.trans hwh) (by decide)
          | exact absurd (hwh.symm.trans hw2) (by decide)
          | (rw [qC]; exact aB.dG cZ bC H78.f11.f11.f11.f11.f11.f11.f11.f11.f11.f11.f11)
theorem Ic {s : aY} {x : Int} (hin : s.inn = true) (hx : x ≠ 0) : s.iE x = s.wM ∧ s.zU x = x := by
  unfold aY.iE aY.zU
  rw [if_pos hin, if_neg hx, if_pos hin]; exact ⟨rfl, rfl⟩
theorem TV {s : aY} (h : lg s) (hin : s.inn = true) : lg s.wM := by
  obtain ⟨h1, h2, h3⟩ := h.2.1 hin
  exact ⟨h1, fun h => Bool.noConfusion h, ⟨by show (-1 : Int) ≤ -1; decide, by show (-1 : Int) ≤ 1000000; decide⟩, by simp [aY.wM], h2, h3⟩
theorem NY (hin : s.inn = true) (hx : x ≠ 0) (H : aB w0 w (dD e s • F)) : fQ prog 13 #[.pointer (some ⟨e, 0, none⟩), .int .i64 x] w fun v w' => v = .int .i64 x ∧ aB w0 w' (dD e s.wM • F) := by
 have hpe : s.vT = 0 := by unfold aY.vT; rw [if_pos hin]
 refine gX func13 ntmps13 ?_
 dsimp only [bg, Nat.reduceAdd]
 refine ay (ah (aV rfl (aA (aj (ay (ay (ah (aO rfl (dw rfl func51 (gJ H) ?_)))))))))
 rintro _ _ ⟨rfl, rfl⟩
 refine aV rfl (aA (aj (ay (ah (aO rfl (aU (bZ rfl rfl) (aA (aj (aH rfl (fun h => by exfalso; (try simp only [aG] at h); exact h hpe) (fun h1 => ?_))))))))))
 (try simp only [aG] at h1)
 refine aS (aj (ay ?_))
 obtain ⟨nD, nN, nO, oG, nP, nR, nS, nT, mG, lu, lC, lD, lF, lG, lH, lI, lJ, lK, lM, lN, cZ, bC, gG, dn⟩ := (H).Ak
 have HI := dn
 rw [hin] at HI
 obtain ⟨qb, qr, qw, qt, qm, hu, HW⟩ := (HI.f11).was
 simp only [KN, List.cons.injEq, and_true] at hu
 obtain ⟨rfl, rfl, rfl, rfl, rfl, rfl, rfl, rfl, rfl, rfl, rfl⟩ := hu
 refine ah (aO rfl (bH rfl (aZ 16 underlying66 rfl sizeOf4 rfl (aI (aN 16 (l' := [_, _, _, _, _, _, _, _, _, _, _, _, _, _, _, _, _, _, _, _, _, _, _, _, _, _, _, _, _, _, _, _, _, _]) HW.f6 sizeOf4 rfl rfl (by first | rfl | assumption) rfl rfl) ?_))))
 rintro _ w3 H3
 refine aA (aj (ay (ay (ah (aO rfl (bH rfl (aZ 31 underlying66 rfl sizeOf4 rfl (cO underlying4 rfl (H3).get.2 rfl (aU (kM rfl) (jo rfl (fun h2 => ?_) (fun h2 => ?_)))))))))))
 ·(try simp only [aG] at h2)
  refine bI (bI (jO rfl rfl (aA (aj (yL (ah (aO rfl (aO rfl (aO rfl (bH rfl (aZ 13 underlying66 rfl sizeOf4 rfl (aI (aN 13 (l' := [_, _, _, _, _, _, _, _, _, _, _, _, _, _, _, _, _, _, _, _, _, _, _, _, _, _, _, _, _, _, _, _, _, _]) H3 sizeOf4 rfl rfl (by first | rfl | assumption) rfl rfl) ?_))))))))))))
  rintro _ w4 H4
  refine bH rfl (aZ 14 underlying66 rfl sizeOf4 rfl (aI (aN 14 (l' := [_, _, _, _, _, _, _, _, _, _, _, _, _, _, _, _, _, _, _, _, _, _, _, _, _, _, _, _, _, _, _, _, _, _]) H4 sizeOf4 rfl rfl (by first | rfl | assumption) rfl rfl) ?_))
  rintro _ w5 H5
  refine bH rfl (aZ 15 underlying66 rfl sizeOf3 rfl (aI (aN 15 (l' := [_, _, _, _, _, _, _, _, _, _, _, _, _, _, _, _, _, _, _, _, _, _, _, _, _, _, _, _, _, _, _, _, _, _]) H5 sizeOf3 rfl rfl (by first | rfl | assumption) rfl rfl) ?_))
  rintro _ w6 H6
  refine aA (aj (ay (ay (ah (aO rfl (aU (bZ rfl rfl) (aA (aj (aH rfl (fun h3 => ?_) (fun h => by exfalso; (try simp only [aG] at h); exact hx h))))))))))
  (try simp only [aG] at h3)
  refine ay (ah (aO rfl (aO rfl (bH rfl (aZ 17 underlying66 rfl sizeOf62 rfl (aU (qP 17 (xs := [_, _, _, _, _, _, _, _, _, _, _]) underlying62 rfl sizeOf62 rfl rfl (H6).get.2 rfl) (bH rfl (aZ 0 underlying66 rfl sizeOf62 rfl (aI (bJ 0 (l' := [_, _, _, _, _, _, _, _, _, _, _, _, _, _, _, _, _, _, _, _, _, _, _, _, _, _, _, _, _, _, _, _, _, _]) (us := [_, _, _, _, _, _, _, _, _, _, _]) H6 sizeOf62 rfl rfl rfl (aC (by first | rfl | assumption) (aC (by first | rfl | assumption) (aC (by first | rfl | assumption) (aC (by first | rfl | assumption) (aC (by first | rfl | assumption) (aC (by first | rfl | assumption) (aC (by first | rfl | assumption) (aC (by first | rfl | assumption) (aC (by first | rfl | assumption) (aC (by first | rfl | assumption) (aC (by first | rfl | assumption) bn))))))))))) rfl rfl) ?_)))))))))
  rintro _ w7 H7
  refine aA (aj (ay (ah (aO rfl (bH rfl (aZ 12 underlying66 rfl sizeOf63 rfl (cO underlying63 rfl (H7).get.2 rfl (dw rfl func52 (Bh H7.f13) ?_))))))))
  rintro _ w8 ⟨rfl, H8⟩
  refine aA (aj (ay (ah (aO rfl (aO rfl (aO rfl (aO rfl (bH rfl (aZ 0 underlying66 rfl sizeOf62 rfl (aZ 6 underlying62 rfl sizeOf3 rfl (aI (aN 6 (l' := [_, _, _, _, _, _, _, _, _, _, _, _, _, _, _, _, _, _, _, _, _, _, _, _, _, _, _, _, _, _, _, _, _, _]) H8.f2 sizeOf3 rfl rfl (by first | rfl | assumption) rfl rfl) ?_)))))))))))
  rintro _ w9 H9
  refine bH rfl (aZ 0 underlying66 rfl sizeOf62 rfl (aZ 7 underlying62 rfl sizeOf3 rfl (aI (aN 7 (l' := [_, _, _, _, _, _, _, _, _, _, _, _, _, _, _, _, _, _, _, _, _, _, _, _, _, _, _, _, _, _, _, _, _, _]) H9 sizeOf3 rfl rfl (by first | rfl | assumption) rfl rfl) ?_)))
  rintro _ w10 oP
  refine bH rfl (aZ 0 underlying66 rfl sizeOf62 rfl (aZ 8 underlying62 rfl sizeOf3 rfl (aI (aN 8 (l' := [_, _, _, _, _, _, _, _, _, _, _, _, _, _, _, _, _, _, _, _, _, _, _, _, _, _, _, _, _, _, _, _, _, _]) oP sizeOf3 rfl rfl (by first | rfl | assumption) rfl rfl) ?_)))
  rintro _ FT uV
  refine bH rfl (aZ 33 underlying66 rfl sizeOf64 rfl (aI (aN 33 (l' := [_, _, _, _, _, _, _, _, _, _, _, _, _, _, _, _, _, _, _, _, _, _, _, _, _, _, _, _, _, _, _, _, _, _]) uV sizeOf64 rfl rfl (by first | rfl | assumption) rfl rfl) ?_))
  rintro _ w12 rV
  refine aA (aj (ay (ah (aO rfl (aV rfl (aA (aj (aJ (aK (aP (.inl rfl) results13 rfl ?_))))))))))
  exact ⟨rfl, aB.NR (s := s.wM) (TV cZ hin) rfl rfl rV.f8.right.f8.right.f8.right.f8.right.f8.right.f9.right.f9.right.f2.f8.f8.f8.f8.f8.f8.f8⟩
 ·(try simp only [aG] at h2)
  refine bD (aO rfl (bD (aU (bZ rfl rfl) (jr rfl rfl (aA (aj (aH rfl (fun h4 => ?_) (fun h => by exfalso; (try simp only [aG] at h); exact hx h))))))))
  (try simp only [aG] at h4)
  refine ah (aO rfl (aO rfl (aO rfl (bH rfl (aZ 13 underlying66 rfl sizeOf4 rfl (aI (aN 13 (l' := [_, _, _, _, _, _, _, _, _, _, _, _, _, _, _, _, _, _, _, _, _, _, _, _, _, _, _, _, _, _, _, _, _, _]) H3 sizeOf4 rfl rfl (by first | rfl | assumption) rfl rfl) ?_))))))
  rintro _ MB vZ
  refine bH rfl (aZ 14 underlying66 rfl sizeOf4 rfl (aI (aN 14 (l' := [_, _, _, _, _, _, _, _, _, _, _, _, _, _, _, _, _, _, _, _, _, _, _, _, _, _, _, _, _, _, _, _, _, _]) vZ sizeOf4 rfl rfl (by first | rfl | assumption) rfl rfl) ?_))
  rintro _ JE uX
  refine bH rfl (aZ 15 underlying66 rfl sizeOf3 rfl (aI (aN 15 (l' := [_, _, _, _, _, _, _, _, _, _, _, _, _, _, _, _, _, _, _, _, _, _, _, _, _, _, _, _, _, _, _, _, _, _]) uX sizeOf3 rfl rfl (by first | rfl | assumption) rfl rfl) ?_))
  rintro _ P8 yQ
  refine aA (aj (ay (ay (ah (aO rfl (aU (bZ rfl rfl) (aA (aj (aH rfl (fun h5 => ?_) (fun h => by exfalso; (try simp only [aG] at h); exact hx h))))))))))
  (try simp only [aG] at h5)
  refine ay (ah (aO rfl (aO rfl (bH rfl (aZ 17 underlying66 rfl sizeOf62 rfl (aU (qP 17 (xs := [_, _, _, _, _, _, _, _, _, _, _]) underlying62 rfl sizeOf62 rfl rfl (yQ).get.2 rfl) (bH rfl (aZ 0 underlying66 rfl sizeOf62 rfl (aI (bJ 0 (l' := [_, _, _, _, _, _, _, _, _, _, _, _, _, _, _, _, _, _, _, _, _, _, _, _, _, _, _, _, _, _, _, _, _, _]) (us := [_, _, _, _, _, _, _, _, _, _, _]) yQ sizeOf62 rfl rfl rfl (aC (by first | rfl | assumption) (aC (by first | rfl | assumption) (aC (by first | rfl | assumption) (aC (by first | rfl | assumption) (aC (by first | rfl | assumption) (aC (by first | rfl | assumption) (aC (by first | rfl | assumption) (aC (by first | rfl | assumption) (aC (by first | rfl | assumption) (aC (by first | rfl | assumption) (aC (by first | rfl | assumption) bn))))))))))) rfl rfl) ?_)))))))))
  rintro _ w16 qH
  refine aA (aj (ay (ah (aO rfl (bH rfl (aZ 12 underlying66 rfl sizeOf63 rfl (cO underlying63 rfl (qH).get.2 rfl (dw rfl func52 (Bh qH.f13) ?_))))))))
  rintro _ UN ⟨rfl, Aj⟩
  refine aA (aj (ay (ah (aO rfl (aO rfl (aO rfl (aO rfl (bH rfl (aZ 0 underlying66 rfl sizeOf62 rfl (aZ 6 underlying62 rfl sizeOf3 rfl (aI (aN 6 (l' := [_, _, _, _, _, _, _, _, _, _, _, _, _, _, _, _, _, _, _, _, _, _, _, _, _, _, _, _, _, _, _, _, _, _]) Aj.f2 sizeOf3 rfl rfl (by first | rfl | assumption) rfl rfl) ?_)))))))))))
  rintro _ UO BF
  refine bH rfl (aZ 0 underlying66 rfl sizeOf62 rfl (aZ 7 underlying62 rfl sizeOf3 rfl (aI (aN 7 (l' := [_, _, _, _, _, _, _, _, _, _, _, _, _, _, _, _, _, _, _, _, _, _, _, _, _, _, _, _, _, _, _, _, _, _]) BF sizeOf3 rfl rfl (by first | rfl | assumption) rfl rfl) ?_)))
  rintro _ UQ xk
  refine bH rfl (aZ 0 underlying66 rfl sizeOf62 rfl (aZ 8 underlying62 rfl sizeOf3 rfl (aI (aN 8 (l' := [_, _, _, _, _, _, _, _, _, _, _, _, _, _, _, _, _, _, _, _, _, _, _, _, _, _, _, _, _, _, _, _, _, _]) xk sizeOf3 rfl rfl (by first | rfl | assumption) rfl rfl) ?_)))
  rintro _ Vh yR
  refine bH rfl (aZ 33 underlying66 rfl sizeOf64 rfl (aI (aN 33 (l' := [_, _, _, _, _, _, _, _, _, _, _, _, _, _, _, _, _, _, _, _, _, _, _, _, _, _, _, _, _, _, _, _, _, _]) yR sizeOf64 rfl rfl (by first | rfl | assumption) rfl rfl) ?_))
  rintro _ Vj oQ
  refine aA (aj (ay (ah (aO rfl (aV rfl (aA (aj (aJ (aK (aP (.inl rfl) results13 rfl ?_))))))))))
  exact ⟨rfl, aB.NR (s := s.wM) (TV cZ hin) rfl rfl oQ.f8.right.f8.right.f8.right.f8.right.f8.right.f9.right.f9.right.f2.f8.f8.f8.f8.f8.f8.f8⟩
theorem Ae (H : aB w0 w (dD e s • F)) : fQ prog 13 #[.pointer (some ⟨e, 0, none⟩), .int .i64 x] w fun v w' => v = .int .i64 (s.zU x) ∧ aB w0 w' (dD e (s.iE x) • F) := by
 by_cases hin : s.inn = true
 ·by_cases hx : x = 0
  ·subst hx
   rw [show s.iE 0 = s.jR from by unfold aY.iE; rw [if_pos hin, if_pos rfl], show s.zU 0 = 0 from by unfold aY.zU; rw [if_pos hin]]
   exact Lj hin H
  ·rw [(Ic hin hx).1, (Ic hin hx).2]
   exact NY hin hx H
 ·have hin' : s.inn = false := by simpa using hin
  have hpe : s.vT = 1 := by unfold aY.vT; rw [if_neg hin]
  rw [show s.iE x = s from by unfold aY.iE; rw [if_neg hin], show s.zU x = 1 from by unfold aY.zU; rw [if_neg hin]]
  refine gX func13 ntmps13 ?_
  dsimp only [bg, Nat.reduceAdd]
  refine ay (ah (aV rfl (aA (aj (ay (ay (ah (aO rfl (dw rfl func51 (gJ H) ?_)))))))))
  rintro _ _ ⟨rfl, rfl⟩
  refine aV rfl (aA (aj (ay (ah (aO rfl (aU (bZ rfl rfl) (aA (aj (aH rfl (fun h1 => ?_) (fun h => by exfalso; (try simp only [aG] at h); rw [hpe] at h; exact absurd h (by decide)))))))))))
  (try simp only [aG] at h1)
  refine ay (ah (aO rfl (aV rfl (aA (aj (aJ (aK (aP (.inl rfl) results13 rfl ?_))))))))
  rw [hpe]
  exact ⟨rfl, H⟩
end
end Go.Proofs.YtgmpclifphbjkaaGreatDoor
end
