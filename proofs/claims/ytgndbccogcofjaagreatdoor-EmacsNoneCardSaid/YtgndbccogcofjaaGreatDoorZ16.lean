import Derived.Test.YtgndbccogcofjaaGreatDoorZ2
import Derived.Test.YtgndbccogcofjaaGreatDoorZ15
set_option linter.unusedSimpArgs false
set_option linter.unusedVariables false
/- Texts of mine, joined, their names in short: EdE. -/
section
namespace Go.Proofs.YtgndbccogcofjaaGreatDoor
open Go.RowKit
open _root_.Go.Proofs.Tryz
theorem sG (s : bD) (on : Bool) : (s.dI on).c.run = s.c.run := by unfold bD.dI; split <;> rfl
theorem BA (s : bD) (on : Bool) : (s.dI on).cls = s.cls := by unfold bD.dI; split <;> rfl
theorem fM {s s1 : bD} {on run : Bool} (h1 : s1 = s.dZ) (hon : (s.typed && s.c.run) = on) (hrun : (s.typed && (!s.put.isEmpty || s.c.run)) = run) (h2 : (s1.dI on).cls ≠ 2) :
    s.iQ = { s1.dI on with c := { (s1.dI on).c with run := run, last := (s1.dI on).cls, fr := 0, to := 0 } } := by
  subst h1 hon hrun
  have hc : (s.dZ.dI (s.typed && s.c.run)).cls = s.cls := by rw [BA]; unfold bD.dZ; split <;> rfl
  unfold bD.iQ
  rw [hc] at h2 ⊢
  dsimp only
  rw [if_pos h2]
theorem eF {s s1 : bD} {on run : Bool} (h1 : s1 = s.dZ) (hon : (s.typed && s.c.run) = on) (hrun : (s.typed && (!s.put.isEmpty || s.c.run)) = run) (h2 : (s1.dI on).cls = 2) :
    s.iQ = { s1.dI on with c := { (s1.dI on).c with run := run, last := (s1.dI on).cls } } := by
  subst h1 hon hrun
  have hc : (s.dZ.dI (s.typed && s.c.run)).cls = s.cls := by rw [BA]; unfold bD.dZ; split <;> rfl
  unfold bD.iQ
  rw [hc] at h2 ⊢
  dsimp only
  rw [if_neg (by omega)]
theorem oJ {s : bD} (h : jq s) : jq s.dZ := by
  obtain ⟨h1, h2, h3, h4, h5, h6⟩ := h
  unfold bD.dZ
  split
  · exact ⟨h1, fun h => Bool.noConfusion h, h3, h4, h5, h6⟩
  · exact ⟨h1, fun h => Bool.noConfusion h, ⟨by show (-1 : Int) ≤ -1; decide, by show (-1 : Int) ≤ 1000000; decide⟩, h4, h5, h6⟩
theorem kT {l : List dQ} : l.isEmpty = decide (l.length = 0) := by cases l <;> rfl
section
variable {w0 w : World} {F : HP} {e p : Nat} {s : bD} {x : Int}
theorem GK (hin : s.inn = true) (H : aB w0 w (dw e s • F)) : eG prog 27 #[.pointer (some ⟨e, 0, none⟩), .int .i64 0] w fun v w' => v = .int .i64 0 ∧ aB w0 w' (dw e s.iQ • F) := by
  have hpe : s.qX = 0 := by unfold bD.qX; rw [if_pos hin]
  refine fP func27 ntmps27 ?_
  dsimp only [aX, Nat.reduceAdd]
  refine ay (ah (aV rfl (aA (aj (ay (ay (ah (aO rfl (dn rfl func94 (jd H) ?_)))))))))
  rintro _ _ ⟨rfl, rfl⟩
  refine aV rfl (aA (aj (ay (ah (aO rfl (aW (dU rfl rfl) (aA (aj (aQ rfl (fun h => by exfalso; (try simp only [aI] at h); exact h hpe) (fun h1 => ?_))))))))))
  (try simp only [aI] at h1)
  refine aS (aj (ay ?_))
  obtain ⟨oW, oZ, pq, pz, pF, pG, pI, pJ, nO, lQ, lS, lT, lU, lV, lW, lX, lY, lZ, mg, mD, dD, bF, fK, dG⟩ := (H).zy
  refine ah (aO rfl (bK rfl (aZ 16 underlying37 rfl sizeOf4 rfl (aG (aN 16 (l' := [_, _, _, _, _, _, _, _, _, _, _, _, _, _, _, _, _, _, _, _, _, _, _, _, _, _, _, _, _, _, _, _, _, _]) dG sizeOf4 rfl rfl (by first | rfl | assumption) rfl rfl) ?_))))
  rintro _ w3 H3
  refine aA (aj (ay (ay (ah (aO rfl (bK rfl (aZ 31 underlying37 rfl sizeOf4 rfl (dP underlying4 rfl (H3).get.2 rfl (aW (kC rfl) (fV rfl (fun h2 => ?_) (fun h2 => ?_)))))))))))
  · (try simp only [aI] at h2)
    have har : s.argues = false := by simpa using h2
    have hs1 : ({ s.sO with inn := false } : bD) = s.dZ := by unfold bD.dZ; rw [if_neg (by simp [har])]
    refine bC (bC (fG rfl rfl (aA (aj (uI (ah (aO rfl (aO rfl (aO rfl (bK rfl (aZ 13 underlying37 rfl sizeOf4 rfl (aG (aN 13 (l' := [_, _, _, _, _, _, _, _, _, _, _, _, _, _, _, _, _, _, _, _, _, _, _, _, _, _, _, _, _, _, _, _, _, _]) H3 sizeOf4 rfl rfl (by first | rfl | assumption) rfl rfl) ?_))))))))))))
    rintro _ w4 H4
    refine bK rfl (aZ 14 underlying37 rfl sizeOf4 rfl (aG (aN 14 (l' := [_, _, _, _, _, _, _, _, _, _, _, _, _, _, _, _, _, _, _, _, _, _, _, _, _, _, _, _, _, _, _, _, _, _]) H4 sizeOf4 rfl rfl (by first | rfl | assumption) rfl rfl) ?_))
    rintro _ w5 H5
    refine bK rfl (aZ 15 underlying37 rfl sizeOf3 rfl (aG (aN 15 (l' := [_, _, _, _, _, _, _, _, _, _, _, _, _, _, _, _, _, _, _, _, _, _, _, _, _, _, _, _, _, _, _, _, _, _]) H5 sizeOf3 rfl rfl (by first | rfl | assumption) rfl rfl) ?_))
    rintro _ w6 H6
    refine aA (aj (ay (ay (ah (aO rfl (aW (dU rfl rfl) (aA (aj (aQ rfl (fun h => by exfalso; (try simp only [aI] at h); simp at h) (fun h3 => ?_))))))))))
    (try simp only [aI] at h3)
    refine aS (aj (ay ?_))
    have vH := H6.drew
    have eu := aB.kp (vH.f11.f11.f11.f11.f11.f11.f11.f11.f11.f11.f11)
    refine xJ [3, 9, 14] eu rfl (iq 0 rfl eu rfl (jv 1 rfl eu rfl (fU 2 rfl eu 28 underlying37 rfl sizeOf3 rfl (iV 3 rfl eu (fun W hW => jr underlying3 rfl ((Kp.h hW)).get.2 rfl) (iU 4 rfl eu (fun _ => gI rfl rfl) ?_)))))
    refine E8 5 rfl rfl (by kernel_rfl) (by kernel_rfl) eu (nR rfl) (fun h4 => ?_) (fun h4 => ?_)
    · (try simp only [aI] at h4)
      have hc3 : s.cls = 3 := h4
      refine jO 6 rfl rfl rfl (by kernel_rfl) (by kernel_rfl) eu (fun _ => zF rfl) (nR rfl) ?_
      refine jO 7 rfl rfl rfl (by kernel_rfl) (by kernel_rfl) eu (fun _ => Jj rfl) (nR rfl) ?_
      refine jO 8 rfl rfl rfl (by kernel_rfl) (by kernel_rfl) eu (fun _ => zI 32 underlying37 rfl rfl sizeOf4 (by decide) rfl rfl) (nR rfl) ?_
      refine yC 9 rfl rfl rfl (by kernel_rfl) (by kernel_rfl) eu (by decide) (fun W hW => nU (iC underlying4 rfl) rfl (fC ((Kp.h hW)).get.2 rfl)) (nR rfl) ?_
      refine iU 10 rfl eu (fun _ => zG rfl rfl) (iq 11 rfl eu rfl (jv 12 rfl eu rfl (fU 13 rfl eu 33 underlying37 rfl sizeOf35 rfl (iV 14 rfl eu (fun W hW => jr underlying35 rfl ((Kp.h hW)).get.2 rfl) (iU 15 rfl eu (fun _ => gW ((vH.f9).aT) underlying35 rfl) (iU 16 rfl eu (fun _ => dB rfl rfl) (iU 17 rfl eu (fun _ => fZ rfl) (iU 18 rfl eu (fun _ => fZ rfl) (oV (aj (ay (ah (aO rfl (aO rfl (fV rfl (fun h5 => ?_) (fun h5 => ?_))))))))))))))))
      · (try simp only [aI] at h5)
        have hwh : s.whole = true := h5
        have hty : s.typed = true := by unfold bD.typed; rw [hc3, hwh]; rfl
        refine bf (aO rfl (bf (bK rfl (bf (aZ 0 underlying37 rfl sizeOf32 rfl (bf (aZ 10 underlying32 rfl sizeOf4 rfl (bf (dP underlying4 rfl (vH).get.2 rfl (fG rfl rfl ?_))))))))))
        have hwo := oU (vH.f11)
        have UG := vH.f11.right
        have HW0 := aB.vW (c := s.was) (u := [lQ, lS, lT, lU, lV, lW, lX, lY, lZ, mg, mD]) UG hwo
        obtain ⟨s1, jk, NV⟩ : ∃ s1, s1 = s.dZ ∧ aB w0 (w6.drew) (dw e s1 • F) := ⟨_, hs1, aB.dF (hs1 ▸ oJ dD) bF HW0.f11.f11.f11.f11.f11.f11.f11.f11.f11.f11⟩
        have hr1 : s1.c.run = s.c.run := by rw [jk]; unfold bD.dZ; split <;> rfl
        refine dn rfl func96 (jT NV) ?_
        rintro _ w8 H8
        obtain ⟨on, hon, HZ⟩ : ∃ on, (s.typed && s.c.run) = on ∧ aB w0 w8 (dw e (s1.dI on) • F) := ⟨_, by rw [hty]; rfl, H8⟩
        refine aA (aj (ay ?_))
        obtain ⟨oW, oZ, pq, pz, pF, pG, pI, pJ, nO, lQ, lS, lT, lU, lV, lW, lX, lY, lZ, mg, mD, dD, bF, fK, dG⟩ := (HZ).zy
        refine ah (aO rfl (aO rfl (fV rfl (fun h6 => ?_) (fun h6 => ?_))))
        · (try simp only [aI] at h6)
          have hw2 : s.whole = true := h6
          refine bf (aO rfl (bf (fV rfl (fun h7 => ?_) (fun h7 => ?_))))
          · (try simp only [aI] at h7)
            have hrun : (s.typed && (!s.put.isEmpty || s.c.run)) = true := by first | exact absurd (hw2.symm.trans hwh) (by decide) | (rw [kT, decide_eq_false (show ¬ s.put.length = 0 by omega), hty]; rfl)
            refine bC (bC (bC (bC (bC (bf (fG rfl rfl (fG rfl rfl (bK rfl (aZ 0 underlying37 rfl sizeOf32 rfl (aZ 10 underlying32 rfl sizeOf4 rfl (aG (aN 10 (l' := [_, _, _, _, _, _, _, _, _, _, _, _, _, _, _, _, _, _, _, _, _, _, _, _, _, _, _, _, _, _, _, _, _, _]) dG sizeOf4 rfl rfl (by first | rfl | assumption) rfl rfl) ?_)))))))))))
            rintro _ w10 ng
            refine aA (aj (ay (ah (aO rfl (aO rfl (bK rfl (aZ 28 underlying37 rfl sizeOf3 rfl (dP underlying3 rfl (ng).get.2 rfl (bK rfl (aZ 0 underlying37 rfl sizeOf32 rfl (aZ 6 underlying32 rfl sizeOf3 rfl (aG (aN 6 (l' := [_, _, _, _, _, _, _, _, _, _, _, _, _, _, _, _, _, _, _, _, _, _, _, _, _, _, _, _, _, _, _, _, _, _]) ng sizeOf3 rfl rfl (by first | rfl | assumption) rfl rfl) ?_))))))))))))
            rintro _ Ht wB
            refine aA (aj (ay (ay (ah (aO rfl (bK rfl (aZ 28 underlying37 rfl sizeOf3 rfl (dP underlying3 rfl (wB).get.2 rfl (aW (dU rfl rfl) (aA (aj (aQ rfl (fun h8 => ?_) (fun h8 => ?_)))))))))))))
            · (try simp only [aI] at h8)
              have mX := fM jk hon hrun h8
              refine ah (aO rfl (aO rfl (bK rfl (aZ 0 underlying37 rfl sizeOf32 rfl (aZ 7 underlying32 rfl sizeOf3 rfl (aG (aN 7 (l' := [_, _, _, _, _, _, _, _, _, _, _, _, _, _, _, _, _, _, _, _, _, _, _, _, _, _, _, _, _, _, _, _, _, _]) wB sizeOf3 rfl rfl (by first | rfl | assumption) rfl rfl) ?_))))))
              rintro _ w12 vM
              refine bK rfl (aZ 0 underlying37 rfl sizeOf32 rfl (aZ 8 underlying32 rfl sizeOf3 rfl (aG (aN 8 (l' := [_, _, _, _, _, _, _, _, _, _, _, _, _, _, _, _, _, _, _, _, _, _, _, _, _, _, _, _, _, _, _, _, _, _]) vM sizeOf3 rfl rfl (by first | rfl | assumption) rfl rfl) ?_)))
              rintro _ Me uX
              refine aA (aj (ay (ah (aV rfl (aA (aj (aJ (aH (.inl rfl) results27 rfl ?_))))))))
              refine ⟨rfl, ?_⟩
              first
                | exact absurd (hw2.symm.trans hwh) (by decide)
                | exact absurd (hwh.symm.trans hw2) (by decide)
                | (rw [mX]; exact aB.dF dD bF uX.f11.f11.f11.f11.f11.f11.f11.f11.f11.f11.f11)
            · (try simp only [aI] at h8)
              have mX := eF jk hon hrun h8
              refine aS (aj (ay (ah (aV rfl (aA (aj (aJ (aH (.inl rfl) results27 rfl ?_))))))))
              refine ⟨rfl, ?_⟩
              first
                | exact absurd (hw2.symm.trans hwh) (by decide)
                | exact absurd (hwh.symm.trans hw2) (by decide)
                | (rw [mX]; exact aB.dF dD bF wB.f11.f11.f11.f11.f11.f11.f11.f11.f11.f11.f11)
          · (try simp only [aI] at h7)
            have hrun : (s.typed && (!s.put.isEmpty || s.c.run)) = (s1.dI on).c.run := by first | exact absurd (hw2.symm.trans hwh) (by decide) | (rw [kT, decide_eq_true (show s.put.length = 0 by omega), hty, sG, hr1]; rfl)
            refine bf (aO rfl (bf (bK rfl (bf (aZ 0 underlying37 rfl sizeOf32 rfl (bf (aZ 10 underlying32 rfl sizeOf4 rfl (bf (dP underlying4 rfl (dG).get.2 rfl (bf (eY rfl rfl (fG rfl rfl (bK rfl (aZ 0 underlying37 rfl sizeOf32 rfl (aZ 10 underlying32 rfl sizeOf4 rfl (aG (aN 10 (l' := [_, _, _, _, _, _, _, _, _, _, _, _, _, _, _, _, _, _, _, _, _, _, _, _, _, _, _, _, _, _, _, _, _, _]) dG sizeOf4 rfl rfl (by first | rfl | assumption) rfl rfl) ?_))))))))))))))))
            rintro _ Ky wM
            refine aA (aj (ay (ah (aO rfl (aO rfl (bK rfl (aZ 28 underlying37 rfl sizeOf3 rfl (dP underlying3 rfl (wM).get.2 rfl (bK rfl (aZ 0 underlying37 rfl sizeOf32 rfl (aZ 6 underlying32 rfl sizeOf3 rfl (aG (aN 6 (l' := [_, _, _, _, _, _, _, _, _, _, _, _, _, _, _, _, _, _, _, _, _, _, _, _, _, _, _, _, _, _, _, _, _, _]) wM sizeOf3 rfl rfl (by first | rfl | assumption) rfl rfl) ?_))))))))))))
            rintro _ MB wC
            refine aA (aj (ay (ay (ah (aO rfl (bK rfl (aZ 28 underlying37 rfl sizeOf3 rfl (dP underlying3 rfl (wC).get.2 rfl (aW (dU rfl rfl) (aA (aj (aQ rfl (fun h9 => ?_) (fun h9 => ?_)))))))))))))
            · (try simp only [aI] at h9)
              have mX := fM jk hon hrun h9
              refine ah (aO rfl (aO rfl (bK rfl (aZ 0 underlying37 rfl sizeOf32 rfl (aZ 7 underlying32 rfl sizeOf3 rfl (aG (aN 7 (l' := [_, _, _, _, _, _, _, _, _, _, _, _, _, _, _, _, _, _, _, _, _, _, _, _, _, _, _, _, _, _, _, _, _, _]) wC sizeOf3 rfl rfl (by first | rfl | assumption) rfl rfl) ?_))))))
              rintro _ w16 rP
              refine bK rfl (aZ 0 underlying37 rfl sizeOf32 rfl (aZ 8 underlying32 rfl sizeOf3 rfl (aG (aN 8 (l' := [_, _, _, _, _, _, _, _, _, _, _, _, _, _, _, _, _, _, _, _, _, _, _, _, _, _, _, _, _, _, _, _, _, _]) rP sizeOf3 rfl rfl (by first | rfl | assumption) rfl rfl) ?_)))
              rintro _ Tc D7
              refine aA (aj (ay (ah (aV rfl (aA (aj (aJ (aH (.inl rfl) results27 rfl ?_))))))))
              refine ⟨rfl, ?_⟩
              first
                | exact absurd (hw2.symm.trans hwh) (by decide)
                | exact absurd (hwh.symm.trans hw2) (by decide)
                | (rw [mX]; exact aB.dF dD bF D7.f11.f11.f11.f11.f11.f11.f11.f11.f11.f11.f11)
            · (try simp only [aI] at h9)
              have mX := eF jk hon hrun h9
              refine aS (aj (ay (ah (aV rfl (aA (aj (aJ (aH (.inl rfl) results27 rfl ?_))))))))
              refine ⟨rfl, ?_⟩
              first
                | exact absurd (hw2.symm.trans hwh) (by decide)
                | exact absurd (hwh.symm.trans hw2) (by decide)
                | (rw [mX]; exact aB.dF dD bF wC.f11.f11.f11.f11.f11.f11.f11.f11.f11.f11.f11)
        · (try simp only [aI] at h6)
          have hw2 : s.whole = false := by simpa using h6
          have hrun : (s.typed && (!s.put.isEmpty || s.c.run)) = false := by first | exact absurd (hwh.symm.trans hw2) (by decide) | (rw [hty]; rfl)
          refine bC (bC (kJ (kJ (kJ (kJ (kJ (bC (eY rfl rfl (bK rfl (aZ 0 underlying37 rfl sizeOf32 rfl (aZ 10 underlying32 rfl sizeOf4 rfl (aG (aN 10 (l' := [_, _, _, _, _, _, _, _, _, _, _, _, _, _, _, _, _, _, _, _, _, _, _, _, _, _, _, _, _, _, _, _, _, _]) dG sizeOf4 rfl rfl (by first | rfl | assumption) rfl rfl) ?_))))))))))))
          rintro _ Qc C9
          refine aA (aj (ay (ah (aO rfl (aO rfl (bK rfl (aZ 28 underlying37 rfl sizeOf3 rfl (dP underlying3 rfl (C9).get.2 rfl (bK rfl (aZ 0 underlying37 rfl sizeOf32 rfl (aZ 6 underlying32 rfl sizeOf3 rfl (aG (aN 6 (l' := [_, _, _, _, _, _, _, _, _, _, _, _, _, _, _, _, _, _, _, _, _, _, _, _, _, _, _, _, _, _, _, _, _, _]) C9 sizeOf3 rfl rfl (by first | rfl | assumption) rfl rfl) ?_))))))))))))
          rintro _ Qh Aa
          refine aA (aj (ay (ay (ah (aO rfl (bK rfl (aZ 28 underlying37 rfl sizeOf3 rfl (dP underlying3 rfl (Aa).get.2 rfl (aW (dU rfl rfl) (aA (aj (aQ rfl (fun h10 => ?_) (fun h10 => ?_)))))))))))))
          · (try simp only [aI] at h10)
            have mX := fM jk hon hrun h10
            refine ah (aO rfl (aO rfl (bK rfl (aZ 0 underlying37 rfl sizeOf32 rfl (aZ 7 underlying32 rfl sizeOf3 rfl (aG (aN 7 (l' := [_, _, _, _, _, _, _, _, _, _, _, _, _, _, _, _, _, _, _, _, _, _, _, _, _, _, _, _, _, _, _, _, _, _]) Aa sizeOf3 rfl rfl (by first | rfl | assumption) rfl rfl) ?_))))))
            rintro _ Qd wz
            refine bK rfl (aZ 0 underlying37 rfl sizeOf32 rfl (aZ 8 underlying32 rfl sizeOf3 rfl (aG (aN 8 (l' := [_, _, _, _, _, _, _, _, _, _, _, _, _, _, _, _, _, _, _, _, _, _, _, _, _, _, _, _, _, _, _, _, _, _]) wz sizeOf3 rfl rfl (by first | rfl | assumption) rfl rfl) ?_)))
            rintro _ Rf nY
            refine aA (aj (ay (ah (aV rfl (aA (aj (aJ (aH (.inl rfl) results27 rfl ?_))))))))
            refine ⟨rfl, ?_⟩
            first
              | exact absurd (hw2.symm.trans hwh) (by decide)
              | exact absurd (hwh.symm.trans hw2) (by decide)
              | (rw [mX]; exact aB.dF dD bF nY.f11.f11.f11.f11.f11.f11.f11.f11.f11.f11.f11)
          · (try simp only [aI] at h10)
            have mX := eF jk hon hrun h10
            refine aS (aj (ay (ah (aV rfl (aA (aj (aJ (aH (.inl rfl) results27 rfl ?_))))))))
            refine ⟨rfl, ?_⟩
            first
              | exact absurd (hw2.symm.trans hwh) (by decide)
              | exact absurd (hwh.symm.trans hw2) (by decide)
              | (rw [mX]; exact aB.dF dD bF Aa.f11.f11.f11.f11.f11.f11.f11.f11.f11.f11.f11)
      · (try simp only [aI] at h5)
        have hwh : s.whole = false := by simpa using h5
        have hty : s.typed = false := by unfold bD.typed; rw [hc3, hwh]; rfl
        have hrun : (s.typed && (!s.put.isEmpty || s.c.run)) = false := by rw [hty]; rfl
        refine bC (bC (bC (bC (bC (eY rfl rfl ?_)))))
        have hwo := oU (vH.f11)
        have Ey := vH.f11.right
        have HW0 := aB.vW (c := s.was) (u := [lQ, lS, lT, lU, lV, lW, lX, lY, lZ, mg, mD]) Ey hwo
        obtain ⟨s1, jk, NV⟩ : ∃ s1, s1 = s.dZ ∧ aB w0 (w6.drew) (dw e s1 • F) := ⟨_, hs1, aB.dF (hs1 ▸ oJ dD) bF HW0.f11.f11.f11.f11.f11.f11.f11.f11.f11.f11⟩
        have hr1 : s1.c.run = s.c.run := by rw [jk]; unfold bD.dZ; split <;> rfl
        refine dn rfl func96 (jT NV) ?_
        rintro _ Qi xC
        obtain ⟨on, hon, HZ⟩ : ∃ on, (s.typed && s.c.run) = on ∧ aB w0 Qi (dw e (s1.dI on) • F) := ⟨_, by rw [hty]; rfl, xC⟩
        refine aA (aj (ay ?_))
        obtain ⟨oW, oZ, pq, pz, pF, pG, pI, pJ, nO, lQ, lS, lT, lU, lV, lW, lX, lY, lZ, mg, mD, dD, bF, fK, dG⟩ := (HZ).zy
        refine ah (aO rfl (aO rfl (fV rfl (fun h11 => ?_) (fun h11 => ?_))))
        · (try simp only [aI] at h11)
          have hw2 : s.whole = true := h11
          refine bf (aO rfl (bf (fV rfl (fun h12 => ?_) (fun h12 => ?_))))
          · (try simp only [aI] at h12)
            have hrun : (s.typed && (!s.put.isEmpty || s.c.run)) = true := by first | exact absurd (hw2.symm.trans hwh) (by decide) | (rw [kT, decide_eq_false (show ¬ s.put.length = 0 by omega), hty]; rfl)
            refine bC (bC (bC (bC (bC (bf (fG rfl rfl (fG rfl rfl (bK rfl (aZ 0 underlying37 rfl sizeOf32 rfl (aZ 10 underlying32 rfl sizeOf4 rfl (aG (aN 10 (l' := [_, _, _, _, _, _, _, _, _, _, _, _, _, _, _, _, _, _, _, _, _, _, _, _, _, _, _, _, _, _, _, _, _, _]) dG sizeOf4 rfl rfl (by first | rfl | assumption) rfl rfl) ?_)))))))))))
            rintro _ VI Jt
            refine aA (aj (ay (ah (aO rfl (aO rfl (bK rfl (aZ 28 underlying37 rfl sizeOf3 rfl (dP underlying3 rfl (Jt).get.2 rfl (bK rfl (aZ 0 underlying37 rfl sizeOf32 rfl (aZ 6 underlying32 rfl sizeOf3 rfl (aG (aN 6 (l' := [_, _, _, _, _, _, _, _, _, _, _, _, _, _, _, _, _, _, _, _, _, _, _, _, _, _, _, _, _, _, _, _, _, _]) Jt sizeOf3 rfl rfl (by first | rfl | assumption) rfl rfl) ?_))))))))))))
            rintro _ Uh KC
            refine aA (aj (ay (ay (ah (aO rfl (bK rfl (aZ 28 underlying37 rfl sizeOf3 rfl (dP underlying3 rfl (KC).get.2 rfl (aW (dU rfl rfl) (aA (aj (aQ rfl (fun h13 => ?_) (fun h13 => ?_)))))))))))))
            · (try simp only [aI] at h13)
              have mX := fM jk hon hrun h13
              refine ah (aO rfl (aO rfl (bK rfl (aZ 0 underlying37 rfl sizeOf32 rfl (aZ 7 underlying32 rfl sizeOf3 rfl (aG (aN 7 (l' := [_, _, _, _, _, _, _, _, _, _, _, _, _, _, _, _, _, _, _, _, _, _, _, _, _, _, _, _, _, _, _, _, _, _]) KC sizeOf3 rfl rfl (by first | rfl | assumption) rfl rfl) ?_))))))
              rintro _ Ui Oj
              refine bK rfl (aZ 0 underlying37 rfl sizeOf32 rfl (aZ 8 underlying32 rfl sizeOf3 rfl (aG (aN 8 (l' := [_, _, _, _, _, _, _, _, _, _, _, _, _, _, _, _, _, _, _, _, _, _, _, _, _, _, _, _, _, _, _, _, _, _]) Oj sizeOf3 rfl rfl (by first | rfl | assumption) rfl rfl) ?_)))
              rintro _ VJ Ol
              refine aA (aj (ay (ah (aV rfl (aA (aj (aJ (aH (.inl rfl) results27 rfl ?_))))))))
              refine ⟨rfl, ?_⟩
              first
                | exact absurd (hw2.symm.trans hwh) (by decide)
                | exact absurd (hwh.symm.trans hw2) (by decide)
                | (rw [mX]; exact aB.dF dD bF Ol.f11.f11.f11.f11.f11.f11.f11.f11.f11.f11.f11)
            · (try simp only [aI] at h13)
              have mX := eF jk hon hrun h13
              refine aS (aj (ay (ah (aV rfl (aA (aj (aJ (aH (.inl rfl) results27 rfl ?_))))))))
              refine ⟨rfl, ?_⟩
              first
                | exact absurd (hw2.symm.trans hwh) (by decide)
                | exact absurd (hwh.symm.trans hw2) (by decide)
                | (rw [mX]; exact aB.dF dD bF KC.f11.f11.f11.f11.f11.f11.f11.f11.f11.f11.f11)
          · (try simp only [aI] at h12)
            have hrun : (s.typed && (!s.put.isEmpty || s.c.run)) = (s1.dI on).c.run := by first | exact absurd (hw2.symm.trans hwh) (by decide) | (rw [kT, decide_eq_true (show s.put.length = 0 by omega), hty, sG, hr1]; rfl)
            refine bf (aO rfl (bf (bK rfl (bf (aZ 0 underlying37 rfl sizeOf32 rfl (bf (aZ 10 underlying32 rfl sizeOf4 rfl (bf (dP underlying4 rfl (dG).get.2 rfl (bf (eY rfl rfl (fG rfl rfl (bK rfl (aZ 0 underlying37 rfl sizeOf32 rfl (aZ 10 underlying32 rfl sizeOf4 rfl (aG (aN 10 (l' := [_, _, _, _, _, _, _, _, _, _, _, _, _, _, _, _, _, _, _, _, _, _, _, _, _, _, _, _, _, _, _, _, _, _]) dG sizeOf4 rfl rfl (by first | rfl | assumption) rfl rfl) ?_))))))))))))))))
            rintro _ YP Rh
            refine aA (aj (ay (ah (aO rfl (aO rfl (bK rfl (aZ 28 underlying37 rfl sizeOf3 rfl (dP underlying3 rfl (Rh).get.2 rfl (bK rfl (aZ 0 underlying37 rfl sizeOf32 rfl (aZ 6 underlying32 rfl sizeOf3 rfl (aG (aN 6 (l' := [_, _, _, _, _, _, _, _, _, _, _, _, _, _, _, _, _, _, _, _, _, _, _, _, _, _, _, _, _, _, _, _, _, _]) Rh sizeOf3 rfl rfl (by first | rfl | assumption) rfl rfl) ?_))))))))))))
            rintro _ Wp MC
            refine aA (aj (ay (ay (ah (aO rfl (bK rfl (aZ 28 underlying37 rfl sizeOf3 rfl (dP underlying3 rfl (MC).get.2 rfl (aW (dU rfl rfl) (aA (aj (aQ rfl (fun h14 => ?_) (fun h14 => ?_)))))))))))))
            · (try simp only [aI] at h14)
              have mX := fM jk hon hrun h14
              refine ah (aO rfl (aO rfl (bK rfl (aZ 0 underlying37 rfl sizeOf32 rfl (aZ 7 underlying32 rfl sizeOf3 rfl (aG (aN 7 (l' := [_, _, _, _, _, _, _, _, _, _, _, _, _, _, _, _, _, _, _, _, _, _, _, _, _, _, _, _, _, _, _, _, _, _]) MC sizeOf3 rfl rfl (by first | rfl | assumption) rfl rfl) ?_))))))
              rintro _ Uj Hu
              refine bK rfl (aZ 0 underlying37 rfl sizeOf32 rfl (aZ 8 underlying32 rfl sizeOf3 rfl (aG (aN 8 (l' := [_, _, _, _, _, _, _, _, _, _, _, _, _, _, _, _, _, _, _, _, _, _, _, _, _, _, _, _, _, _, _, _, _, _]) Hu sizeOf3 rfl rfl (by first | rfl | assumption) rfl rfl) ?_)))
              rintro _ w32 Ls
              refine aA (aj (ay (ah (aV rfl (aA (aj (aJ (aH (.inl rfl) results27 rfl ?_))))))))
              refine ⟨rfl, ?_⟩
              first
                | exact absurd (hw2.symm.trans hwh) (by decide)
                | exact absurd (hwh.symm.trans hw2) (by decide)
                | (rw [mX]; exact aB.dF dD bF Ls.f11.f11.f11.f11.f11.f11.f11.f11.f11.f11.f11)
            · (try simp only [aI] at h14)
              have mX := eF jk hon hrun h14
              refine aS (aj (ay (ah (aV rfl (aA (aj (aJ (aH (.inl rfl) results27 rfl ?_))))))))
              refine ⟨rfl, ?_⟩
              first
                | exact absurd (hw2.symm.trans hwh) (by decide)
                | exact absurd (hwh.symm.trans hw2) (by decide)
                | (rw [mX]; exact aB.dF dD bF MC.f11.f11.f11.f11.f11.f11.f11.f11.f11.f11.f11)
        · (try simp only [aI] at h11)
          have hw2 : s.whole = false := by simpa using h11
          have hrun : (s.typed && (!s.put.isEmpty || s.c.run)) = false := by first | exact absurd (hwh.symm.trans hw2) (by decide) | (rw [hty]; rfl)
          refine bC (bC (kJ (kJ (kJ (kJ (kJ (bC (eY rfl rfl (bK rfl (aZ 0 underlying37 rfl sizeOf32 rfl (aZ 10 underlying32 rfl sizeOf4 rfl (aG (aN 10 (l' := [_, _, _, _, _, _, _, _, _, _, _, _, _, _, _, _, _, _, _, _, _, _, _, _, _, _, _, _, _, _, _, _, _, _]) dG sizeOf4 rfl rfl (by first | rfl | assumption) rfl rfl) ?_))))))))))))
          rintro _ VK Hw
          refine aA (aj (ay (ah (aO rfl (aO rfl (bK rfl (aZ 28 underlying37 rfl sizeOf3 rfl (dP underlying3 rfl (Hw).get.2 rfl (bK rfl (aZ 0 underlying37 rfl sizeOf32 rfl (aZ 6 underlying32 rfl sizeOf3 rfl (aG (aN 6 (l' := [_, _, _, _, _, _, _, _, _, _, _, _, _, _, _, _, _, _, _, _, _, _, _, _, _, _, _, _, _, _, _, _, _, _]) Hw sizeOf3 rfl rfl (by first | rfl | assumption) rfl rfl) ?_))))))))))))
          rintro _ Wq Om
          refine aA (aj (ay (ay (ah (aO rfl (bK rfl (aZ 28 underlying37 rfl sizeOf3 rfl (dP underlying3 rfl (Om).get.2 rfl (aW (dU rfl rfl) (aA (aj (aQ rfl (fun h15 => ?_) (fun h15 => ?_)))))))))))))
          · (try simp only [aI] at h15)
            have mX := fM jk hon hrun h15
            refine ah (aO rfl (aO rfl (bK rfl (aZ 0 underlying37 rfl sizeOf32 rfl (aZ 7 underlying32 rfl sizeOf3 rfl (aG (aN 7 (l' := [_, _, _, _, _, _, _, _, _, _, _, _, _, _, _, _, _, _, _, _, _, _, _, _, _, _, _, _, _, _, _, _, _, _]) Om sizeOf3 rfl rfl (by first | rfl | assumption) rfl rfl) ?_))))))
            rintro _ YQ Td
            refine bK rfl (aZ 0 underlying37 rfl sizeOf32 rfl (aZ 8 underlying32 rfl sizeOf3 rfl (aG (aN 8 (l' := [_, _, _, _, _, _, _, _, _, _, _, _, _, _, _, _, _, _, _, _, _, _, _, _, _, _, _, _, _, _, _, _, _, _]) Td sizeOf3 rfl rfl (by first | rfl | assumption) rfl rfl) ?_)))
            rintro _ YR Uk
            refine aA (aj (ay (ah (aV rfl (aA (aj (aJ (aH (.inl rfl) results27 rfl ?_))))))))
            refine ⟨rfl, ?_⟩
            first
              | exact absurd (hw2.symm.trans hwh) (by decide)
              | exact absurd (hwh.symm.trans hw2) (by decide)
              | (rw [mX]; exact aB.dF dD bF Uk.f11.f11.f11.f11.f11.f11.f11.f11.f11.f11.f11)
          · (try simp only [aI] at h15)
            have mX := eF jk hon hrun h15
            refine aS (aj (ay (ah (aV rfl (aA (aj (aJ (aH (.inl rfl) results27 rfl ?_))))))))
            refine ⟨rfl, ?_⟩
            first
              | exact absurd (hw2.symm.trans hwh) (by decide)
              | exact absurd (hwh.symm.trans hw2) (by decide)
              | (rw [mX]; exact aB.dF dD bF Om.f11.f11.f11.f11.f11.f11.f11.f11.f11.f11.f11)
    · (try simp only [aI] at h4)
      have hty : s.typed = false := by unfold bD.typed; rw [beq_false_of_ne h4]; rfl
      have hrun : (s.typed && (!s.put.isEmpty || s.c.run)) = false := by rw [hty]; rfl
      refine yD 6 rfl rfl rfl rfl (by kernel_rfl) (by kernel_rfl) eu (nR rfl) ?_
      refine yD 7 rfl rfl rfl rfl (by kernel_rfl) (by kernel_rfl) eu (nR rfl) ?_
      refine yD 8 rfl rfl rfl rfl (by kernel_rfl) (by kernel_rfl) eu (nR rfl) ?_
      refine yD 9 rfl rfl rfl rfl (by kernel_rfl) (by kernel_rfl) eu (nR rfl) ?_
      refine iU 10 rfl eu (fun _ => zH rfl rfl) (iq 11 rfl eu rfl (jv 12 rfl eu rfl (fU 13 rfl eu 33 underlying37 rfl sizeOf35 rfl (iV 14 rfl eu (fun W hW => jr underlying35 rfl ((Kp.h hW)).get.2 rfl) (iU 15 rfl eu (fun _ => gW ((vH.f9).aT) underlying35 rfl) (iU 16 rfl eu (fun _ => dB rfl rfl) (iU 17 rfl eu (fun _ => fZ rfl) (iU 18 rfl eu (fun _ => fZ rfl) (oV (aj (ay (ah (aO rfl (aO rfl (aO rfl (bC (bC (bC (bC (bC (eY rfl rfl ?_)))))))))))))))))))))
      have hwo := oU (vH.f11)
      have Sv := vH.f11.right
      have HW0 := aB.vW (c := s.was) (u := [lQ, lS, lT, lU, lV, lW, lX, lY, lZ, mg, mD]) Sv hwo
      obtain ⟨s1, jk, NV⟩ : ∃ s1, s1 = s.dZ ∧ aB w0 (w6.drew) (dw e s1 • F) := ⟨_, hs1, aB.dF (hs1 ▸ oJ dD) bF HW0.f11.f11.f11.f11.f11.f11.f11.f11.f11.f11⟩
      have hr1 : s1.c.run = s.c.run := by rw [jk]; unfold bD.dZ; split <;> rfl
      refine dn rfl func96 (jT NV) ?_
      rintro _ Ul Ri
      obtain ⟨on, hon, HZ⟩ : ∃ on, (s.typed && s.c.run) = on ∧ aB w0 Ul (dw e (s1.dI on) • F) := ⟨_, by rw [hty]; rfl, Ri⟩
      refine aA (aj (ay ?_))
      obtain ⟨oW, oZ, pq, pz, pF, pG, pI, pJ, nO, lQ, lS, lT, lU, lV, lW, lX, lY, lZ, mg, mD, dD, bF, fK, dG⟩ := (HZ).zy
      refine ah (aO rfl (aO rfl (aO rfl (bC (bC (kJ (kJ (kJ (kJ (kJ (bC (eY rfl rfl (bK rfl (aZ 0 underlying37 rfl sizeOf32 rfl (aZ 10 underlying32 rfl sizeOf4 rfl (aG (aN 10 (l' := [_, _, _, _, _, _, _, _, _, _, _, _, _, _, _, _, _, _, _, _, _, _, _, _, _, _, _, _, _, _, _, _, _, _]) dG sizeOf4 rfl rfl (by first | rfl | assumption) rfl rfl) ?_))))))))))))))))
      rintro _ ZG VN
      refine aA (aj (ay (ah (aO rfl (aO rfl (bK rfl (aZ 28 underlying37 rfl sizeOf3 rfl (dP underlying3 rfl (VN).get.2 rfl (bK rfl (aZ 0 underlying37 rfl sizeOf32 rfl (aZ 6 underlying32 rfl sizeOf3 rfl (aG (aN 6 (l' := [_, _, _, _, _, _, _, _, _, _, _, _, _, _, _, _, _, _, _, _, _, _, _, _, _, _, _, _, _, _, _, _, _, _]) VN sizeOf3 rfl rfl (by first | rfl | assumption) rfl rfl) ?_))))))))))))
      rintro _ YT Qj
      refine aA (aj (ay (ay (ah (aO rfl (bK rfl (aZ 28 underlying37 rfl sizeOf3 rfl (dP underlying3 rfl (Qj).get.2 rfl (aW (dU rfl rfl) (aA (aj (aQ rfl (fun h16 => ?_) (fun h16 => ?_)))))))))))))
      · (try simp only [aI] at h16)
        have mX := fM jk hon hrun h16
        refine ah (aO rfl (aO rfl (bK rfl (aZ 0 underlying37 rfl sizeOf32 rfl (aZ 7 underlying32 rfl sizeOf3 rfl (aG (aN 7 (l' := [_, _, _, _, _, _, _, _, _, _, _, _, _, _, _, _, _, _, _, _, _, _, _, _, _, _, _, _, _, _, _, _, _, _]) Qj sizeOf3 rfl rfl (by first | rfl | assumption) rfl rfl) ?_))))))
        rintro _ YU Tf
        refine bK rfl (aZ 0 underlying37 rfl sizeOf32 rfl (aZ 8 underlying32 rfl sizeOf3 rfl (aG (aN 8 (l' := [_, _, _, _, _, _, _, _, _, _, _, _, _, _, _, _, _, _, _, _, _, _, _, _, _, _, _, _, _, _, _, _, _, _]) Tf sizeOf3 rfl rfl (by first | rfl | assumption) rfl rfl) ?_)))
        rintro _ Wu Ti
        refine aA (aj (ay (ah (aV rfl (aA (aj (aJ (aH (.inl rfl) results27 rfl ?_))))))))
        refine ⟨rfl, ?_⟩
        first
          | exact absurd (hw2.symm.trans hwh) (by decide)
          | exact absurd (hwh.symm.trans hw2) (by decide)
          | (rw [mX]; exact aB.dF dD bF Ti.f11.f11.f11.f11.f11.f11.f11.f11.f11.f11.f11)
      · (try simp only [aI] at h16)
        have mX := eF jk hon hrun h16
        refine aS (aj (ay (ah (aV rfl (aA (aj (aJ (aH (.inl rfl) results27 rfl ?_))))))))
        refine ⟨rfl, ?_⟩
        first
          | exact absurd (hw2.symm.trans hwh) (by decide)
          | exact absurd (hwh.symm.trans hw2) (by decide)
          | (rw [mX]; exact aB.dF dD bF Qj.f11.f11.f11.f11.f11.f11.f11.f11.f11.f11.f11)
  · (try simp only [aI] at h2)
    have har : s.argues = true := by simpa using h2
    have hs1 : ({ s with inn := false } : bD) = s.dZ := by unfold bD.dZ; rw [if_pos har]
    refine bf (aO rfl (bf (aW (dU rfl rfl) (eY rfl rfl (aA (aj (aQ rfl (fun h => by exfalso; (try simp only [aI] at h); simp at h) (fun h17 => ?_))))))))
    (try simp only [aI] at h17)
    refine aS (aj (ay (ay (ah (aO rfl (aW (dU rfl rfl) (aA (aj (aQ rfl (fun h => by exfalso; (try simp only [aI] at h); simp at h) (fun h18 => ?_))))))))))
    (try simp only [aI] at h18)
    refine aS (aj (ay ?_))
    have qE := H3.drew
    have dK := aB.kp (qE.f11.f11.f11.f11.f11.f11.f11.f11.f11.f11.f11)
    refine xJ [3, 9, 14] dK rfl (iq 0 rfl dK rfl (jv 1 rfl dK rfl (fU 2 rfl dK 28 underlying37 rfl sizeOf3 rfl (iV 3 rfl dK (fun W hW => jr underlying3 rfl ((Kp.h hW)).get.2 rfl) (iU 4 rfl dK (fun _ => gI rfl rfl) ?_)))))
    refine E8 5 rfl rfl (by kernel_rfl) (by kernel_rfl) dK (nR rfl) (fun h19 => ?_) (fun h19 => ?_)
    · (try simp only [aI] at h19)
      have hc3 : s.cls = 3 := h19
      refine jO 6 rfl rfl rfl (by kernel_rfl) (by kernel_rfl) dK (fun _ => zF rfl) (nR rfl) ?_
      refine jO 7 rfl rfl rfl (by kernel_rfl) (by kernel_rfl) dK (fun _ => Jj rfl) (nR rfl) ?_
      refine jO 8 rfl rfl rfl (by kernel_rfl) (by kernel_rfl) dK (fun _ => zI 32 underlying37 rfl rfl sizeOf4 (by decide) rfl rfl) (nR rfl) ?_
      refine yC 9 rfl rfl rfl (by kernel_rfl) (by kernel_rfl) dK (by decide) (fun W hW => nU (iC underlying4 rfl) rfl (fC ((Kp.h hW)).get.2 rfl)) (nR rfl) ?_
      refine iU 10 rfl dK (fun _ => zG rfl rfl) (iq 11 rfl dK rfl (jv 12 rfl dK rfl (fU 13 rfl dK 33 underlying37 rfl sizeOf35 rfl (iV 14 rfl dK (fun W hW => jr underlying35 rfl ((Kp.h hW)).get.2 rfl) (iU 15 rfl dK (fun _ => gW ((qE.f9).aT) underlying35 rfl) (iU 16 rfl dK (fun _ => dB rfl rfl) (iU 17 rfl dK (fun _ => fZ rfl) (iU 18 rfl dK (fun _ => fZ rfl) (oV (aj (ay (ah (aO rfl (aO rfl (fV rfl (fun h20 => ?_) (fun h20 => ?_))))))))))))))))
      · (try simp only [aI] at h20)
        have hwh : s.whole = true := h20
        have hty : s.typed = true := by unfold bD.typed; rw [hc3, hwh]; rfl
        refine bf (aO rfl (bf (bK rfl (bf (aZ 0 underlying37 rfl sizeOf32 rfl (bf (aZ 10 underlying32 rfl sizeOf4 rfl (bf (dP underlying4 rfl (qE).get.2 rfl (fG rfl rfl ?_))))))))))
        have hwo := oU (qE.f11)
        have YC := qE.f11.right
        have HW0 := aB.vW (c := s.was) (u := [lQ, lS, lT, lU, lV, lW, lX, lY, lZ, mg, mD]) YC hwo
        obtain ⟨s1, jk, NV⟩ : ∃ s1, s1 = s.dZ ∧ aB w0 (w3.drew) (dw e s1 • F) := ⟨_, hs1, aB.dF (hs1 ▸ oJ dD) bF HW0.f11.f11.f11.f11.f11.f11.f11.f11.f11.f11⟩
        have hr1 : s1.c.run = s.c.run := by rw [jk]; unfold bD.dZ; split <;> rfl
        refine dn rfl func96 (jT NV) ?_
        rintro _ VO Qk
        obtain ⟨on, hon, HZ⟩ : ∃ on, (s.typed && s.c.run) = on ∧ aB w0 VO (dw e (s1.dI on) • F) := ⟨_, by rw [hty]; rfl, Qk⟩
        refine aA (aj (ay ?_))
        obtain ⟨oW, oZ, pq, pz, pF, pG, pI, pJ, nO, lQ, lS, lT, lU, lV, lW, lX, lY, lZ, mg, mD, dD, bF, fK, dG⟩ := (HZ).zy
        refine ah (aO rfl (aO rfl (fV rfl (fun h21 => ?_) (fun h21 => ?_))))
        · (try simp only [aI] at h21)
          have hw2 : s.whole = true := h21
          refine bf (aO rfl (bf (fV rfl (fun h22 => ?_) (fun h22 => ?_))))
          · (try simp only [aI] at h22)
            have hrun : (s.typed && (!s.put.isEmpty || s.c.run)) = true := by first | exact absurd (hw2.symm.trans hwh) (by decide) | (rw [kT, decide_eq_false (show ¬ s.put.length = 0 by omega), hty]; rfl)
            refine bC (bC (bC (bC (bC (bf (fG rfl rfl (fG rfl rfl (bK rfl (aZ 0 underlying37 rfl sizeOf32 rfl (aZ 10 underlying32 rfl sizeOf4 rfl (aG (aN 10 (l' := [_, _, _, _, _, _, _, _, _, _, _, _, _, _, _, _, _, _, _, _, _, _, _, _, _, _, _, _, _, _, _, _, _, _]) dG sizeOf4 rfl rfl (by first | rfl | assumption) rfl rfl) ?_)))))))))))
            rintro _ YX Tj
            refine aA (aj (ay (ah (aO rfl (aO rfl (bK rfl (aZ 28 underlying37 rfl sizeOf3 rfl (dP underlying3 rfl (Tj).get.2 rfl (bK rfl (aZ 0 underlying37 rfl sizeOf32 rfl (aZ 6 underlying32 rfl sizeOf3 rfl (aG (aN 6 (l' := [_, _, _, _, _, _, _, _, _, _, _, _, _, _, _, _, _, _, _, _, _, _, _, _, _, _, _, _, _, _, _, _, _, _]) Tj sizeOf3 rfl rfl (by first | rfl | assumption) rfl rfl) ?_))))))))))))
            rintro _ w48 YD
            refine aA (aj (ay (ay (ah (aO rfl (bK rfl (aZ 28 underlying37 rfl sizeOf3 rfl (dP underlying3 rfl (YD).get.2 rfl (aW (dU rfl rfl) (aA (aj (aQ rfl (fun h23 => ?_) (fun h23 => ?_)))))))))))))
            · (try simp only [aI] at h23)
              have mX := fM jk hon hrun h23
              refine ah (aO rfl (aO rfl (bK rfl (aZ 0 underlying37 rfl sizeOf32 rfl (aZ 7 underlying32 rfl sizeOf3 rfl (aG (aN 7 (l' := [_, _, _, _, _, _, _, _, _, _, _, _, _, _, _, _, _, _, _, _, _, _, _, _, _, _, _, _, _, _, _, _, _, _]) YD sizeOf3 rfl rfl (by first | rfl | assumption) rfl rfl) ?_))))))
              rintro _ w49 VW
              refine bK rfl (aZ 0 underlying37 rfl sizeOf32 rfl (aZ 8 underlying32 rfl sizeOf3 rfl (aG (aN 8 (l' := [_, _, _, _, _, _, _, _, _, _, _, _, _, _, _, _, _, _, _, _, _, _, _, _, _, _, _, _, _, _, _, _, _, _]) VW sizeOf3 rfl rfl (by first | rfl | assumption) rfl rfl) ?_)))
              rintro _ Zh TA
              refine aA (aj (ay (ah (aV rfl (aA (aj (aJ (aH (.inl rfl) results27 rfl ?_))))))))
              refine ⟨rfl, ?_⟩
              first
                | exact absurd (hw2.symm.trans hwh) (by decide)
                | exact absurd (hwh.symm.trans hw2) (by decide)
                | (rw [mX]; exact aB.dF dD bF TA.f11.f11.f11.f11.f11.f11.f11.f11.f11.f11.f11)
            · (try simp only [aI] at h23)
              have mX := eF jk hon hrun h23
              refine aS (aj (ay (ah (aV rfl (aA (aj (aJ (aH (.inl rfl) results27 rfl ?_))))))))
              refine ⟨rfl, ?_⟩
              first
                | exact absurd (hw2.symm.trans hwh) (by decide)
                | exact absurd (hwh.symm.trans hw2) (by decide)
                | (rw [mX]; exact aB.dF dD bF YD.f11.f11.f11.f11.f11.f11.f11.f11.f11.f11.f11)
          · (try simp only [aI] at h22)
            have hrun : (s.typed && (!s.put.isEmpty || s.c.run)) = (s1.dI on).c.run := by first | exact absurd (hw2.symm.trans hwh) (by decide) | (rw [kT, decide_eq_true (show s.put.length = 0 by omega), hty, sG, hr1]; rfl)
            refine bf (aO rfl (bf (bK rfl (bf (aZ 0 underlying37 rfl sizeOf32 rfl (bf (aZ 10 underlying32 rfl sizeOf4 rfl (bf (dP underlying4 rfl (dG).get.2 rfl (bf (eY rfl rfl (fG rfl rfl (bK rfl (aZ 0 underlying37 rfl sizeOf32 rfl (aZ 10 underlying32 rfl sizeOf4 rfl (aG (aN 10 (l' := [_, _, _, _, _, _, _, _, _, _, _, _, _, _, _, _, _, _, _, _, _, _, _, _, _, _, _, _, _, _, _, _, _, _]) dG sizeOf4 rfl rfl (by first | rfl | assumption) rfl rfl) ?_))))))))))))))))
            rintro _ Zi RZ
            refine aA (aj (ay (ah (aO rfl (aO rfl (bK rfl (aZ 28 underlying37 rfl sizeOf3 rfl (dP underlying3 rfl (RZ).get.2 rfl (bK rfl (aZ 0 underlying37 rfl sizeOf32 rfl (aZ 6 underlying32 rfl sizeOf3 rfl (aG (aN 6 (l' := [_, _, _, _, _, _, _, _, _, _, _, _, _, _, _, _, _, _, _, _, _, _, _, _, _, _, _, _, _, _, _, _, _, _]) RZ sizeOf3 rfl rfl (by first | rfl | assumption) rfl rfl) ?_))))))))))))
            rintro _ Zj Qx
            refine aA (aj (ay (ay (ah (aO rfl (bK rfl (aZ 28 underlying37 rfl sizeOf3 rfl (dP underlying3 rfl (Qx).get.2 rfl (aW (dU rfl rfl) (aA (aj (aQ rfl (fun h24 => ?_) (fun h24 => ?_)))))))))))))
            · (try simp only [aI] at h24)
              have mX := fM jk hon hrun h24
              refine ah (aO rfl (aO rfl (bK rfl (aZ 0 underlying37 rfl sizeOf32 rfl (aZ 7 underlying32 rfl sizeOf3 rfl (aG (aN 7 (l' := [_, _, _, _, _, _, _, _, _, _, _, _, _, _, _, _, _, _, _, _, _, _, _, _, _, _, _, _, _, _, _, _, _, _]) Qx sizeOf3 rfl rfl (by first | rfl | assumption) rfl rfl) ?_))))))
              rintro _ Zk TB
              refine bK rfl (aZ 0 underlying37 rfl sizeOf32 rfl (aZ 8 underlying32 rfl sizeOf3 rfl (aG (aN 8 (l' := [_, _, _, _, _, _, _, _, _, _, _, _, _, _, _, _, _, _, _, _, _, _, _, _, _, _, _, _, _, _, _, _, _, _]) TB sizeOf3 rfl rfl (by first | rfl | assumption) rfl rfl) ?_)))
              rintro _ w54 XL
              refine aA (aj (ay (ah (aV rfl (aA (aj (aJ (aH (.inl rfl) results27 rfl ?_))))))))
              refine ⟨rfl, ?_⟩
              first
                | exact absurd (hw2.symm.trans hwh) (by decide)
                | exact absurd (hwh.symm.trans hw2) (by decide)
                | (rw [mX]; exact aB.dF dD bF XL.f11.f11.f11.f11.f11.f11.f11.f11.f11.f11.f11)
            · (try simp only [aI] at h24)
              have mX := eF jk hon hrun h24
              refine aS (aj (ay (ah (aV rfl (aA (aj (aJ (aH (.inl rfl) results27 rfl ?_))))))))
              refine ⟨rfl, ?_⟩
              first
                | exact absurd (hw2.symm.trans hwh) (by decide)
                | exact absurd (hwh.symm.trans hw2) (by decide)
                | (rw [mX]; exact aB.dF dD bF Qx.f11.f11.f11.f11.f11.f11.f11.f11.f11.f11.f11)
        · (try simp only [aI] at h21)
          have hw2 : s.whole = false := by simpa using h21
          have hrun : (s.typed && (!s.put.isEmpty || s.c.run)) = false := by first | exact absurd (hwh.symm.trans hw2) (by decide) | (rw [hty]; rfl)
          refine bC (bC (kJ (kJ (kJ (kJ (kJ (bC (eY rfl rfl (bK rfl (aZ 0 underlying37 rfl sizeOf32 rfl (aZ 10 underlying32 rfl sizeOf4 rfl (aG (aN 10 (l' := [_, _, _, _, _, _, _, _, _, _, _, _, _, _, _, _, _, _, _, _, _, _, _, _, _, _, _, _, _, _, _, _, _, _]) dG sizeOf4 rfl rfl (by first | rfl | assumption) rfl rfl) ?_))))))))))))
          rintro _ w55 VX
          refine aA (aj (ay (ah (aO rfl (aO rfl (bK rfl (aZ 28 underlying37 rfl sizeOf3 rfl (dP underlying3 rfl (VX).get.2 rfl (bK rfl (aZ 0 underlying37 rfl sizeOf32 rfl (aZ 6 underlying32 rfl sizeOf3 rfl (aG (aN 6 (l' := [_, _, _, _, _, _, _, _, _, _, _, _, _, _, _, _, _, _, _, _, _, _, _, _, _, _, _, _, _, _, _, _, _, _]) VX sizeOf3 rfl rfl (by first | rfl | assumption) rfl rfl) ?_))))))))))))
          rintro _ w56 YE
          refine aA (aj (ay (ay (ah (aO rfl (bK rfl (aZ 28 underlying37 rfl sizeOf3 rfl (dP underlying3 rfl (YE).get.2 rfl (aW (dU rfl rfl) (aA (aj (aQ rfl (fun h25 => ?_) (fun h25 => ?_)))))))))))))
          · (try simp only [aI] at h25)
            have mX := fM jk hon hrun h25
            refine ah (aO rfl (aO rfl (bK rfl (aZ 0 underlying37 rfl sizeOf32 rfl (aZ 7 underlying32 rfl sizeOf3 rfl (aG (aN 7 (l' := [_, _, _, _, _, _, _, _, _, _, _, _, _, _, _, _, _, _, _, _, _, _, _, _, _, _, _, _, _, _, _, _, _, _]) YE sizeOf3 rfl rfl (by first | rfl | assumption) rfl rfl) ?_))))))
            rintro _ w57 H57
            refine bK rfl (aZ 0 underlying37 rfl sizeOf32 rfl (aZ 8 underlying32 rfl sizeOf3 rfl (aG (aN 8 (l' := [_, _, _, _, _, _, _, _, _, _, _, _, _, _, _, _, _, _, _, _, _, _, _, _, _, _, _, _, _, _, _, _, _, _]) H57 sizeOf3 rfl rfl (by first | rfl | assumption) rfl rfl) ?_)))
            rintro _ Zl Pz
            refine aA (aj (ay (ah (aV rfl (aA (aj (aJ (aH (.inl rfl) results27 rfl ?_))))))))
            refine ⟨rfl, ?_⟩
            first
              | exact absurd (hw2.symm.trans hwh) (by decide)
              | exact absurd (hwh.symm.trans hw2) (by decide)
              | (rw [mX]; exact aB.dF dD bF Pz.f11.f11.f11.f11.f11.f11.f11.f11.f11.f11.f11)
          · (try simp only [aI] at h25)
            have mX := eF jk hon hrun h25
            refine aS (aj (ay (ah (aV rfl (aA (aj (aJ (aH (.inl rfl) results27 rfl ?_))))))))
            refine ⟨rfl, ?_⟩
            first
              | exact absurd (hw2.symm.trans hwh) (by decide)
              | exact absurd (hwh.symm.trans hw2) (by decide)
              | (rw [mX]; exact aB.dF dD bF YE.f11.f11.f11.f11.f11.f11.f11.f11.f11.f11.f11)
      · (try simp only [aI] at h20)
        have hwh : s.whole = false := by simpa using h20
        have hty : s.typed = false := by unfold bD.typed; rw [hc3, hwh]; rfl
        have hrun : (s.typed && (!s.put.isEmpty || s.c.run)) = false := by rw [hty]; rfl
        refine bC (bC (bC (bC (bC (eY rfl rfl ?_)))))
        have hwo := oU (qE.f11)
        have YF := qE.f11.right
        have HW0 := aB.vW (c := s.was) (u := [lQ, lS, lT, lU, lV, lW, lX, lY, lZ, mg, mD]) YF hwo
        obtain ⟨s1, jk, NV⟩ : ∃ s1, s1 = s.dZ ∧ aB w0 (w3.drew) (dw e s1 • F) := ⟨_, hs1, aB.dF (hs1 ▸ oJ dD) bF HW0.f11.f11.f11.f11.f11.f11.f11.f11.f11.f11⟩
        have hr1 : s1.c.run = s.c.run := by rw [jk]; unfold bD.dZ; split <;> rfl
        refine dn rfl func96 (jT NV) ?_
        rintro _ XP TD
        obtain ⟨on, hon, HZ⟩ : ∃ on, (s.typed && s.c.run) = on ∧ aB w0 XP (dw e (s1.dI on) • F) := ⟨_, by rw [hty]; rfl, TD⟩
        refine aA (aj (ay ?_))
        obtain ⟨oW, oZ, pq, pz, pF, pG, pI, pJ, nO, lQ, lS, lT, lU, lV, lW, lX, lY, lZ, mg, mD, dD, bF, fK, dG⟩ := (HZ).zy
        refine ah (aO rfl (aO rfl (fV rfl (fun h26 => ?_) (fun h26 => ?_))))
        · (try simp only [aI] at h26)
          have hw2 : s.whole = true := h26
          refine bf (aO rfl (bf (fV rfl (fun h27 => ?_) (fun h27 => ?_))))
          · (try simp only [aI] at h27)
            have hrun : (s.typed && (!s.put.isEmpty || s.c.run)) = true := by first | exact absurd (hw2.symm.trans hwh) (by decide) | (rw [kT, decide_eq_false (show ¬ s.put.length = 0 by omega), hty]; rfl)
            refine bC (bC (bC (bC (bC (bf (fG rfl rfl (fG rfl rfl (bK rfl (aZ 0 underlying37 rfl sizeOf32 rfl (aZ 10 underlying32 rfl sizeOf4 rfl (aG (aN 10 (l' := [_, _, _, _, _, _, _, _, _, _, _, _, _, _, _, _, _, _, _, _, _, _, _, _, _, _, _, _, _, _, _, _, _, _]) dG sizeOf4 rfl rfl (by first | rfl | assumption) rfl rfl) ?_)))))))))))
            rintro _ w62 Vd
            refine aA (aj (ay (ah (aO rfl (aO rfl (bK rfl (aZ 28 underlying37 rfl sizeOf3 rfl (dP underlying3 rfl (Vd).get.2 rfl (bK rfl (aZ 0 underlying37 rfl sizeOf32 rfl (aZ 6 underlying32 rfl sizeOf3 rfl (aG (aN 6 (l' := [_, _, _, _, _, _, _, _, _, _, _, _, _, _, _, _, _, _, _, _, _, _, _, _, _, _, _, _, _, _, _, _, _, _]) Vd sizeOf3 rfl rfl (by first | rfl | assumption) rfl rfl) ?_))))))))))))
            rintro _ w63 Vf
            refine aA (aj (ay (ay (ah (aO rfl (bK rfl (aZ 28 underlying37 rfl sizeOf3 rfl (dP underlying3 rfl (Vf).get.2 rfl (aW (dU rfl rfl) (aA (aj (aQ rfl (fun h28 => ?_) (fun h28 => ?_)))))))))))))
            · (try simp only [aI] at h28)
              have mX := fM jk hon hrun h28
              refine ah (aO rfl (aO rfl (bK rfl (aZ 0 underlying37 rfl sizeOf32 rfl (aZ 7 underlying32 rfl sizeOf3 rfl (aG (aN 7 (l' := [_, _, _, _, _, _, _, _, _, _, _, _, _, _, _, _, _, _, _, _, _, _, _, _, _, _, _, _, _, _, _, _, _, _]) Vf sizeOf3 rfl rfl (by first | rfl | assumption) rfl rfl) ?_))))))
              rintro _ Zm Vg
              refine bK rfl (aZ 0 underlying37 rfl sizeOf32 rfl (aZ 8 underlying32 rfl sizeOf3 rfl (aG (aN 8 (l' := [_, _, _, _, _, _, _, _, _, _, _, _, _, _, _, _, _, _, _, _, _, _, _, _, _, _, _, _, _, _, _, _, _, _]) Vg sizeOf3 rfl rfl (by first | rfl | assumption) rfl rfl) ?_)))
              rintro _ w65 XQ
              refine aA (aj (ay (ah (aV rfl (aA (aj (aJ (aH (.inl rfl) results27 rfl ?_))))))))
              refine ⟨rfl, ?_⟩
              first
                | exact absurd (hw2.symm.trans hwh) (by decide)
                | exact absurd (hwh.symm.trans hw2) (by decide)
                | (rw [mX]; exact aB.dF dD bF XQ.f11.f11.f11.f11.f11.f11.f11.f11.f11.f11.f11)
            · (try simp only [aI] at h28)
              have mX := eF jk hon hrun h28
              refine aS (aj (ay (ah (aV rfl (aA (aj (aJ (aH (.inl rfl) results27 rfl ?_))))))))
              refine ⟨rfl, ?_⟩
              first
                | exact absurd (hw2.symm.trans hwh) (by decide)
                | exact absurd (hwh.symm.trans hw2) (by decide)
                | (rw [mX]; exact aB.dF dD bF Vf.f11.f11.f11.f11.f11.f11.f11.f11.f11.f11.f11)
          · (try simp only [aI] at h27)
            have hrun : (s.typed && (!s.put.isEmpty || s.c.run)) = (s1.dI on).c.run := by first | exact absurd (hw2.symm.trans hwh) (by decide) | (rw [kT, decide_eq_true (show s.put.length = 0 by omega), hty, sG, hr1]; rfl)
            refine bf (aO rfl (bf (bK rfl (bf (aZ 0 underlying37 rfl sizeOf32 rfl (bf (aZ 10 underlying32 rfl sizeOf4 rfl (bf (dP underlying4 rfl (dG).get.2 rfl (bf (eY rfl rfl (fG rfl rfl (bK rfl (aZ 0 underlying37 rfl sizeOf32 rfl (aZ 10 underlying32 rfl sizeOf4 rfl (aG (aN 10 (l' := [_, _, _, _, _, _, _, _, _, _, _, _, _, _, _, _, _, _, _, _, _, _, _, _, _, _, _, _, _, _, _, _, _, _]) dG sizeOf4 rfl rfl (by first | rfl | assumption) rfl rfl) ?_))))))))))))))))
            rintro _ w66 Zr
            refine aA (aj (ay (ah (aO rfl (aO rfl (bK rfl (aZ 28 underlying37 rfl sizeOf3 rfl (dP underlying3 rfl (Zr).get.2 rfl (bK rfl (aZ 0 underlying37 rfl sizeOf32 rfl (aZ 6 underlying32 rfl sizeOf3 rfl (aG (aN 6 (l' := [_, _, _, _, _, _, _, _, _, _, _, _, _, _, _, _, _, _, _, _, _, _, _, _, _, _, _, _, _, _, _, _, _, _]) Zr sizeOf3 rfl rfl (by first | rfl | assumption) rfl rfl) ?_))))))))))))
            rintro _ w67 YG
            refine aA (aj (ay (ay (ah (aO rfl (bK rfl (aZ 28 underlying37 rfl sizeOf3 rfl (dP underlying3 rfl (YG).get.2 rfl (aW (dU rfl rfl) (aA (aj (aQ rfl (fun h29 => ?_) (fun h29 => ?_)))))))))))))
            · (try simp only [aI] at h29)
              have mX := fM jk hon hrun h29
              refine ah (aO rfl (aO rfl (bK rfl (aZ 0 underlying37 rfl sizeOf32 rfl (aZ 7 underlying32 rfl sizeOf3 rfl (aG (aN 7 (l' := [_, _, _, _, _, _, _, _, _, _, _, _, _, _, _, _, _, _, _, _, _, _, _, _, _, _, _, _, _, _, _, _, _, _]) YG sizeOf3 rfl rfl (by first | rfl | assumption) rfl rfl) ?_))))))
              rintro _ w68 VZ
              refine bK rfl (aZ 0 underlying37 rfl sizeOf32 rfl (aZ 8 underlying32 rfl sizeOf3 rfl (aG (aN 8 (l' := [_, _, _, _, _, _, _, _, _, _, _, _, _, _, _, _, _, _, _, _, _, _, _, _, _, _, _, _, _, _, _, _, _, _]) VZ sizeOf3 rfl rfl (by first | rfl | assumption) rfl rfl) ?_)))
              rintro _ w69 V3
              refine aA (aj (ay (ah (aV rfl (aA (aj (aJ (aH (.inl rfl) results27 rfl ?_))))))))
              refine ⟨rfl, ?_⟩
              first
                | exact absurd (hw2.symm.trans hwh) (by decide)
                | exact absurd (hwh.symm.trans hw2) (by decide)
                | (rw [mX]; exact aB.dF dD bF V3.f11.f11.f11.f11.f11.f11.f11.f11.f11.f11.f11)
            · (try simp only [aI] at h29)
              have mX := eF jk hon hrun h29
              refine aS (aj (ay (ah (aV rfl (aA (aj (aJ (aH (.inl rfl) results27 rfl ?_))))))))
              refine ⟨rfl, ?_⟩
              first
                | exact absurd (hw2.symm.trans hwh) (by decide)
                | exact absurd (hwh.symm.trans hw2) (by decide)
                | (rw [mX]; exact aB.dF dD bF YG.f11.f11.f11.f11.f11.f11.f11.f11.f11.f11.f11)
        · (try simp only [aI] at h26)
          have hw2 : s.whole = false := by simpa using h26
          have hrun : (s.typed && (!s.put.isEmpty || s.c.run)) = false := by first | exact absurd (hwh.symm.trans hw2) (by decide) | (rw [hty]; rfl)
          refine bC (bC (kJ (kJ (kJ (kJ (kJ (bC (eY rfl rfl (bK rfl (aZ 0 underlying37 rfl sizeOf32 rfl (aZ 10 underlying32 rfl sizeOf4 rfl (aG (aN 10 (l' := [_, _, _, _, _, _, _, _, _, _, _, _, _, _, _, _, _, _, _, _, _, _, _, _, _, _, _, _, _, _, _, _, _, _]) dG sizeOf4 rfl rfl (by first | rfl | assumption) rfl rfl) ?_))))))))))))
          rintro _ w70 Vj
          refine aA (aj (ay (ah (aO rfl (aO rfl (bK rfl (aZ 28 underlying37 rfl sizeOf3 rfl (dP underlying3 rfl (Vj).get.2 rfl (bK rfl (aZ 0 underlying37 rfl sizeOf32 rfl (aZ 6 underlying32 rfl sizeOf3 rfl (aG (aN 6 (l' := [_, _, _, _, _, _, _, _, _, _, _, _, _, _, _, _, _, _, _, _, _, _, _, _, _, _, _, _, _, _, _, _, _, _]) Vj sizeOf3 rfl rfl (by first | rfl | assumption) rfl rfl) ?_))))))))))))
          rintro _ w71 TF
          refine aA (aj (ay (ay (ah (aO rfl (bK rfl (aZ 28 underlying37 rfl sizeOf3 rfl (dP underlying3 rfl (TF).get.2 rfl (aW (dU rfl rfl) (aA (aj (aQ rfl (fun h30 => ?_) (fun h30 => ?_)))))))))))))
          · (try simp only [aI] at h30)
            have mX := fM jk hon hrun h30
            refine ah (aO rfl (aO rfl (bK rfl (aZ 0 underlying37 rfl sizeOf32 rfl (aZ 7 underlying32 rfl sizeOf3 rfl (aG (aN 7 (l' := [_, _, _, _, _, _, _, _, _, _, _, _, _, _, _, _, _, _, _, _, _, _, _, _, _, _, _, _, _, _, _, _, _, _]) TF sizeOf3 rfl rfl (by first | rfl | assumption) rfl rfl) ?_))))))
            rintro _ w72 XU
            refine bK rfl (aZ 0 underlying37 rfl sizeOf32 rfl (aZ 8 underlying32 rfl sizeOf3 rfl (aG (aN 8 (l' := [_, _, _, _, _, _, _, _, _, _, _, _, _, _, _, _, _, _, _, _, _, _, _, _, _, _, _, _, _, _, _, _, _, _]) XU sizeOf3 rfl rfl (by first | rfl | assumption) rfl rfl) ?_)))
            rintro _ w73 XV
            refine aA (aj (ay (ah (aV rfl (aA (aj (aJ (aH (.inl rfl) results27 rfl ?_))))))))
            refine ⟨rfl, ?_⟩
            first
              | exact absurd (hw2.symm.trans hwh) (by decide)
              | exact absurd (hwh.symm.trans hw2) (by decide)
              | (rw [mX]; exact aB.dF dD bF XV.f11.f11.f11.f11.f11.f11.f11.f11.f11.f11.f11)
          · (try simp only [aI] at h30)
            have mX := eF jk hon hrun h30
            refine aS (aj (ay (ah (aV rfl (aA (aj (aJ (aH (.inl rfl) results27 rfl ?_))))))))
            refine ⟨rfl, ?_⟩
            first
              | exact absurd (hw2.symm.trans hwh) (by decide)
              | exact absurd (hwh.symm.trans hw2) (by decide)
              | (rw [mX]; exact aB.dF dD bF TF.f11.f11.f11.f11.f11.f11.f11.f11.f11.f11.f11)
    · (try simp only [aI] at h19)
      have hty : s.typed = false := by unfold bD.typed; rw [beq_false_of_ne h19]; rfl
      have hrun : (s.typed && (!s.put.isEmpty || s.c.run)) = false := by rw [hty]; rfl
      refine yD 6 rfl rfl rfl rfl (by kernel_rfl) (by kernel_rfl) dK (nR rfl) ?_
      refine yD 7 rfl rfl rfl rfl (by kernel_rfl) (by kernel_rfl) dK (nR rfl) ?_
      refine yD 8 rfl rfl rfl rfl (by kernel_rfl) (by kernel_rfl) dK (nR rfl) ?_
      refine yD 9 rfl rfl rfl rfl (by kernel_rfl) (by kernel_rfl) dK (nR rfl) ?_
      refine iU 10 rfl dK (fun _ => zH rfl rfl) (iq 11 rfl dK rfl (jv 12 rfl dK rfl (fU 13 rfl dK 33 underlying37 rfl sizeOf35 rfl (iV 14 rfl dK (fun W hW => jr underlying35 rfl ((Kp.h hW)).get.2 rfl) (iU 15 rfl dK (fun _ => gW ((qE.f9).aT) underlying35 rfl) (iU 16 rfl dK (fun _ => dB rfl rfl) (iU 17 rfl dK (fun _ => fZ rfl) (iU 18 rfl dK (fun _ => fZ rfl) (oV (aj (ay (ah (aO rfl (aO rfl (aO rfl (bC (bC (bC (bC (bC (eY rfl rfl ?_)))))))))))))))))))))
      have hwo := oU (qE.f11)
      have YH := qE.f11.right
      have HW0 := aB.vW (c := s.was) (u := [lQ, lS, lT, lU, lV, lW, lX, lY, lZ, mg, mD]) YH hwo
      obtain ⟨s1, jk, NV⟩ : ∃ s1, s1 = s.dZ ∧ aB w0 (w3.drew) (dw e s1 • F) := ⟨_, hs1, aB.dF (hs1 ▸ oJ dD) bF HW0.f11.f11.f11.f11.f11.f11.f11.f11.f11.f11⟩
      have hr1 : s1.c.run = s.c.run := by rw [jk]; unfold bD.dZ; split <;> rfl
      refine dn rfl func96 (jT NV) ?_
      rintro _ w75 H75
      obtain ⟨on, hon, HZ⟩ : ∃ on, (s.typed && s.c.run) = on ∧ aB w0 w75 (dw e (s1.dI on) • F) := ⟨_, by rw [hty]; rfl, H75⟩
      refine aA (aj (ay ?_))
      obtain ⟨oW, oZ, pq, pz, pF, pG, pI, pJ, nO, lQ, lS, lT, lU, lV, lW, lX, lY, lZ, mg, mD, dD, bF, fK, dG⟩ := (HZ).zy
      refine ah (aO rfl (aO rfl (aO rfl (bC (bC (kJ (kJ (kJ (kJ (kJ (bC (eY rfl rfl (bK rfl (aZ 0 underlying37 rfl sizeOf32 rfl (aZ 10 underlying32 rfl sizeOf4 rfl (aG (aN 10 (l' := [_, _, _, _, _, _, _, _, _, _, _, _, _, _, _, _, _, _, _, _, _, _, _, _, _, _, _, _, _, _, _, _, _, _]) dG sizeOf4 rfl rfl (by first | rfl | assumption) rfl rfl) ?_))))))))))))))))
      rintro _ w77 Zt
      refine aA (aj (ay (ah (aO rfl (aO rfl (bK rfl (aZ 28 underlying37 rfl sizeOf3 rfl (dP underlying3 rfl (Zt).get.2 rfl (bK rfl (aZ 0 underlying37 rfl sizeOf32 rfl (aZ 6 underlying32 rfl sizeOf3 rfl (aG (aN 6 (l' := [_, _, _, _, _, _, _, _, _, _, _, _, _, _, _, _, _, _, _, _, _, _, _, _, _, _, _, _, _, _, _, _, _, _]) Zt sizeOf3 rfl rfl (by first | rfl | assumption) rfl rfl) ?_))))))))))))
      rintro _ w78 YI
      refine aA (aj (ay (ay (ah (aO rfl (bK rfl (aZ 28 underlying37 rfl sizeOf3 rfl (dP underlying3 rfl (YI).get.2 rfl (aW (dU rfl rfl) (aA (aj (aQ rfl (fun h31 => ?_) (fun h31 => ?_)))))))))))))
      · (try simp only [aI] at h31)
        have mX := fM jk hon hrun h31
        refine ah (aO rfl (aO rfl (bK rfl (aZ 0 underlying37 rfl sizeOf32 rfl (aZ 7 underlying32 rfl sizeOf3 rfl (aG (aN 7 (l' := [_, _, _, _, _, _, _, _, _, _, _, _, _, _, _, _, _, _, _, _, _, _, _, _, _, _, _, _, _, _, _, _, _, _]) YI sizeOf3 rfl rfl (by first | rfl | assumption) rfl rfl) ?_))))))
        rintro _ w79 H79
        refine bK rfl (aZ 0 underlying37 rfl sizeOf32 rfl (aZ 8 underlying32 rfl sizeOf3 rfl (aG (aN 8 (l' := [_, _, _, _, _, _, _, _, _, _, _, _, _, _, _, _, _, _, _, _, _, _, _, _, _, _, _, _, _, _, _, _, _, _]) H79 sizeOf3 rfl rfl (by first | rfl | assumption) rfl rfl) ?_)))
        rintro _ w80 H80
        refine aA (aj (ay (ah (aV rfl (aA (aj (aJ (aH (.inl rfl) results27 rfl ?_))))))))
        refine ⟨rfl, ?_⟩
        first
          | exact absurd (hw2.symm.trans hwh) (by decide)
          | exact absurd (hwh.symm.trans hw2) (by decide)
          | (rw [mX]; exact aB.dF dD bF H80.f11.f11.f11.f11.f11.f11.f11.f11.f11.f11.f11)
      · (try simp only [aI] at h31)
        have mX := eF jk hon hrun h31
        refine aS (aj (ay (ah (aV rfl (aA (aj (aJ (aH (.inl rfl) results27 rfl ?_))))))))
        refine ⟨rfl, ?_⟩
        first
          | exact absurd (hw2.symm.trans hwh) (by decide)
          | exact absurd (hwh.symm.trans hw2) (by decide)
          | (rw [mX]; exact aB.dF dD bF YI.f11.f11.f11.f11.f11.f11.f11.f11.f11.f11.f11)
theorem DF {s : bD} {x : Int} (hin : s.inn = true) (hx : x ≠ 0) : s.ji x = s.vU ∧ s.tX x = x := by
  unfold bD.ji bD.tX
  rw [if_pos hin, if_neg hx, if_pos hin]; exact ⟨rfl, rfl⟩
theorem NW {s : bD} (h : jq s) (hin : s.inn = true) : jq s.vU := by
  obtain ⟨h1, h2, h3⟩ := h.2.1 hin
  exact ⟨h1, fun h => Bool.noConfusion h, ⟨by show (-1 : Int) ≤ -1; decide, by show (-1 : Int) ≤ 1000000; decide⟩, by simp [bD.vU], h2, h3⟩
theorem I4 (hin : s.inn = true) (hx : x ≠ 0) (H : aB w0 w (dw e s • F)) : eG prog 27 #[.pointer (some ⟨e, 0, none⟩), .int .i64 x] w fun v w' => v = .int .i64 x ∧ aB w0 w' (dw e s.vU • F) := by
 have hpe : s.qX = 0 := by unfold bD.qX; rw [if_pos hin]
 refine fP func27 ntmps27 ?_
 dsimp only [aX, Nat.reduceAdd]
 refine ay (ah (aV rfl (aA (aj (ay (ay (ah (aO rfl (dn rfl func94 (jd H) ?_)))))))))
 rintro _ _ ⟨rfl, rfl⟩
 refine aV rfl (aA (aj (ay (ah (aO rfl (aW (dU rfl rfl) (aA (aj (aQ rfl (fun h => by exfalso; (try simp only [aI] at h); exact h hpe) (fun h1 => ?_))))))))))
 (try simp only [aI] at h1)
 refine aS (aj (ay ?_))
 obtain ⟨oW, oZ, pq, pz, pF, pG, pI, pJ, nO, lQ, lS, lT, lU, lV, lW, lX, lY, lZ, mg, mD, dD, bF, fK, dG⟩ := (H).zy
 have HI := dG
 rw [hin] at HI
 obtain ⟨qb, qr, qw, qt, qm, hu, HW⟩ := (HI.f11).was
 simp only [JH, List.cons.injEq, and_true] at hu
 obtain ⟨rfl, rfl, rfl, rfl, rfl, rfl, rfl, rfl, rfl, rfl, rfl⟩ := hu
 refine ah (aO rfl (bK rfl (aZ 16 underlying37 rfl sizeOf4 rfl (aG (aN 16 (l' := [_, _, _, _, _, _, _, _, _, _, _, _, _, _, _, _, _, _, _, _, _, _, _, _, _, _, _, _, _, _, _, _, _, _]) HW.f6 sizeOf4 rfl rfl (by first | rfl | assumption) rfl rfl) ?_))))
 rintro _ w3 H3
 refine aA (aj (ay (ay (ah (aO rfl (bK rfl (aZ 31 underlying37 rfl sizeOf4 rfl (dP underlying4 rfl (H3).get.2 rfl (aW (kC rfl) (fV rfl (fun h2 => ?_) (fun h2 => ?_)))))))))))
 ·(try simp only [aI] at h2)
  refine bC (bC (fG rfl rfl (aA (aj (uI (ah (aO rfl (aO rfl (aO rfl (bK rfl (aZ 13 underlying37 rfl sizeOf4 rfl (aG (aN 13 (l' := [_, _, _, _, _, _, _, _, _, _, _, _, _, _, _, _, _, _, _, _, _, _, _, _, _, _, _, _, _, _, _, _, _, _]) H3 sizeOf4 rfl rfl (by first | rfl | assumption) rfl rfl) ?_))))))))))))
  rintro _ w4 H4
  refine bK rfl (aZ 14 underlying37 rfl sizeOf4 rfl (aG (aN 14 (l' := [_, _, _, _, _, _, _, _, _, _, _, _, _, _, _, _, _, _, _, _, _, _, _, _, _, _, _, _, _, _, _, _, _, _]) H4 sizeOf4 rfl rfl (by first | rfl | assumption) rfl rfl) ?_))
  rintro _ w5 H5
  refine bK rfl (aZ 15 underlying37 rfl sizeOf3 rfl (aG (aN 15 (l' := [_, _, _, _, _, _, _, _, _, _, _, _, _, _, _, _, _, _, _, _, _, _, _, _, _, _, _, _, _, _, _, _, _, _]) H5 sizeOf3 rfl rfl (by first | rfl | assumption) rfl rfl) ?_))
  rintro _ w6 H6
  refine aA (aj (ay (ay (ah (aO rfl (aW (dU rfl rfl) (aA (aj (aQ rfl (fun h3 => ?_) (fun h => by exfalso; (try simp only [aI] at h); exact hx h))))))))))
  (try simp only [aI] at h3)
  refine ay (ah (aO rfl (aO rfl (bK rfl (aZ 17 underlying37 rfl sizeOf32 rfl (aW (pU 17 (xs := [_, _, _, _, _, _, _, _, _, _, _]) underlying32 rfl sizeOf32 rfl rfl (H6).get.2 rfl) (bK rfl (aZ 0 underlying37 rfl sizeOf32 rfl (aG (cO 0 (l' := [_, _, _, _, _, _, _, _, _, _, _, _, _, _, _, _, _, _, _, _, _, _, _, _, _, _, _, _, _, _, _, _, _, _]) (us := [_, _, _, _, _, _, _, _, _, _, _]) H6 sizeOf32 rfl rfl rfl (aC (by first | rfl | assumption) (aC (by first | rfl | assumption) (aC (by first | rfl | assumption) (aC (by first | rfl | assumption) (aC (by first | rfl | assumption) (aC (by first | rfl | assumption) (aC (by first | rfl | assumption) (aC (by first | rfl | assumption) (aC (by first | rfl | assumption) (aC (by first | rfl | assumption) (aC (by first | rfl | assumption) bP))))))))))) rfl rfl) ?_)))))))))
  rintro _ w7 H7
  refine aA (aj (ay (ah (aO rfl (bK rfl (aZ 12 underlying37 rfl sizeOf34 rfl (dP underlying34 rfl (H7).get.2 rfl (dn rfl func95 (xu H7.f13) ?_))))))))
  rintro _ w8 ⟨rfl, H8⟩
  refine aA (aj (ay (ah (aO rfl (aO rfl (aO rfl (aO rfl (bK rfl (aZ 0 underlying37 rfl sizeOf32 rfl (aZ 6 underlying32 rfl sizeOf3 rfl (aG (aN 6 (l' := [_, _, _, _, _, _, _, _, _, _, _, _, _, _, _, _, _, _, _, _, _, _, _, _, _, _, _, _, _, _, _, _, _, _]) H8.f2 sizeOf3 rfl rfl (by first | rfl | assumption) rfl rfl) ?_)))))))))))
  rintro _ w9 H9
  refine bK rfl (aZ 0 underlying37 rfl sizeOf32 rfl (aZ 7 underlying32 rfl sizeOf3 rfl (aG (aN 7 (l' := [_, _, _, _, _, _, _, _, _, _, _, _, _, _, _, _, _, _, _, _, _, _, _, _, _, _, _, _, _, _, _, _, _, _]) H9 sizeOf3 rfl rfl (by first | rfl | assumption) rfl rfl) ?_)))
  rintro _ w10 ng
  refine bK rfl (aZ 0 underlying37 rfl sizeOf32 rfl (aZ 8 underlying32 rfl sizeOf3 rfl (aG (aN 8 (l' := [_, _, _, _, _, _, _, _, _, _, _, _, _, _, _, _, _, _, _, _, _, _, _, _, _, _, _, _, _, _, _, _, _, _]) ng sizeOf3 rfl rfl (by first | rfl | assumption) rfl rfl) ?_)))
  rintro _ Ht wB
  refine bK rfl (aZ 33 underlying37 rfl sizeOf35 rfl (aG (aN 33 (l' := [_, _, _, _, _, _, _, _, _, _, _, _, _, _, _, _, _, _, _, _, _, _, _, _, _, _, _, _, _, _, _, _, _, _]) wB sizeOf35 rfl rfl (by first | rfl | assumption) rfl rfl) ?_))
  rintro _ w12 vM
  refine aA (aj (ay (ah (aO rfl (aV rfl (aA (aj (aJ (aK (aH (.inl rfl) results27 rfl ?_))))))))))
  exact ⟨rfl, aB.IQ (s := s.vU) (NW dD hin) rfl rfl vM.f8.right.f8.right.f8.right.f8.right.f8.right.f9.right.f9.right.f2.f8.f8.f8.f8.f8.f8.f8⟩
 ·(try simp only [aI] at h2)
  refine bf (aO rfl (bf (aW (dU rfl rfl) (eY rfl rfl (aA (aj (aQ rfl (fun h4 => ?_) (fun h => by exfalso; (try simp only [aI] at h); exact hx h))))))))
  (try simp only [aI] at h4)
  refine ah (aO rfl (aO rfl (aO rfl (bK rfl (aZ 13 underlying37 rfl sizeOf4 rfl (aG (aN 13 (l' := [_, _, _, _, _, _, _, _, _, _, _, _, _, _, _, _, _, _, _, _, _, _, _, _, _, _, _, _, _, _, _, _, _, _]) H3 sizeOf4 rfl rfl (by first | rfl | assumption) rfl rfl) ?_))))))
  rintro _ Me uX
  refine bK rfl (aZ 14 underlying37 rfl sizeOf4 rfl (aG (aN 14 (l' := [_, _, _, _, _, _, _, _, _, _, _, _, _, _, _, _, _, _, _, _, _, _, _, _, _, _, _, _, _, _, _, _, _, _]) uX sizeOf4 rfl rfl (by first | rfl | assumption) rfl rfl) ?_))
  rintro _ Ky wM
  refine bK rfl (aZ 15 underlying37 rfl sizeOf3 rfl (aG (aN 15 (l' := [_, _, _, _, _, _, _, _, _, _, _, _, _, _, _, _, _, _, _, _, _, _, _, _, _, _, _, _, _, _, _, _, _, _]) wM sizeOf3 rfl rfl (by first | rfl | assumption) rfl rfl) ?_))
  rintro _ MB wC
  refine aA (aj (ay (ay (ah (aO rfl (aW (dU rfl rfl) (aA (aj (aQ rfl (fun h5 => ?_) (fun h => by exfalso; (try simp only [aI] at h); exact hx h))))))))))
  (try simp only [aI] at h5)
  refine ay (ah (aO rfl (aO rfl (bK rfl (aZ 17 underlying37 rfl sizeOf32 rfl (aW (pU 17 (xs := [_, _, _, _, _, _, _, _, _, _, _]) underlying32 rfl sizeOf32 rfl rfl (wC).get.2 rfl) (bK rfl (aZ 0 underlying37 rfl sizeOf32 rfl (aG (cO 0 (l' := [_, _, _, _, _, _, _, _, _, _, _, _, _, _, _, _, _, _, _, _, _, _, _, _, _, _, _, _, _, _, _, _, _, _]) (us := [_, _, _, _, _, _, _, _, _, _, _]) wC sizeOf32 rfl rfl rfl (aC (by first | rfl | assumption) (aC (by first | rfl | assumption) (aC (by first | rfl | assumption) (aC (by first | rfl | assumption) (aC (by first | rfl | assumption) (aC (by first | rfl | assumption) (aC (by first | rfl | assumption) (aC (by first | rfl | assumption) (aC (by first | rfl | assumption) (aC (by first | rfl | assumption) (aC (by first | rfl | assumption) bP))))))))))) rfl rfl) ?_)))))))))
  rintro _ w16 rP
  refine aA (aj (ay (ah (aO rfl (bK rfl (aZ 12 underlying37 rfl sizeOf34 rfl (dP underlying34 rfl (rP).get.2 rfl (dn rfl func95 (xu rP.f13) ?_))))))))
  rintro _ Tc ⟨rfl, D7⟩
  refine aA (aj (ay (ah (aO rfl (aO rfl (aO rfl (aO rfl (bK rfl (aZ 0 underlying37 rfl sizeOf32 rfl (aZ 6 underlying32 rfl sizeOf3 rfl (aG (aN 6 (l' := [_, _, _, _, _, _, _, _, _, _, _, _, _, _, _, _, _, _, _, _, _, _, _, _, _, _, _, _, _, _, _, _, _, _]) D7.f2 sizeOf3 rfl rfl (by first | rfl | assumption) rfl rfl) ?_)))))))))))
  rintro _ Qc C9
  refine bK rfl (aZ 0 underlying37 rfl sizeOf32 rfl (aZ 7 underlying32 rfl sizeOf3 rfl (aG (aN 7 (l' := [_, _, _, _, _, _, _, _, _, _, _, _, _, _, _, _, _, _, _, _, _, _, _, _, _, _, _, _, _, _, _, _, _, _]) C9 sizeOf3 rfl rfl (by first | rfl | assumption) rfl rfl) ?_)))
  rintro _ Qh Aa
  refine bK rfl (aZ 0 underlying37 rfl sizeOf32 rfl (aZ 8 underlying32 rfl sizeOf3 rfl (aG (aN 8 (l' := [_, _, _, _, _, _, _, _, _, _, _, _, _, _, _, _, _, _, _, _, _, _, _, _, _, _, _, _, _, _, _, _, _, _]) Aa sizeOf3 rfl rfl (by first | rfl | assumption) rfl rfl) ?_)))
  rintro _ Qd wz
  refine bK rfl (aZ 33 underlying37 rfl sizeOf35 rfl (aG (aN 33 (l' := [_, _, _, _, _, _, _, _, _, _, _, _, _, _, _, _, _, _, _, _, _, _, _, _, _, _, _, _, _, _, _, _, _, _]) wz sizeOf35 rfl rfl (by first | rfl | assumption) rfl rfl) ?_))
  rintro _ Rf nY
  refine aA (aj (ay (ah (aO rfl (aV rfl (aA (aj (aJ (aK (aH (.inl rfl) results27 rfl ?_))))))))))
  exact ⟨rfl, aB.IQ (s := s.vU) (NW dD hin) rfl rfl nY.f8.right.f8.right.f8.right.f8.right.f8.right.f9.right.f9.right.f2.f8.f8.f8.f8.f8.f8.f8⟩
theorem BD (H : aB w0 w (dw e s • F)) : eG prog 27 #[.pointer (some ⟨e, 0, none⟩), .int .i64 x] w fun v w' => v = .int .i64 (s.tX x) ∧ aB w0 w' (dw e (s.ji x) • F) := by
 by_cases hin : s.inn = true
 ·by_cases hx : x = 0
  ·subst hx
   rw [show s.ji 0 = s.iQ from by unfold bD.ji; rw [if_pos hin, if_pos rfl], show s.tX 0 = 0 from by unfold bD.tX; rw [if_pos hin]]
   exact GK hin H
  ·rw [(DF hin hx).1, (DF hin hx).2]
   exact I4 hin hx H
 ·have hin' : s.inn = false := by simpa using hin
  have hpe : s.qX = 1 := by unfold bD.qX; rw [if_neg hin]
  rw [show s.ji x = s from by unfold bD.ji; rw [if_neg hin], show s.tX x = 1 from by unfold bD.tX; rw [if_neg hin]]
  refine fP func27 ntmps27 ?_
  dsimp only [aX, Nat.reduceAdd]
  refine ay (ah (aV rfl (aA (aj (ay (ay (ah (aO rfl (dn rfl func94 (jd H) ?_)))))))))
  rintro _ _ ⟨rfl, rfl⟩
  refine aV rfl (aA (aj (ay (ah (aO rfl (aW (dU rfl rfl) (aA (aj (aQ rfl (fun h1 => ?_) (fun h => by exfalso; (try simp only [aI] at h); rw [hpe] at h; exact absurd h (by decide)))))))))))
  (try simp only [aI] at h1)
  refine ay (ah (aO rfl (aV rfl (aA (aj (aJ (aK (aH (.inl rfl) results27 rfl ?_))))))))
  rw [hpe]
  exact ⟨rfl, H⟩
end
end Go.Proofs.YtgndbccogcofjaaGreatDoor
end
