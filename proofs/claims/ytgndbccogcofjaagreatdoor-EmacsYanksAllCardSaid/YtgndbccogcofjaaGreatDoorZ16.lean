import Derived.Test.YtgndbccogcofjaaGreatDoorZ2
import Derived.Test.YtgndbccogcofjaaGreatDoorZ15
set_option linter.unusedSimpArgs false
set_option linter.unusedVariables false
/- Texts of mine, joined, their names in short: EdE. -/
section
namespace Go.Proofs.YtgndbccogcofjaaGreatDoor
open Go.RowKit
open _root_.Go.Proofs.Tryz
theorem uG (s : bg) (on : Bool) : (s.dJ on).c.run = s.c.run := by unfold bg.dJ; split <;> rfl
theorem DI (s : bg) (on : Bool) : (s.dJ on).cls = s.cls := by unfold bg.dJ; split <;> rfl
theorem gQ {s s1 : bg} {on run : Bool} (h1 : s1 = s.dZ) (hon : (s.typed && s.c.run) = on) (hrun : (s.typed && (!s.put.isEmpty || s.c.run)) = run) (h2 : (s1.dJ on).cls ≠ 2) :
    s.iW = { s1.dJ on with c := { (s1.dJ on).c with run := run, last := (s1.dJ on).cls, fr := 0, to := 0 } } := by
  subst h1 hon hrun
  have hc : (s.dZ.dJ (s.typed && s.c.run)).cls = s.cls := by rw [DI]; unfold bg.dZ; split <;> rfl
  unfold bg.iW
  rw [hc] at h2 ⊢
  dsimp only
  rw [if_pos h2]
theorem fM {s s1 : bg} {on run : Bool} (h1 : s1 = s.dZ) (hon : (s.typed && s.c.run) = on) (hrun : (s.typed && (!s.put.isEmpty || s.c.run)) = run) (h2 : (s1.dJ on).cls = 2) :
    s.iW = { s1.dJ on with c := { (s1.dJ on).c with run := run, last := (s1.dJ on).cls } } := by
  subst h1 hon hrun
  have hc : (s.dZ.dJ (s.typed && s.c.run)).cls = s.cls := by rw [DI]; unfold bg.dZ; split <;> rfl
  unfold bg.iW
  rw [hc] at h2 ⊢
  dsimp only
  rw [if_neg (by omega)]
theorem pV {s : bg} (h : jV s) : jV s.dZ := by
  obtain ⟨h1, h2, h3, h4, h5, h6⟩ := h
  unfold bg.dZ
  split
  · exact ⟨h1, fun h => Bool.noConfusion h, h3, h4, h5, h6⟩
  · exact ⟨h1, fun h => Bool.noConfusion h, ⟨by show (-1 : Int) ≤ -1; decide, by show (-1 : Int) ≤ 1000000; decide⟩, h4, h5, h6⟩
theorem lU {l : List dX} : l.isEmpty = decide (l.length = 0) := by cases l <;> rfl
section
variable {w0 w : World} {F : HP} {e p : Nat} {s : bg} {x : Int}
theorem Jc (hin : s.dP = true) (H : aB w0 w (dw e s • F)) : fO prog 27 #[.pointer (some ⟨e, 0, none⟩), .int .i64 0] w fun v w' => v = .int .i64 0 ∧ aB w0 w' (dw e s.iW • F) := by
  have hpe : s.sU = 0 := by unfold bg.sU; rw [if_pos hin]
  refine gB func27 ntmps27 ?_
  dsimp only [bf, Nat.reduceAdd]
  refine ay (ah (aV rfl (aA (aj (ay (ay (ah (aN rfl (bZ rfl func94 (jE H) ?_)))))))))
  rintro _ _ ⟨rfl, rfl⟩
  refine aV rfl (aA (aj (ay (ah (aN rfl (aX (dU rfl rfl) (aA (aj (aO rfl (fun h => by exfalso; (try simp only [aH] at h); exact h hpe) (fun h1 => ?_))))))))))
  (try simp only [aH] at h1)
  refine aP (aj (ay ?_))
  obtain ⟨qG, qH, qI, qJ, qK, qL, qM, qN, oU, mZ, ng, ni, ny, nC, nD, nG, nH, nI, nJ, nK, dF, bG, gK, dH⟩ := (H).Bf
  refine ah (aN rfl (bP rfl (bF 16 underlying37 rfl sizeOf4 rfl (aG (aS 16 (l' := [_, _, _, _, _, _, _, _, _, _, _, _, _, _, _, _, _, _, _, _, _, _, _, _, _, _, _, _, _, _, _, _, _, _]) dH sizeOf4 rfl rfl (by first | rfl | assumption) rfl rfl) ?_))))
  rintro _ w3 H3
  refine aA (aj (ay (ay (ah (aN rfl (bP rfl (bF 31 underlying37 rfl sizeOf4 rfl (dV underlying4 rfl (H3).get.2 rfl (aX (kF rfl) (fK rfl (fun h2 => ?_) (fun h2 => ?_)))))))))))
  · (try simp only [aH] at h2)
    have har : s.argues = false := by simpa using h2
    have hs1 : ({ s.qW with dP := false } : bg) = s.dZ := by unfold bg.dZ; rw [if_neg (by simp [har])]
    refine bD (bD (fG rfl rfl (aA (aj (uX (ah (aN rfl (aN rfl (aN rfl (bP rfl (bF 13 underlying37 rfl sizeOf4 rfl (aG (aS 13 (l' := [_, _, _, _, _, _, _, _, _, _, _, _, _, _, _, _, _, _, _, _, _, _, _, _, _, _, _, _, _, _, _, _, _, _]) H3 sizeOf4 rfl rfl (by first | rfl | assumption) rfl rfl) ?_))))))))))))
    rintro _ w4 H4
    refine bP rfl (bF 14 underlying37 rfl sizeOf4 rfl (aG (aS 14 (l' := [_, _, _, _, _, _, _, _, _, _, _, _, _, _, _, _, _, _, _, _, _, _, _, _, _, _, _, _, _, _, _, _, _, _]) H4 sizeOf4 rfl rfl (by first | rfl | assumption) rfl rfl) ?_))
    rintro _ w5 H5
    refine bP rfl (bF 15 underlying37 rfl sizeOf3 rfl (aG (aS 15 (l' := [_, _, _, _, _, _, _, _, _, _, _, _, _, _, _, _, _, _, _, _, _, _, _, _, _, _, _, _, _, _, _, _, _, _]) H5 sizeOf3 rfl rfl (by first | rfl | assumption) rfl rfl) ?_))
    rintro _ w6 H6
    refine aA (aj (ay (ay (ah (aN rfl (aX (dU rfl rfl) (aA (aj (aO rfl (fun h => by exfalso; (try simp only [aH] at h); simp at h) (fun h3 => ?_))))))))))
    (try simp only [aH] at h3)
    refine aP (aj (ay ?_))
    have xA := H6.drew
    have fH := aB.kp (xA.f11.f11.f11.f11.f11.f11.f11.f11.f11.f11.f11)
    refine yZ [3, 9, 14] fH rfl (iF 0 rfl fH rfl (jQ 1 rfl fH rfl (gV 2 rfl fH 28 underlying37 rfl sizeOf3 rfl (jk 3 rfl fH (fun W hW => jP underlying3 rfl ((Kp.h hW)).get.2 rfl) (jg 4 rfl fH (fun _ => dO rfl rfl) ?_)))))
    refine G9 5 rfl rfl (by kernel_rfl) (by kernel_rfl) fH (oW rfl) (fun h4 => ?_) (fun h4 => ?_)
    · (try simp only [aH] at h4)
      have hc3 : s.cls = 3 := h4
      refine kP 6 rfl rfl rfl (by kernel_rfl) (by kernel_rfl) fH (fun _ => Bv rfl) (oW rfl) ?_
      refine kP 7 rfl rfl rfl (by kernel_rfl) (by kernel_rfl) fH (fun _ => KH rfl) (oW rfl) ?_
      refine kP 8 rfl rfl rfl (by kernel_rfl) (by kernel_rfl) fH (fun _ => BD 32 underlying37 rfl rfl sizeOf4 (by decide) rfl rfl) (oW rfl) ?_
      refine zQ 9 rfl rfl rfl (by kernel_rfl) (by kernel_rfl) fH (by decide) (fun W hW => nU (dK underlying4 rfl) rfl (fV ((Kp.h hW)).get.2 rfl)) (oW rfl) ?_
      refine jg 10 rfl fH (fun _ => Bz rfl rfl) (iF 11 rfl fH rfl (jQ 12 rfl fH rfl (gV 13 rfl fH 33 underlying37 rfl sizeOf35 rfl (jk 14 rfl fH (fun W hW => jP underlying35 rfl ((Kp.h hW)).get.2 rfl) (jg 15 rfl fH (fun _ => iM ((xA.f9).aT) underlying35 rfl) (jg 16 rfl fH (fun _ => dn rfl rfl) (jg 17 rfl fH (fun _ => gG rfl) (jg 18 rfl fH (fun _ => gG rfl) (pO (aj (ay (ah (aN rfl (aN rfl (fK rfl (fun h5 => ?_) (fun h5 => ?_))))))))))))))))
      · (try simp only [aH] at h5)
        have hwh : s.whole = true := h5
        have hty : s.typed = true := by unfold bg.typed; rw [hc3, hwh]; rfl
        refine aZ (aN rfl (aZ (bP rfl (aZ (bF 0 underlying37 rfl sizeOf32 rfl (aZ (bF 10 underlying32 rfl sizeOf4 rfl (aZ (dV underlying4 rfl (xA).get.2 rfl (fG rfl rfl ?_))))))))))
        have hwo := qB (xA.f11)
        have VT := xA.f11.right
        have HW0 := aB.xO (c := s.was) (u := [mZ, ng, ni, ny, nC, nD, nG, nH, nI, nJ, nK]) VT hwo
        obtain ⟨s1, jM, PI⟩ : ∃ s1, s1 = s.dZ ∧ aB w0 (w6.drew) (dw e s1 • F) := ⟨_, hs1, aB.dG (hs1 ▸ pV dF) bG HW0.f11.f11.f11.f11.f11.f11.f11.f11.f11.f11⟩
        have hr1 : s1.c.run = s.c.run := by rw [jM]; unfold bg.dZ; split <;> rfl
        refine bZ rfl func96 (kU PI) ?_
        rintro _ w8 H8
        obtain ⟨on, hon, HZ⟩ : ∃ on, (s.typed && s.c.run) = on ∧ aB w0 w8 (dw e (s1.dJ on) • F) := ⟨_, by rw [hty]; rfl, H8⟩
        refine aA (aj (ay ?_))
        obtain ⟨qG, qH, qI, qJ, qK, qL, qM, qN, oU, mZ, ng, ni, ny, nC, nD, nG, nH, nI, nJ, nK, dF, bG, gK, dH⟩ := (HZ).Bf
        refine ah (aN rfl (aN rfl (fK rfl (fun h6 => ?_) (fun h6 => ?_))))
        · (try simp only [aH] at h6)
          have hw2 : s.whole = true := h6
          refine aZ (aN rfl (aZ (fK rfl (fun h7 => ?_) (fun h7 => ?_))))
          · (try simp only [aH] at h7)
            have hrun : (s.typed && (!s.put.isEmpty || s.c.run)) = true := by first | exact absurd (hw2.symm.trans hwh) (by decide) | (rw [lU, decide_eq_false (show ¬ s.put.length = 0 by omega), hty]; rfl)
            refine bD (bD (bD (bD (bD (aZ (fG rfl rfl (fG rfl rfl (bP rfl (bF 0 underlying37 rfl sizeOf32 rfl (bF 10 underlying32 rfl sizeOf4 rfl (aG (aS 10 (l' := [_, _, _, _, _, _, _, _, _, _, _, _, _, _, _, _, _, _, _, _, _, _, _, _, _, _, _, _, _, _, _, _, _, _]) dH sizeOf4 rfl rfl (by first | rfl | assumption) rfl rfl) ?_)))))))))))
            rintro _ w10 nO
            refine aA (aj (ay (ah (aN rfl (aN rfl (bP rfl (bF 28 underlying37 rfl sizeOf3 rfl (dV underlying3 rfl (nO).get.2 rfl (bP rfl (bF 0 underlying37 rfl sizeOf32 rfl (bF 6 underlying32 rfl sizeOf3 rfl (aG (aS 6 (l' := [_, _, _, _, _, _, _, _, _, _, _, _, _, _, _, _, _, _, _, _, _, _, _, _, _, _, _, _, _, _, _, _, _, _]) nO sizeOf3 rfl rfl (by first | rfl | assumption) rfl rfl) ?_))))))))))))
            rintro _ Hz vk
            refine aA (aj (ay (ay (ah (aN rfl (bP rfl (bF 28 underlying37 rfl sizeOf3 rfl (dV underlying3 rfl (vk).get.2 rfl (aX (dU rfl rfl) (aA (aj (aO rfl (fun h8 => ?_) (fun h8 => ?_)))))))))))))
            · (try simp only [aH] at h8)
              have oq := gQ jM hon hrun h8
              refine ah (aN rfl (aN rfl (bP rfl (bF 0 underlying37 rfl sizeOf32 rfl (bF 7 underlying32 rfl sizeOf3 rfl (aG (aS 7 (l' := [_, _, _, _, _, _, _, _, _, _, _, _, _, _, _, _, _, _, _, _, _, _, _, _, _, _, _, _, _, _, _, _, _, _]) vk sizeOf3 rfl rfl (by first | rfl | assumption) rfl rfl) ?_))))))
              rintro _ w12 wP
              refine bP rfl (bF 0 underlying37 rfl sizeOf32 rfl (bF 8 underlying32 rfl sizeOf3 rfl (aG (aS 8 (l' := [_, _, _, _, _, _, _, _, _, _, _, _, _, _, _, _, _, _, _, _, _, _, _, _, _, _, _, _, _, _, _, _, _, _]) wP sizeOf3 rfl rfl (by first | rfl | assumption) rfl rfl) ?_)))
              rintro _ MN uO
              refine aA (aj (ay (ah (aV rfl (aA (aj (aJ (aI (.inl rfl) results27 rfl ?_))))))))
              refine ⟨rfl, ?_⟩
              first
                | exact absurd (hw2.symm.trans hwh) (by decide)
                | exact absurd (hwh.symm.trans hw2) (by decide)
                | (rw [oq]; exact aB.dG dF bG uO.f11.f11.f11.f11.f11.f11.f11.f11.f11.f11.f11)
            · (try simp only [aH] at h8)
              have oq := fM jM hon hrun h8
              refine aP (aj (ay (ah (aV rfl (aA (aj (aJ (aI (.inl rfl) results27 rfl ?_))))))))
              refine ⟨rfl, ?_⟩
              first
                | exact absurd (hw2.symm.trans hwh) (by decide)
                | exact absurd (hwh.symm.trans hw2) (by decide)
                | (rw [oq]; exact aB.dG dF bG vk.f11.f11.f11.f11.f11.f11.f11.f11.f11.f11.f11)
          · (try simp only [aH] at h7)
            have hrun : (s.typed && (!s.put.isEmpty || s.c.run)) = (s1.dJ on).c.run := by first | exact absurd (hw2.symm.trans hwh) (by decide) | (rw [lU, decide_eq_true (show s.put.length = 0 by omega), hty, uG, hr1]; rfl)
            refine aZ (aN rfl (aZ (bP rfl (aZ (bF 0 underlying37 rfl sizeOf32 rfl (aZ (bF 10 underlying32 rfl sizeOf4 rfl (aZ (dV underlying4 rfl (dH).get.2 rfl (aZ (eG rfl rfl (fG rfl rfl (bP rfl (bF 0 underlying37 rfl sizeOf32 rfl (bF 10 underlying32 rfl sizeOf4 rfl (aG (aS 10 (l' := [_, _, _, _, _, _, _, _, _, _, _, _, _, _, _, _, _, _, _, _, _, _, _, _, _, _, _, _, _, _, _, _, _, _]) dH sizeOf4 rfl rfl (by first | rfl | assumption) rfl rfl) ?_))))))))))))))))
            rintro _ Jw xE
            refine aA (aj (ay (ah (aN rfl (aN rfl (bP rfl (bF 28 underlying37 rfl sizeOf3 rfl (dV underlying3 rfl (xE).get.2 rfl (bP rfl (bF 0 underlying37 rfl sizeOf32 rfl (bF 6 underlying32 rfl sizeOf3 rfl (aG (aS 6 (l' := [_, _, _, _, _, _, _, _, _, _, _, _, _, _, _, _, _, _, _, _, _, _, _, _, _, _, _, _, _, _, _, _, _, _]) xE sizeOf3 rfl rfl (by first | rfl | assumption) rfl rfl) ?_))))))))))))
            rintro _ MO uf
            refine aA (aj (ay (ay (ah (aN rfl (bP rfl (bF 28 underlying37 rfl sizeOf3 rfl (dV underlying3 rfl (uf).get.2 rfl (aX (dU rfl rfl) (aA (aj (aO rfl (fun h9 => ?_) (fun h9 => ?_)))))))))))))
            · (try simp only [aH] at h9)
              have oq := gQ jM hon hrun h9
              refine ah (aN rfl (aN rfl (bP rfl (bF 0 underlying37 rfl sizeOf32 rfl (bF 7 underlying32 rfl sizeOf3 rfl (aG (aS 7 (l' := [_, _, _, _, _, _, _, _, _, _, _, _, _, _, _, _, _, _, _, _, _, _, _, _, _, _, _, _, _, _, _, _, _, _]) uf sizeOf3 rfl rfl (by first | rfl | assumption) rfl rfl) ?_))))))
              rintro _ w16 rZ
              refine bP rfl (bF 0 underlying37 rfl sizeOf32 rfl (bF 8 underlying32 rfl sizeOf3 rfl (aG (aS 8 (l' := [_, _, _, _, _, _, _, _, _, _, _, _, _, _, _, _, _, _, _, _, _, _, _, _, _, _, _, _, _, _, _, _, _, _]) rZ sizeOf3 rfl rfl (by first | rfl | assumption) rfl rfl) ?_)))
              rintro _ RX Ac
              refine aA (aj (ay (ah (aV rfl (aA (aj (aJ (aI (.inl rfl) results27 rfl ?_))))))))
              refine ⟨rfl, ?_⟩
              first
                | exact absurd (hw2.symm.trans hwh) (by decide)
                | exact absurd (hwh.symm.trans hw2) (by decide)
                | (rw [oq]; exact aB.dG dF bG Ac.f11.f11.f11.f11.f11.f11.f11.f11.f11.f11.f11)
            · (try simp only [aH] at h9)
              have oq := fM jM hon hrun h9
              refine aP (aj (ay (ah (aV rfl (aA (aj (aJ (aI (.inl rfl) results27 rfl ?_))))))))
              refine ⟨rfl, ?_⟩
              first
                | exact absurd (hw2.symm.trans hwh) (by decide)
                | exact absurd (hwh.symm.trans hw2) (by decide)
                | (rw [oq]; exact aB.dG dF bG uf.f11.f11.f11.f11.f11.f11.f11.f11.f11.f11.f11)
        · (try simp only [aH] at h6)
          have hw2 : s.whole = false := by simpa using h6
          have hrun : (s.typed && (!s.put.isEmpty || s.c.run)) = false := by first | exact absurd (hwh.symm.trans hw2) (by decide) | (rw [hty]; rfl)
          refine bD (bD (jq (jq (jq (jq (jq (bD (eG rfl rfl (bP rfl (bF 0 underlying37 rfl sizeOf32 rfl (bF 10 underlying32 rfl sizeOf4 rfl (aG (aS 10 (l' := [_, _, _, _, _, _, _, _, _, _, _, _, _, _, _, _, _, _, _, _, _, _, _, _, _, _, _, _, _, _, _, _, _, _]) dH sizeOf4 rfl rfl (by first | rfl | assumption) rfl rfl) ?_))))))))))))
          rintro _ Qc zY
          refine aA (aj (ay (ah (aN rfl (aN rfl (bP rfl (bF 28 underlying37 rfl sizeOf3 rfl (dV underlying3 rfl (zY).get.2 rfl (bP rfl (bF 0 underlying37 rfl sizeOf32 rfl (bF 6 underlying32 rfl sizeOf3 rfl (aG (aS 6 (l' := [_, _, _, _, _, _, _, _, _, _, _, _, _, _, _, _, _, _, _, _, _, _, _, _, _, _, _, _, _, _, _, _, _, _]) zY sizeOf3 rfl rfl (by first | rfl | assumption) rfl rfl) ?_))))))))))))
          rintro _ Qe Au
          refine aA (aj (ay (ay (ah (aN rfl (bP rfl (bF 28 underlying37 rfl sizeOf3 rfl (dV underlying3 rfl (Au).get.2 rfl (aX (dU rfl rfl) (aA (aj (aO rfl (fun h10 => ?_) (fun h10 => ?_)))))))))))))
          · (try simp only [aH] at h10)
            have oq := gQ jM hon hrun h10
            refine ah (aN rfl (aN rfl (bP rfl (bF 0 underlying37 rfl sizeOf32 rfl (bF 7 underlying32 rfl sizeOf3 rfl (aG (aS 7 (l' := [_, _, _, _, _, _, _, _, _, _, _, _, _, _, _, _, _, _, _, _, _, _, _, _, _, _, _, _, _, _, _, _, _, _]) Au sizeOf3 rfl rfl (by first | rfl | assumption) rfl rfl) ?_))))))
            rintro _ Qd uZ
            refine bP rfl (bF 0 underlying37 rfl sizeOf32 rfl (bF 8 underlying32 rfl sizeOf3 rfl (aG (aS 8 (l' := [_, _, _, _, _, _, _, _, _, _, _, _, _, _, _, _, _, _, _, _, _, _, _, _, _, _, _, _, _, _, _, _, _, _]) uZ sizeOf3 rfl rfl (by first | rfl | assumption) rfl rfl) ?_)))
            rintro _ QC oN
            refine aA (aj (ay (ah (aV rfl (aA (aj (aJ (aI (.inl rfl) results27 rfl ?_))))))))
            refine ⟨rfl, ?_⟩
            first
              | exact absurd (hw2.symm.trans hwh) (by decide)
              | exact absurd (hwh.symm.trans hw2) (by decide)
              | (rw [oq]; exact aB.dG dF bG oN.f11.f11.f11.f11.f11.f11.f11.f11.f11.f11.f11)
          · (try simp only [aH] at h10)
            have oq := fM jM hon hrun h10
            refine aP (aj (ay (ah (aV rfl (aA (aj (aJ (aI (.inl rfl) results27 rfl ?_))))))))
            refine ⟨rfl, ?_⟩
            first
              | exact absurd (hw2.symm.trans hwh) (by decide)
              | exact absurd (hwh.symm.trans hw2) (by decide)
              | (rw [oq]; exact aB.dG dF bG Au.f11.f11.f11.f11.f11.f11.f11.f11.f11.f11.f11)
      · (try simp only [aH] at h5)
        have hwh : s.whole = false := by simpa using h5
        have hty : s.typed = false := by unfold bg.typed; rw [hc3, hwh]; rfl
        have hrun : (s.typed && (!s.put.isEmpty || s.c.run)) = false := by rw [hty]; rfl
        refine bD (bD (bD (bD (bD (eG rfl rfl ?_)))))
        have hwo := qB (xA.f11)
        have Gq := xA.f11.right
        have HW0 := aB.xO (c := s.was) (u := [mZ, ng, ni, ny, nC, nD, nG, nH, nI, nJ, nK]) Gq hwo
        obtain ⟨s1, jM, PI⟩ : ∃ s1, s1 = s.dZ ∧ aB w0 (w6.drew) (dw e s1 • F) := ⟨_, hs1, aB.dG (hs1 ▸ pV dF) bG HW0.f11.f11.f11.f11.f11.f11.f11.f11.f11.f11⟩
        have hr1 : s1.c.run = s.c.run := by rw [jM]; unfold bg.dZ; split <;> rfl
        refine bZ rfl func96 (kU PI) ?_
        rintro _ Qg yc
        obtain ⟨on, hon, HZ⟩ : ∃ on, (s.typed && s.c.run) = on ∧ aB w0 Qg (dw e (s1.dJ on) • F) := ⟨_, by rw [hty]; rfl, yc⟩
        refine aA (aj (ay ?_))
        obtain ⟨qG, qH, qI, qJ, qK, qL, qM, qN, oU, mZ, ng, ni, ny, nC, nD, nG, nH, nI, nJ, nK, dF, bG, gK, dH⟩ := (HZ).Bf
        refine ah (aN rfl (aN rfl (fK rfl (fun h11 => ?_) (fun h11 => ?_))))
        · (try simp only [aH] at h11)
          have hw2 : s.whole = true := h11
          refine aZ (aN rfl (aZ (fK rfl (fun h12 => ?_) (fun h12 => ?_))))
          · (try simp only [aH] at h12)
            have hrun : (s.typed && (!s.put.isEmpty || s.c.run)) = true := by first | exact absurd (hw2.symm.trans hwh) (by decide) | (rw [lU, decide_eq_false (show ¬ s.put.length = 0 by omega), hty]; rfl)
            refine bD (bD (bD (bD (bD (aZ (fG rfl rfl (fG rfl rfl (bP rfl (bF 0 underlying37 rfl sizeOf32 rfl (bF 10 underlying32 rfl sizeOf4 rfl (aG (aS 10 (l' := [_, _, _, _, _, _, _, _, _, _, _, _, _, _, _, _, _, _, _, _, _, _, _, _, _, _, _, _, _, _, _, _, _, _]) dH sizeOf4 rfl rfl (by first | rfl | assumption) rfl rfl) ?_)))))))))))
            rintro _ Vu KU
            refine aA (aj (ay (ah (aN rfl (aN rfl (bP rfl (bF 28 underlying37 rfl sizeOf3 rfl (dV underlying3 rfl (KU).get.2 rfl (bP rfl (bF 0 underlying37 rfl sizeOf32 rfl (bF 6 underlying32 rfl sizeOf3 rfl (aG (aS 6 (l' := [_, _, _, _, _, _, _, _, _, _, _, _, _, _, _, _, _, _, _, _, _, _, _, _, _, _, _, _, _, _, _, _, _, _]) KU sizeOf3 rfl rfl (by first | rfl | assumption) rfl rfl) ?_))))))))))))
            rintro _ Vw MP
            refine aA (aj (ay (ay (ah (aN rfl (bP rfl (bF 28 underlying37 rfl sizeOf3 rfl (dV underlying3 rfl (MP).get.2 rfl (aX (dU rfl rfl) (aA (aj (aO rfl (fun h13 => ?_) (fun h13 => ?_)))))))))))))
            · (try simp only [aH] at h13)
              have oq := gQ jM hon hrun h13
              refine ah (aN rfl (aN rfl (bP rfl (bF 0 underlying37 rfl sizeOf32 rfl (bF 7 underlying32 rfl sizeOf3 rfl (aG (aS 7 (l' := [_, _, _, _, _, _, _, _, _, _, _, _, _, _, _, _, _, _, _, _, _, _, _, _, _, _, _, _, _, _, _, _, _, _]) MP sizeOf3 rfl rfl (by first | rfl | assumption) rfl rfl) ?_))))))
              rintro _ Vx Qh
              refine bP rfl (bF 0 underlying37 rfl sizeOf32 rfl (bF 8 underlying32 rfl sizeOf3 rfl (aG (aS 8 (l' := [_, _, _, _, _, _, _, _, _, _, _, _, _, _, _, _, _, _, _, _, _, _, _, _, _, _, _, _, _, _, _, _, _, _]) Qh sizeOf3 rfl rfl (by first | rfl | assumption) rfl rfl) ?_)))
              rintro _ Xd Qi
              refine aA (aj (ay (ah (aV rfl (aA (aj (aJ (aI (.inl rfl) results27 rfl ?_))))))))
              refine ⟨rfl, ?_⟩
              first
                | exact absurd (hw2.symm.trans hwh) (by decide)
                | exact absurd (hwh.symm.trans hw2) (by decide)
                | (rw [oq]; exact aB.dG dF bG Qi.f11.f11.f11.f11.f11.f11.f11.f11.f11.f11.f11)
            · (try simp only [aH] at h13)
              have oq := fM jM hon hrun h13
              refine aP (aj (ay (ah (aV rfl (aA (aj (aJ (aI (.inl rfl) results27 rfl ?_))))))))
              refine ⟨rfl, ?_⟩
              first
                | exact absurd (hw2.symm.trans hwh) (by decide)
                | exact absurd (hwh.symm.trans hw2) (by decide)
                | (rw [oq]; exact aB.dG dF bG MP.f11.f11.f11.f11.f11.f11.f11.f11.f11.f11.f11)
          · (try simp only [aH] at h12)
            have hrun : (s.typed && (!s.put.isEmpty || s.c.run)) = (s1.dJ on).c.run := by first | exact absurd (hw2.symm.trans hwh) (by decide) | (rw [lU, decide_eq_true (show s.put.length = 0 by omega), hty, uG, hr1]; rfl)
            refine aZ (aN rfl (aZ (bP rfl (aZ (bF 0 underlying37 rfl sizeOf32 rfl (aZ (bF 10 underlying32 rfl sizeOf4 rfl (aZ (dV underlying4 rfl (dH).get.2 rfl (aZ (eG rfl rfl (fG rfl rfl (bP rfl (bF 0 underlying37 rfl sizeOf32 rfl (bF 10 underlying32 rfl sizeOf4 rfl (aG (aS 10 (l' := [_, _, _, _, _, _, _, _, _, _, _, _, _, _, _, _, _, _, _, _, _, _, _, _, _, _, _, _, _, _, _, _, _, _]) dH sizeOf4 rfl rfl (by first | rfl | assumption) rfl rfl) ?_))))))))))))))))
            rintro _ w29 TJ
            refine aA (aj (ay (ah (aN rfl (aN rfl (bP rfl (bF 28 underlying37 rfl sizeOf3 rfl (dV underlying3 rfl (TJ).get.2 rfl (bP rfl (bF 0 underlying37 rfl sizeOf32 rfl (bF 6 underlying32 rfl sizeOf3 rfl (aG (aS 6 (l' := [_, _, _, _, _, _, _, _, _, _, _, _, _, _, _, _, _, _, _, _, _, _, _, _, _, _, _, _, _, _, _, _, _, _]) TJ sizeOf3 rfl rfl (by first | rfl | assumption) rfl rfl) ?_))))))))))))
            rintro _ XJ Oq
            refine aA (aj (ay (ay (ah (aN rfl (bP rfl (bF 28 underlying37 rfl sizeOf3 rfl (dV underlying3 rfl (Oq).get.2 rfl (aX (dU rfl rfl) (aA (aj (aO rfl (fun h14 => ?_) (fun h14 => ?_)))))))))))))
            · (try simp only [aH] at h14)
              have oq := gQ jM hon hrun h14
              refine ah (aN rfl (aN rfl (bP rfl (bF 0 underlying37 rfl sizeOf32 rfl (bF 7 underlying32 rfl sizeOf3 rfl (aG (aS 7 (l' := [_, _, _, _, _, _, _, _, _, _, _, _, _, _, _, _, _, _, _, _, _, _, _, _, _, _, _, _, _, _, _, _, _, _]) Oq sizeOf3 rfl rfl (by first | rfl | assumption) rfl rfl) ?_))))))
              rintro _ Vy Jy
              refine bP rfl (bF 0 underlying37 rfl sizeOf32 rfl (bF 8 underlying32 rfl sizeOf3 rfl (aG (aS 8 (l' := [_, _, _, _, _, _, _, _, _, _, _, _, _, _, _, _, _, _, _, _, _, _, _, _, _, _, _, _, _, _, _, _, _, _]) Jy sizeOf3 rfl rfl (by first | rfl | assumption) rfl rfl) ?_)))
              rintro _ w32 NS
              refine aA (aj (ay (ah (aV rfl (aA (aj (aJ (aI (.inl rfl) results27 rfl ?_))))))))
              refine ⟨rfl, ?_⟩
              first
                | exact absurd (hw2.symm.trans hwh) (by decide)
                | exact absurd (hwh.symm.trans hw2) (by decide)
                | (rw [oq]; exact aB.dG dF bG NS.f11.f11.f11.f11.f11.f11.f11.f11.f11.f11.f11)
            · (try simp only [aH] at h14)
              have oq := fM jM hon hrun h14
              refine aP (aj (ay (ah (aV rfl (aA (aj (aJ (aI (.inl rfl) results27 rfl ?_))))))))
              refine ⟨rfl, ?_⟩
              first
                | exact absurd (hw2.symm.trans hwh) (by decide)
                | exact absurd (hwh.symm.trans hw2) (by decide)
                | (rw [oq]; exact aB.dG dF bG Oq.f11.f11.f11.f11.f11.f11.f11.f11.f11.f11.f11)
        · (try simp only [aH] at h11)
          have hw2 : s.whole = false := by simpa using h11
          have hrun : (s.typed && (!s.put.isEmpty || s.c.run)) = false := by first | exact absurd (hwh.symm.trans hw2) (by decide) | (rw [hty]; rfl)
          refine bD (bD (jq (jq (jq (jq (jq (bD (eG rfl rfl (bP rfl (bF 0 underlying37 rfl sizeOf32 rfl (bF 10 underlying32 rfl sizeOf4 rfl (aG (aS 10 (l' := [_, _, _, _, _, _, _, _, _, _, _, _, _, _, _, _, _, _, _, _, _, _, _, _, _, _, _, _, _, _, _, _, _, _]) dH sizeOf4 rfl rfl (by first | rfl | assumption) rfl rfl) ?_))))))))))))
          rintro _ Xf Jz
          refine aA (aj (ay (ah (aN rfl (aN rfl (bP rfl (bF 28 underlying37 rfl sizeOf3 rfl (dV underlying3 rfl (Jz).get.2 rfl (bP rfl (bF 0 underlying37 rfl sizeOf32 rfl (bF 6 underlying32 rfl sizeOf3 rfl (aG (aS 6 (l' := [_, _, _, _, _, _, _, _, _, _, _, _, _, _, _, _, _, _, _, _, _, _, _, _, _, _, _, _, _, _, _, _, _, _]) Jz sizeOf3 rfl rfl (by first | rfl | assumption) rfl rfl) ?_))))))))))))
          rintro _ XK Qj
          refine aA (aj (ay (ay (ah (aN rfl (bP rfl (bF 28 underlying37 rfl sizeOf3 rfl (dV underlying3 rfl (Qj).get.2 rfl (aX (dU rfl rfl) (aA (aj (aO rfl (fun h15 => ?_) (fun h15 => ?_)))))))))))))
          · (try simp only [aH] at h15)
            have oq := gQ jM hon hrun h15
            refine ah (aN rfl (aN rfl (bP rfl (bF 0 underlying37 rfl sizeOf32 rfl (bF 7 underlying32 rfl sizeOf3 rfl (aG (aS 7 (l' := [_, _, _, _, _, _, _, _, _, _, _, _, _, _, _, _, _, _, _, _, _, _, _, _, _, _, _, _, _, _, _, _, _, _]) Qj sizeOf3 rfl rfl (by first | rfl | assumption) rfl rfl) ?_))))))
            rintro _ w35 UL
            refine bP rfl (bF 0 underlying37 rfl sizeOf32 rfl (bF 8 underlying32 rfl sizeOf3 rfl (aG (aS 8 (l' := [_, _, _, _, _, _, _, _, _, _, _, _, _, _, _, _, _, _, _, _, _, _, _, _, _, _, _, _, _, _, _, _, _, _]) UL sizeOf3 rfl rfl (by first | rfl | assumption) rfl rfl) ?_)))
            rintro _ w36 Vz
            refine aA (aj (ay (ah (aV rfl (aA (aj (aJ (aI (.inl rfl) results27 rfl ?_))))))))
            refine ⟨rfl, ?_⟩
            first
              | exact absurd (hw2.symm.trans hwh) (by decide)
              | exact absurd (hwh.symm.trans hw2) (by decide)
              | (rw [oq]; exact aB.dG dF bG Vz.f11.f11.f11.f11.f11.f11.f11.f11.f11.f11.f11)
          · (try simp only [aH] at h15)
            have oq := fM jM hon hrun h15
            refine aP (aj (ay (ah (aV rfl (aA (aj (aJ (aI (.inl rfl) results27 rfl ?_))))))))
            refine ⟨rfl, ?_⟩
            first
              | exact absurd (hw2.symm.trans hwh) (by decide)
              | exact absurd (hwh.symm.trans hw2) (by decide)
              | (rw [oq]; exact aB.dG dF bG Qj.f11.f11.f11.f11.f11.f11.f11.f11.f11.f11.f11)
    · (try simp only [aH] at h4)
      have hty : s.typed = false := by unfold bg.typed; rw [beq_false_of_ne h4]; rfl
      have hrun : (s.typed && (!s.put.isEmpty || s.c.run)) = false := by rw [hty]; rfl
      refine zS 6 rfl rfl rfl rfl (by kernel_rfl) (by kernel_rfl) fH (oW rfl) ?_
      refine zS 7 rfl rfl rfl rfl (by kernel_rfl) (by kernel_rfl) fH (oW rfl) ?_
      refine zS 8 rfl rfl rfl rfl (by kernel_rfl) (by kernel_rfl) fH (oW rfl) ?_
      refine zS 9 rfl rfl rfl rfl (by kernel_rfl) (by kernel_rfl) fH (oW rfl) ?_
      refine jg 10 rfl fH (fun _ => BA rfl rfl) (iF 11 rfl fH rfl (jQ 12 rfl fH rfl (gV 13 rfl fH 33 underlying37 rfl sizeOf35 rfl (jk 14 rfl fH (fun W hW => jP underlying35 rfl ((Kp.h hW)).get.2 rfl) (jg 15 rfl fH (fun _ => iM ((xA.f9).aT) underlying35 rfl) (jg 16 rfl fH (fun _ => dn rfl rfl) (jg 17 rfl fH (fun _ => gG rfl) (jg 18 rfl fH (fun _ => gG rfl) (pO (aj (ay (ah (aN rfl (aN rfl (aN rfl (bD (bD (bD (bD (bD (eG rfl rfl ?_)))))))))))))))))))))
      have hwo := qB (xA.f11)
      have Uw := xA.f11.right
      have HW0 := aB.xO (c := s.was) (u := [mZ, ng, ni, ny, nC, nD, nG, nH, nI, nJ, nK]) Uw hwo
      obtain ⟨s1, jM, PI⟩ : ∃ s1, s1 = s.dZ ∧ aB w0 (w6.drew) (dw e s1 • F) := ⟨_, hs1, aB.dG (hs1 ▸ pV dF) bG HW0.f11.f11.f11.f11.f11.f11.f11.f11.f11.f11⟩
      have hr1 : s1.c.run = s.c.run := by rw [jM]; unfold bg.dZ; split <;> rfl
      refine bZ rfl func96 (kU PI) ?_
      rintro _ VA TK
      obtain ⟨on, hon, HZ⟩ : ∃ on, (s.typed && s.c.run) = on ∧ aB w0 VA (dw e (s1.dJ on) • F) := ⟨_, by rw [hty]; rfl, TK⟩
      refine aA (aj (ay ?_))
      obtain ⟨qG, qH, qI, qJ, qK, qL, qM, qN, oU, mZ, ng, ni, ny, nC, nD, nG, nH, nI, nJ, nK, dF, bG, gK, dH⟩ := (HZ).Bf
      refine ah (aN rfl (aN rfl (aN rfl (bD (bD (jq (jq (jq (jq (jq (bD (eG rfl rfl (bP rfl (bF 0 underlying37 rfl sizeOf32 rfl (bF 10 underlying32 rfl sizeOf4 rfl (aG (aS 10 (l' := [_, _, _, _, _, _, _, _, _, _, _, _, _, _, _, _, _, _, _, _, _, _, _, _, _, _, _, _, _, _, _, _, _, _]) dH sizeOf4 rfl rfl (by first | rfl | assumption) rfl rfl) ?_))))))))))))))))
      rintro _ w40 Xh
      refine aA (aj (ay (ah (aN rfl (aN rfl (bP rfl (bF 28 underlying37 rfl sizeOf3 rfl (dV underlying3 rfl (Xh).get.2 rfl (bP rfl (bF 0 underlying37 rfl sizeOf32 rfl (bF 6 underlying32 rfl sizeOf3 rfl (aG (aS 6 (l' := [_, _, _, _, _, _, _, _, _, _, _, _, _, _, _, _, _, _, _, _, _, _, _, _, _, _, _, _, _, _, _, _, _, _]) Xh sizeOf3 rfl rfl (by first | rfl | assumption) rfl rfl) ?_))))))))))))
      rintro _ w41 RY
      refine aA (aj (ay (ay (ah (aN rfl (bP rfl (bF 28 underlying37 rfl sizeOf3 rfl (dV underlying3 rfl (RY).get.2 rfl (aX (dU rfl rfl) (aA (aj (aO rfl (fun h16 => ?_) (fun h16 => ?_)))))))))))))
      · (try simp only [aH] at h16)
        have oq := gQ jM hon hrun h16
        refine ah (aN rfl (aN rfl (bP rfl (bF 0 underlying37 rfl sizeOf32 rfl (bF 7 underlying32 rfl sizeOf3 rfl (aG (aS 7 (l' := [_, _, _, _, _, _, _, _, _, _, _, _, _, _, _, _, _, _, _, _, _, _, _, _, _, _, _, _, _, _, _, _, _, _]) RY sizeOf3 rfl rfl (by first | rfl | assumption) rfl rfl) ?_))))))
        rintro _ w42 UM
        refine bP rfl (bF 0 underlying37 rfl sizeOf32 rfl (bF 8 underlying32 rfl sizeOf3 rfl (aG (aS 8 (l' := [_, _, _, _, _, _, _, _, _, _, _, _, _, _, _, _, _, _, _, _, _, _, _, _, _, _, _, _, _, _, _, _, _, _]) UM sizeOf3 rfl rfl (by first | rfl | assumption) rfl rfl) ?_)))
        rintro _ XM UN
        refine aA (aj (ay (ah (aV rfl (aA (aj (aJ (aI (.inl rfl) results27 rfl ?_))))))))
        refine ⟨rfl, ?_⟩
        first
          | exact absurd (hw2.symm.trans hwh) (by decide)
          | exact absurd (hwh.symm.trans hw2) (by decide)
          | (rw [oq]; exact aB.dG dF bG UN.f11.f11.f11.f11.f11.f11.f11.f11.f11.f11.f11)
      · (try simp only [aH] at h16)
        have oq := fM jM hon hrun h16
        refine aP (aj (ay (ah (aV rfl (aA (aj (aJ (aI (.inl rfl) results27 rfl ?_))))))))
        refine ⟨rfl, ?_⟩
        first
          | exact absurd (hw2.symm.trans hwh) (by decide)
          | exact absurd (hwh.symm.trans hw2) (by decide)
          | (rw [oq]; exact aB.dG dF bG RY.f11.f11.f11.f11.f11.f11.f11.f11.f11.f11.f11)
  · (try simp only [aH] at h2)
    have har : s.argues = true := by simpa using h2
    have hs1 : ({ s with dP := false } : bg) = s.dZ := by unfold bg.dZ; rw [if_pos har]
    refine aZ (aN rfl (aZ (aX (dU rfl rfl) (eG rfl rfl (aA (aj (aO rfl (fun h => by exfalso; (try simp only [aH] at h); simp at h) (fun h17 => ?_))))))))
    (try simp only [aH] at h17)
    refine aP (aj (ay (ay (ah (aN rfl (aX (dU rfl rfl) (aA (aj (aO rfl (fun h => by exfalso; (try simp only [aH] at h); simp at h) (fun h18 => ?_))))))))))
    (try simp only [aH] at h18)
    refine aP (aj (ay ?_))
    have rO := H3.drew
    have dM := aB.kp (rO.f11.f11.f11.f11.f11.f11.f11.f11.f11.f11.f11)
    refine yZ [3, 9, 14] dM rfl (iF 0 rfl dM rfl (jQ 1 rfl dM rfl (gV 2 rfl dM 28 underlying37 rfl sizeOf3 rfl (jk 3 rfl dM (fun W hW => jP underlying3 rfl ((Kp.h hW)).get.2 rfl) (jg 4 rfl dM (fun _ => dO rfl rfl) ?_)))))
    refine G9 5 rfl rfl (by kernel_rfl) (by kernel_rfl) dM (oW rfl) (fun h19 => ?_) (fun h19 => ?_)
    · (try simp only [aH] at h19)
      have hc3 : s.cls = 3 := h19
      refine kP 6 rfl rfl rfl (by kernel_rfl) (by kernel_rfl) dM (fun _ => Bv rfl) (oW rfl) ?_
      refine kP 7 rfl rfl rfl (by kernel_rfl) (by kernel_rfl) dM (fun _ => KH rfl) (oW rfl) ?_
      refine kP 8 rfl rfl rfl (by kernel_rfl) (by kernel_rfl) dM (fun _ => BD 32 underlying37 rfl rfl sizeOf4 (by decide) rfl rfl) (oW rfl) ?_
      refine zQ 9 rfl rfl rfl (by kernel_rfl) (by kernel_rfl) dM (by decide) (fun W hW => nU (dK underlying4 rfl) rfl (fV ((Kp.h hW)).get.2 rfl)) (oW rfl) ?_
      refine jg 10 rfl dM (fun _ => Bz rfl rfl) (iF 11 rfl dM rfl (jQ 12 rfl dM rfl (gV 13 rfl dM 33 underlying37 rfl sizeOf35 rfl (jk 14 rfl dM (fun W hW => jP underlying35 rfl ((Kp.h hW)).get.2 rfl) (jg 15 rfl dM (fun _ => iM ((rO.f9).aT) underlying35 rfl) (jg 16 rfl dM (fun _ => dn rfl rfl) (jg 17 rfl dM (fun _ => gG rfl) (jg 18 rfl dM (fun _ => gG rfl) (pO (aj (ay (ah (aN rfl (aN rfl (fK rfl (fun h20 => ?_) (fun h20 => ?_))))))))))))))))
      · (try simp only [aH] at h20)
        have hwh : s.whole = true := h20
        have hty : s.typed = true := by unfold bg.typed; rw [hc3, hwh]; rfl
        refine aZ (aN rfl (aZ (bP rfl (aZ (bF 0 underlying37 rfl sizeOf32 rfl (aZ (bF 10 underlying32 rfl sizeOf4 rfl (aZ (dV underlying4 rfl (rO).get.2 rfl (fG rfl rfl ?_))))))))))
        have hwo := qB (rO.f11)
        have ZA := rO.f11.right
        have HW0 := aB.xO (c := s.was) (u := [mZ, ng, ni, ny, nC, nD, nG, nH, nI, nJ, nK]) ZA hwo
        obtain ⟨s1, jM, PI⟩ : ∃ s1, s1 = s.dZ ∧ aB w0 (w3.drew) (dw e s1 • F) := ⟨_, hs1, aB.dG (hs1 ▸ pV dF) bG HW0.f11.f11.f11.f11.f11.f11.f11.f11.f11.f11⟩
        have hr1 : s1.c.run = s.c.run := by rw [jM]; unfold bg.dZ; split <;> rfl
        refine bZ rfl func96 (kU PI) ?_
        rintro _ Xi RZ
        obtain ⟨on, hon, HZ⟩ : ∃ on, (s.typed && s.c.run) = on ∧ aB w0 Xi (dw e (s1.dJ on) • F) := ⟨_, by rw [hty]; rfl, RZ⟩
        refine aA (aj (ay ?_))
        obtain ⟨qG, qH, qI, qJ, qK, qL, qM, qN, oU, mZ, ng, ni, ny, nC, nD, nG, nH, nI, nJ, nK, dF, bG, gK, dH⟩ := (HZ).Bf
        refine ah (aN rfl (aN rfl (fK rfl (fun h21 => ?_) (fun h21 => ?_))))
        · (try simp only [aH] at h21)
          have hw2 : s.whole = true := h21
          refine aZ (aN rfl (aZ (fK rfl (fun h22 => ?_) (fun h22 => ?_))))
          · (try simp only [aH] at h22)
            have hrun : (s.typed && (!s.put.isEmpty || s.c.run)) = true := by first | exact absurd (hw2.symm.trans hwh) (by decide) | (rw [lU, decide_eq_false (show ¬ s.put.length = 0 by omega), hty]; rfl)
            refine bD (bD (bD (bD (bD (aZ (fG rfl rfl (fG rfl rfl (bP rfl (bF 0 underlying37 rfl sizeOf32 rfl (bF 10 underlying32 rfl sizeOf4 rfl (aG (aS 10 (l' := [_, _, _, _, _, _, _, _, _, _, _, _, _, _, _, _, _, _, _, _, _, _, _, _, _, _, _, _, _, _, _, _, _, _]) dH sizeOf4 rfl rfl (by first | rfl | assumption) rfl rfl) ?_)))))))))))
            rintro _ w47 UO
            refine aA (aj (ay (ah (aN rfl (aN rfl (bP rfl (bF 28 underlying37 rfl sizeOf3 rfl (dV underlying3 rfl (UO).get.2 rfl (bP rfl (bF 0 underlying37 rfl sizeOf32 rfl (bF 6 underlying32 rfl sizeOf3 rfl (aG (aS 6 (l' := [_, _, _, _, _, _, _, _, _, _, _, _, _, _, _, _, _, _, _, _, _, _, _, _, _, _, _, _, _, _, _, _, _, _]) UO sizeOf3 rfl rfl (by first | rfl | assumption) rfl rfl) ?_))))))))))))
            rintro _ w48 ZB
            refine aA (aj (ay (ay (ah (aN rfl (bP rfl (bF 28 underlying37 rfl sizeOf3 rfl (dV underlying3 rfl (ZB).get.2 rfl (aX (dU rfl rfl) (aA (aj (aO rfl (fun h23 => ?_) (fun h23 => ?_)))))))))))))
            · (try simp only [aH] at h23)
              have oq := gQ jM hon hrun h23
              refine ah (aN rfl (aN rfl (bP rfl (bF 0 underlying37 rfl sizeOf32 rfl (bF 7 underlying32 rfl sizeOf3 rfl (aG (aS 7 (l' := [_, _, _, _, _, _, _, _, _, _, _, _, _, _, _, _, _, _, _, _, _, _, _, _, _, _, _, _, _, _, _, _, _, _]) ZB sizeOf3 rfl rfl (by first | rfl | assumption) rfl rfl) ?_))))))
              rintro _ w49 Xp
              refine bP rfl (bF 0 underlying37 rfl sizeOf32 rfl (bF 8 underlying32 rfl sizeOf3 rfl (aG (aS 8 (l' := [_, _, _, _, _, _, _, _, _, _, _, _, _, _, _, _, _, _, _, _, _, _, _, _, _, _, _, _, _, _, _, _, _, _]) Xp sizeOf3 rfl rfl (by first | rfl | assumption) rfl rfl) ?_)))
              rintro _ w50 UY
              refine aA (aj (ay (ah (aV rfl (aA (aj (aJ (aI (.inl rfl) results27 rfl ?_))))))))
              refine ⟨rfl, ?_⟩
              first
                | exact absurd (hw2.symm.trans hwh) (by decide)
                | exact absurd (hwh.symm.trans hw2) (by decide)
                | (rw [oq]; exact aB.dG dF bG UY.f11.f11.f11.f11.f11.f11.f11.f11.f11.f11.f11)
            · (try simp only [aH] at h23)
              have oq := fM jM hon hrun h23
              refine aP (aj (ay (ah (aV rfl (aA (aj (aJ (aI (.inl rfl) results27 rfl ?_))))))))
              refine ⟨rfl, ?_⟩
              first
                | exact absurd (hw2.symm.trans hwh) (by decide)
                | exact absurd (hwh.symm.trans hw2) (by decide)
                | (rw [oq]; exact aB.dG dF bG ZB.f11.f11.f11.f11.f11.f11.f11.f11.f11.f11.f11)
          · (try simp only [aH] at h22)
            have hrun : (s.typed && (!s.put.isEmpty || s.c.run)) = (s1.dJ on).c.run := by first | exact absurd (hw2.symm.trans hwh) (by decide) | (rw [lU, decide_eq_true (show s.put.length = 0 by omega), hty, uG, hr1]; rfl)
            refine aZ (aN rfl (aZ (bP rfl (aZ (bF 0 underlying37 rfl sizeOf32 rfl (aZ (bF 10 underlying32 rfl sizeOf4 rfl (aZ (dV underlying4 rfl (dH).get.2 rfl (aZ (eG rfl rfl (fG rfl rfl (bP rfl (bF 0 underlying37 rfl sizeOf32 rfl (bF 10 underlying32 rfl sizeOf4 rfl (aG (aS 10 (l' := [_, _, _, _, _, _, _, _, _, _, _, _, _, _, _, _, _, _, _, _, _, _, _, _, _, _, _, _, _, _, _, _, _, _]) dH sizeOf4 rfl rfl (by first | rfl | assumption) rfl rfl) ?_))))))))))))))))
            rintro _ w51 Un
            refine aA (aj (ay (ah (aN rfl (aN rfl (bP rfl (bF 28 underlying37 rfl sizeOf3 rfl (dV underlying3 rfl (Un).get.2 rfl (bP rfl (bF 0 underlying37 rfl sizeOf32 rfl (bF 6 underlying32 rfl sizeOf3 rfl (aG (aS 6 (l' := [_, _, _, _, _, _, _, _, _, _, _, _, _, _, _, _, _, _, _, _, _, _, _, _, _, _, _, _, _, _, _, _, _, _]) Un sizeOf3 rfl rfl (by first | rfl | assumption) rfl rfl) ?_))))))))))))
            rintro _ w52 SG
            refine aA (aj (ay (ay (ah (aN rfl (bP rfl (bF 28 underlying37 rfl sizeOf3 rfl (dV underlying3 rfl (SG).get.2 rfl (aX (dU rfl rfl) (aA (aj (aO rfl (fun h24 => ?_) (fun h24 => ?_)))))))))))))
            · (try simp only [aH] at h24)
              have oq := gQ jM hon hrun h24
              refine ah (aN rfl (aN rfl (bP rfl (bF 0 underlying37 rfl sizeOf32 rfl (bF 7 underlying32 rfl sizeOf3 rfl (aG (aS 7 (l' := [_, _, _, _, _, _, _, _, _, _, _, _, _, _, _, _, _, _, _, _, _, _, _, _, _, _, _, _, _, _, _, _, _, _]) SG sizeOf3 rfl rfl (by first | rfl | assumption) rfl rfl) ?_))))))
              rintro _ w53 UZ
              refine bP rfl (bF 0 underlying37 rfl sizeOf32 rfl (bF 8 underlying32 rfl sizeOf3 rfl (aG (aS 8 (l' := [_, _, _, _, _, _, _, _, _, _, _, _, _, _, _, _, _, _, _, _, _, _, _, _, _, _, _, _, _, _, _, _, _, _]) UZ sizeOf3 rfl rfl (by first | rfl | assumption) rfl rfl) ?_)))
              rintro _ w54 YO
              refine aA (aj (ay (ah (aV rfl (aA (aj (aJ (aI (.inl rfl) results27 rfl ?_))))))))
              refine ⟨rfl, ?_⟩
              first
                | exact absurd (hw2.symm.trans hwh) (by decide)
                | exact absurd (hwh.symm.trans hw2) (by decide)
                | (rw [oq]; exact aB.dG dF bG YO.f11.f11.f11.f11.f11.f11.f11.f11.f11.f11.f11)
            · (try simp only [aH] at h24)
              have oq := fM jM hon hrun h24
              refine aP (aj (ay (ah (aV rfl (aA (aj (aJ (aI (.inl rfl) results27 rfl ?_))))))))
              refine ⟨rfl, ?_⟩
              first
                | exact absurd (hw2.symm.trans hwh) (by decide)
                | exact absurd (hwh.symm.trans hw2) (by decide)
                | (rw [oq]; exact aB.dG dF bG SG.f11.f11.f11.f11.f11.f11.f11.f11.f11.f11.f11)
        · (try simp only [aH] at h21)
          have hw2 : s.whole = false := by simpa using h21
          have hrun : (s.typed && (!s.put.isEmpty || s.c.run)) = false := by first | exact absurd (hwh.symm.trans hw2) (by decide) | (rw [hty]; rfl)
          refine bD (bD (jq (jq (jq (jq (jq (bD (eG rfl rfl (bP rfl (bF 0 underlying37 rfl sizeOf32 rfl (bF 10 underlying32 rfl sizeOf4 rfl (aG (aS 10 (l' := [_, _, _, _, _, _, _, _, _, _, _, _, _, _, _, _, _, _, _, _, _, _, _, _, _, _, _, _, _, _, _, _, _, _]) dH sizeOf4 rfl rfl (by first | rfl | assumption) rfl rfl) ?_))))))))))))
          rintro _ w55 Xq
          refine aA (aj (ay (ah (aN rfl (aN rfl (bP rfl (bF 28 underlying37 rfl sizeOf3 rfl (dV underlying3 rfl (Xq).get.2 rfl (bP rfl (bF 0 underlying37 rfl sizeOf32 rfl (bF 6 underlying32 rfl sizeOf3 rfl (aG (aS 6 (l' := [_, _, _, _, _, _, _, _, _, _, _, _, _, _, _, _, _, _, _, _, _, _, _, _, _, _, _, _, _, _, _, _, _, _]) Xq sizeOf3 rfl rfl (by first | rfl | assumption) rfl rfl) ?_))))))))))))
          rintro _ w56 ZC
          refine aA (aj (ay (ay (ah (aN rfl (bP rfl (bF 28 underlying37 rfl sizeOf3 rfl (dV underlying3 rfl (ZC).get.2 rfl (aX (dU rfl rfl) (aA (aj (aO rfl (fun h25 => ?_) (fun h25 => ?_)))))))))))))
          · (try simp only [aH] at h25)
            have oq := gQ jM hon hrun h25
            refine ah (aN rfl (aN rfl (bP rfl (bF 0 underlying37 rfl sizeOf32 rfl (bF 7 underlying32 rfl sizeOf3 rfl (aG (aS 7 (l' := [_, _, _, _, _, _, _, _, _, _, _, _, _, _, _, _, _, _, _, _, _, _, _, _, _, _, _, _, _, _, _, _, _, _]) ZC sizeOf3 rfl rfl (by first | rfl | assumption) rfl rfl) ?_))))))
            rintro _ w57 H57
            refine bP rfl (bF 0 underlying37 rfl sizeOf32 rfl (bF 8 underlying32 rfl sizeOf3 rfl (aG (aS 8 (l' := [_, _, _, _, _, _, _, _, _, _, _, _, _, _, _, _, _, _, _, _, _, _, _, _, _, _, _, _, _, _, _, _, _, _]) H57 sizeOf3 rfl rfl (by first | rfl | assumption) rfl rfl) ?_)))
            rintro _ w58 Rf
            refine aA (aj (ay (ah (aV rfl (aA (aj (aJ (aI (.inl rfl) results27 rfl ?_))))))))
            refine ⟨rfl, ?_⟩
            first
              | exact absurd (hw2.symm.trans hwh) (by decide)
              | exact absurd (hwh.symm.trans hw2) (by decide)
              | (rw [oq]; exact aB.dG dF bG Rf.f11.f11.f11.f11.f11.f11.f11.f11.f11.f11.f11)
          · (try simp only [aH] at h25)
            have oq := fM jM hon hrun h25
            refine aP (aj (ay (ah (aV rfl (aA (aj (aJ (aI (.inl rfl) results27 rfl ?_))))))))
            refine ⟨rfl, ?_⟩
            first
              | exact absurd (hw2.symm.trans hwh) (by decide)
              | exact absurd (hwh.symm.trans hw2) (by decide)
              | (rw [oq]; exact aB.dG dF bG ZC.f11.f11.f11.f11.f11.f11.f11.f11.f11.f11.f11)
      · (try simp only [aH] at h20)
        have hwh : s.whole = false := by simpa using h20
        have hty : s.typed = false := by unfold bg.typed; rw [hc3, hwh]; rfl
        have hrun : (s.typed && (!s.put.isEmpty || s.c.run)) = false := by rw [hty]; rfl
        refine bD (bD (bD (bD (bD (eG rfl rfl ?_)))))
        have hwo := qB (rO.f11)
        have ZE := rO.f11.right
        have HW0 := aB.xO (c := s.was) (u := [mZ, ng, ni, ny, nC, nD, nG, nH, nI, nJ, nK]) ZE hwo
        obtain ⟨s1, jM, PI⟩ : ∃ s1, s1 = s.dZ ∧ aB w0 (w3.drew) (dw e s1 • F) := ⟨_, hs1, aB.dG (hs1 ▸ pV dF) bG HW0.f11.f11.f11.f11.f11.f11.f11.f11.f11.f11⟩
        have hr1 : s1.c.run = s.c.run := by rw [jM]; unfold bg.dZ; split <;> rfl
        refine bZ rfl func96 (kU PI) ?_
        rintro _ YR U0
        obtain ⟨on, hon, HZ⟩ : ∃ on, (s.typed && s.c.run) = on ∧ aB w0 YR (dw e (s1.dJ on) • F) := ⟨_, by rw [hty]; rfl, U0⟩
        refine aA (aj (ay ?_))
        obtain ⟨qG, qH, qI, qJ, qK, qL, qM, qN, oU, mZ, ng, ni, ny, nC, nD, nG, nH, nI, nJ, nK, dF, bG, gK, dH⟩ := (HZ).Bf
        refine ah (aN rfl (aN rfl (fK rfl (fun h26 => ?_) (fun h26 => ?_))))
        · (try simp only [aH] at h26)
          have hw2 : s.whole = true := h26
          refine aZ (aN rfl (aZ (fK rfl (fun h27 => ?_) (fun h27 => ?_))))
          · (try simp only [aH] at h27)
            have hrun : (s.typed && (!s.put.isEmpty || s.c.run)) = true := by first | exact absurd (hw2.symm.trans hwh) (by decide) | (rw [lU, decide_eq_false (show ¬ s.put.length = 0 by omega), hty]; rfl)
            refine bD (bD (bD (bD (bD (aZ (fG rfl rfl (fG rfl rfl (bP rfl (bF 0 underlying37 rfl sizeOf32 rfl (bF 10 underlying32 rfl sizeOf4 rfl (aG (aS 10 (l' := [_, _, _, _, _, _, _, _, _, _, _, _, _, _, _, _, _, _, _, _, _, _, _, _, _, _, _, _, _, _, _, _, _, _]) dH sizeOf4 rfl rfl (by first | rfl | assumption) rfl rfl) ?_)))))))))))
            rintro _ w62 WE
            refine aA (aj (ay (ah (aN rfl (aN rfl (bP rfl (bF 28 underlying37 rfl sizeOf3 rfl (dV underlying3 rfl (WE).get.2 rfl (bP rfl (bF 0 underlying37 rfl sizeOf32 rfl (bF 6 underlying32 rfl sizeOf3 rfl (aG (aS 6 (l' := [_, _, _, _, _, _, _, _, _, _, _, _, _, _, _, _, _, _, _, _, _, _, _, _, _, _, _, _, _, _, _, _, _, _]) WE sizeOf3 rfl rfl (by first | rfl | assumption) rfl rfl) ?_))))))))))))
            rintro _ w63 WH
            refine aA (aj (ay (ay (ah (aN rfl (bP rfl (bF 28 underlying37 rfl sizeOf3 rfl (dV underlying3 rfl (WH).get.2 rfl (aX (dU rfl rfl) (aA (aj (aO rfl (fun h28 => ?_) (fun h28 => ?_)))))))))))))
            · (try simp only [aH] at h28)
              have oq := gQ jM hon hrun h28
              refine ah (aN rfl (aN rfl (bP rfl (bF 0 underlying37 rfl sizeOf32 rfl (bF 7 underlying32 rfl sizeOf3 rfl (aG (aS 7 (l' := [_, _, _, _, _, _, _, _, _, _, _, _, _, _, _, _, _, _, _, _, _, _, _, _, _, _, _, _, _, _, _, _, _, _]) WH sizeOf3 rfl rfl (by first | rfl | assumption) rfl rfl) ?_))))))
              rintro _ w64 WI
              refine bP rfl (bF 0 underlying37 rfl sizeOf32 rfl (bF 8 underlying32 rfl sizeOf3 rfl (aG (aS 8 (l' := [_, _, _, _, _, _, _, _, _, _, _, _, _, _, _, _, _, _, _, _, _, _, _, _, _, _, _, _, _, _, _, _, _, _]) WI sizeOf3 rfl rfl (by first | rfl | assumption) rfl rfl) ?_)))
              rintro _ w65 YS
              refine aA (aj (ay (ah (aV rfl (aA (aj (aJ (aI (.inl rfl) results27 rfl ?_))))))))
              refine ⟨rfl, ?_⟩
              first
                | exact absurd (hw2.symm.trans hwh) (by decide)
                | exact absurd (hwh.symm.trans hw2) (by decide)
                | (rw [oq]; exact aB.dG dF bG YS.f11.f11.f11.f11.f11.f11.f11.f11.f11.f11.f11)
            · (try simp only [aH] at h28)
              have oq := fM jM hon hrun h28
              refine aP (aj (ay (ah (aV rfl (aA (aj (aJ (aI (.inl rfl) results27 rfl ?_))))))))
              refine ⟨rfl, ?_⟩
              first
                | exact absurd (hw2.symm.trans hwh) (by decide)
                | exact absurd (hwh.symm.trans hw2) (by decide)
                | (rw [oq]; exact aB.dG dF bG WH.f11.f11.f11.f11.f11.f11.f11.f11.f11.f11.f11)
          · (try simp only [aH] at h27)
            have hrun : (s.typed && (!s.put.isEmpty || s.c.run)) = (s1.dJ on).c.run := by first | exact absurd (hw2.symm.trans hwh) (by decide) | (rw [lU, decide_eq_true (show s.put.length = 0 by omega), hty, uG, hr1]; rfl)
            refine aZ (aN rfl (aZ (bP rfl (aZ (bF 0 underlying37 rfl sizeOf32 rfl (aZ (bF 10 underlying32 rfl sizeOf4 rfl (aZ (dV underlying4 rfl (dH).get.2 rfl (aZ (eG rfl rfl (fG rfl rfl (bP rfl (bF 0 underlying37 rfl sizeOf32 rfl (bF 10 underlying32 rfl sizeOf4 rfl (aG (aS 10 (l' := [_, _, _, _, _, _, _, _, _, _, _, _, _, _, _, _, _, _, _, _, _, _, _, _, _, _, _, _, _, _, _, _, _, _]) dH sizeOf4 rfl rfl (by first | rfl | assumption) rfl rfl) ?_))))))))))))))))
            rintro _ w66 H66
            refine aA (aj (ay (ah (aN rfl (aN rfl (bP rfl (bF 28 underlying37 rfl sizeOf3 rfl (dV underlying3 rfl (H66).get.2 rfl (bP rfl (bF 0 underlying37 rfl sizeOf32 rfl (bF 6 underlying32 rfl sizeOf3 rfl (aG (aS 6 (l' := [_, _, _, _, _, _, _, _, _, _, _, _, _, _, _, _, _, _, _, _, _, _, _, _, _, _, _, _, _, _, _, _, _, _]) H66 sizeOf3 rfl rfl (by first | rfl | assumption) rfl rfl) ?_))))))))))))
            rintro _ w67 ZF
            refine aA (aj (ay (ay (ah (aN rfl (bP rfl (bF 28 underlying37 rfl sizeOf3 rfl (dV underlying3 rfl (ZF).get.2 rfl (aX (dU rfl rfl) (aA (aj (aO rfl (fun h29 => ?_) (fun h29 => ?_)))))))))))))
            · (try simp only [aH] at h29)
              have oq := gQ jM hon hrun h29
              refine ah (aN rfl (aN rfl (bP rfl (bF 0 underlying37 rfl sizeOf32 rfl (bF 7 underlying32 rfl sizeOf3 rfl (aG (aS 7 (l' := [_, _, _, _, _, _, _, _, _, _, _, _, _, _, _, _, _, _, _, _, _, _, _, _, _, _, _, _, _, _, _, _, _, _]) ZF sizeOf3 rfl rfl (by first | rfl | assumption) rfl rfl) ?_))))))
              rintro _ w68 Xu
              refine bP rfl (bF 0 underlying37 rfl sizeOf32 rfl (bF 8 underlying32 rfl sizeOf3 rfl (aG (aS 8 (l' := [_, _, _, _, _, _, _, _, _, _, _, _, _, _, _, _, _, _, _, _, _, _, _, _, _, _, _, _, _, _, _, _, _, _]) Xu sizeOf3 rfl rfl (by first | rfl | assumption) rfl rfl) ?_)))
              rintro _ w69 Xv
              refine aA (aj (ay (ah (aV rfl (aA (aj (aJ (aI (.inl rfl) results27 rfl ?_))))))))
              refine ⟨rfl, ?_⟩
              first
                | exact absurd (hw2.symm.trans hwh) (by decide)
                | exact absurd (hwh.symm.trans hw2) (by decide)
                | (rw [oq]; exact aB.dG dF bG Xv.f11.f11.f11.f11.f11.f11.f11.f11.f11.f11.f11)
            · (try simp only [aH] at h29)
              have oq := fM jM hon hrun h29
              refine aP (aj (ay (ah (aV rfl (aA (aj (aJ (aI (.inl rfl) results27 rfl ?_))))))))
              refine ⟨rfl, ?_⟩
              first
                | exact absurd (hw2.symm.trans hwh) (by decide)
                | exact absurd (hwh.symm.trans hw2) (by decide)
                | (rw [oq]; exact aB.dG dF bG ZF.f11.f11.f11.f11.f11.f11.f11.f11.f11.f11.f11)
        · (try simp only [aH] at h26)
          have hw2 : s.whole = false := by simpa using h26
          have hrun : (s.typed && (!s.put.isEmpty || s.c.run)) = false := by first | exact absurd (hwh.symm.trans hw2) (by decide) | (rw [hty]; rfl)
          refine bD (bD (jq (jq (jq (jq (jq (bD (eG rfl rfl (bP rfl (bF 0 underlying37 rfl sizeOf32 rfl (bF 10 underlying32 rfl sizeOf4 rfl (aG (aS 10 (l' := [_, _, _, _, _, _, _, _, _, _, _, _, _, _, _, _, _, _, _, _, _, _, _, _, _, _, _, _, _, _, _, _, _, _]) dH sizeOf4 rfl rfl (by first | rfl | assumption) rfl rfl) ?_))))))))))))
          rintro _ w70 WM
          refine aA (aj (ay (ah (aN rfl (aN rfl (bP rfl (bF 28 underlying37 rfl sizeOf3 rfl (dV underlying3 rfl (WM).get.2 rfl (bP rfl (bF 0 underlying37 rfl sizeOf32 rfl (bF 6 underlying32 rfl sizeOf3 rfl (aG (aS 6 (l' := [_, _, _, _, _, _, _, _, _, _, _, _, _, _, _, _, _, _, _, _, _, _, _, _, _, _, _, _, _, _, _, _, _, _]) WM sizeOf3 rfl rfl (by first | rfl | assumption) rfl rfl) ?_))))))))))))
          rintro _ w71 U1
          refine aA (aj (ay (ay (ah (aN rfl (bP rfl (bF 28 underlying37 rfl sizeOf3 rfl (dV underlying3 rfl (U1).get.2 rfl (aX (dU rfl rfl) (aA (aj (aO rfl (fun h30 => ?_) (fun h30 => ?_)))))))))))))
          · (try simp only [aH] at h30)
            have oq := gQ jM hon hrun h30
            refine ah (aN rfl (aN rfl (bP rfl (bF 0 underlying37 rfl sizeOf32 rfl (bF 7 underlying32 rfl sizeOf3 rfl (aG (aS 7 (l' := [_, _, _, _, _, _, _, _, _, _, _, _, _, _, _, _, _, _, _, _, _, _, _, _, _, _, _, _, _, _, _, _, _, _]) U1 sizeOf3 rfl rfl (by first | rfl | assumption) rfl rfl) ?_))))))
            rintro _ w72 YV
            refine bP rfl (bF 0 underlying37 rfl sizeOf32 rfl (bF 8 underlying32 rfl sizeOf3 rfl (aG (aS 8 (l' := [_, _, _, _, _, _, _, _, _, _, _, _, _, _, _, _, _, _, _, _, _, _, _, _, _, _, _, _, _, _, _, _, _, _]) YV sizeOf3 rfl rfl (by first | rfl | assumption) rfl rfl) ?_)))
            rintro _ w73 YW
            refine aA (aj (ay (ah (aV rfl (aA (aj (aJ (aI (.inl rfl) results27 rfl ?_))))))))
            refine ⟨rfl, ?_⟩
            first
              | exact absurd (hw2.symm.trans hwh) (by decide)
              | exact absurd (hwh.symm.trans hw2) (by decide)
              | (rw [oq]; exact aB.dG dF bG YW.f11.f11.f11.f11.f11.f11.f11.f11.f11.f11.f11)
          · (try simp only [aH] at h30)
            have oq := fM jM hon hrun h30
            refine aP (aj (ay (ah (aV rfl (aA (aj (aJ (aI (.inl rfl) results27 rfl ?_))))))))
            refine ⟨rfl, ?_⟩
            first
              | exact absurd (hw2.symm.trans hwh) (by decide)
              | exact absurd (hwh.symm.trans hw2) (by decide)
              | (rw [oq]; exact aB.dG dF bG U1.f11.f11.f11.f11.f11.f11.f11.f11.f11.f11.f11)
    · (try simp only [aH] at h19)
      have hty : s.typed = false := by unfold bg.typed; rw [beq_false_of_ne h19]; rfl
      have hrun : (s.typed && (!s.put.isEmpty || s.c.run)) = false := by rw [hty]; rfl
      refine zS 6 rfl rfl rfl rfl (by kernel_rfl) (by kernel_rfl) dM (oW rfl) ?_
      refine zS 7 rfl rfl rfl rfl (by kernel_rfl) (by kernel_rfl) dM (oW rfl) ?_
      refine zS 8 rfl rfl rfl rfl (by kernel_rfl) (by kernel_rfl) dM (oW rfl) ?_
      refine zS 9 rfl rfl rfl rfl (by kernel_rfl) (by kernel_rfl) dM (oW rfl) ?_
      refine jg 10 rfl dM (fun _ => BA rfl rfl) (iF 11 rfl dM rfl (jQ 12 rfl dM rfl (gV 13 rfl dM 33 underlying37 rfl sizeOf35 rfl (jk 14 rfl dM (fun W hW => jP underlying35 rfl ((Kp.h hW)).get.2 rfl) (jg 15 rfl dM (fun _ => iM ((rO.f9).aT) underlying35 rfl) (jg 16 rfl dM (fun _ => dn rfl rfl) (jg 17 rfl dM (fun _ => gG rfl) (jg 18 rfl dM (fun _ => gG rfl) (pO (aj (ay (ah (aN rfl (aN rfl (aN rfl (bD (bD (bD (bD (bD (eG rfl rfl ?_)))))))))))))))))))))
      have hwo := qB (rO.f11)
      have ZG := rO.f11.right
      have HW0 := aB.xO (c := s.was) (u := [mZ, ng, ni, ny, nC, nD, nG, nH, nI, nJ, nK]) ZG hwo
      obtain ⟨s1, jM, PI⟩ : ∃ s1, s1 = s.dZ ∧ aB w0 (w3.drew) (dw e s1 • F) := ⟨_, hs1, aB.dG (hs1 ▸ pV dF) bG HW0.f11.f11.f11.f11.f11.f11.f11.f11.f11.f11⟩
      have hr1 : s1.c.run = s.c.run := by rw [jM]; unfold bg.dZ; split <;> rfl
      refine bZ rfl func96 (kU PI) ?_
      rintro _ w75 H75
      obtain ⟨on, hon, HZ⟩ : ∃ on, (s.typed && s.c.run) = on ∧ aB w0 w75 (dw e (s1.dJ on) • F) := ⟨_, by rw [hty]; rfl, H75⟩
      refine aA (aj (ay ?_))
      obtain ⟨qG, qH, qI, qJ, qK, qL, qM, qN, oU, mZ, ng, ni, ny, nC, nD, nG, nH, nI, nJ, nK, dF, bG, gK, dH⟩ := (HZ).Bf
      refine ah (aN rfl (aN rfl (aN rfl (bD (bD (jq (jq (jq (jq (jq (bD (eG rfl rfl (bP rfl (bF 0 underlying37 rfl sizeOf32 rfl (bF 10 underlying32 rfl sizeOf4 rfl (aG (aS 10 (l' := [_, _, _, _, _, _, _, _, _, _, _, _, _, _, _, _, _, _, _, _, _, _, _, _, _, _, _, _, _, _, _, _, _, _]) dH sizeOf4 rfl rfl (by first | rfl | assumption) rfl rfl) ?_))))))))))))))))
      rintro _ w77 H77
      refine aA (aj (ay (ah (aN rfl (aN rfl (bP rfl (bF 28 underlying37 rfl sizeOf3 rfl (dV underlying3 rfl (H77).get.2 rfl (bP rfl (bF 0 underlying37 rfl sizeOf32 rfl (bF 6 underlying32 rfl sizeOf3 rfl (aG (aS 6 (l' := [_, _, _, _, _, _, _, _, _, _, _, _, _, _, _, _, _, _, _, _, _, _, _, _, _, _, _, _, _, _, _, _, _, _]) H77 sizeOf3 rfl rfl (by first | rfl | assumption) rfl rfl) ?_))))))))))))
      rintro _ w78 ZH
      refine aA (aj (ay (ay (ah (aN rfl (bP rfl (bF 28 underlying37 rfl sizeOf3 rfl (dV underlying3 rfl (ZH).get.2 rfl (aX (dU rfl rfl) (aA (aj (aO rfl (fun h31 => ?_) (fun h31 => ?_)))))))))))))
      · (try simp only [aH] at h31)
        have oq := gQ jM hon hrun h31
        refine ah (aN rfl (aN rfl (bP rfl (bF 0 underlying37 rfl sizeOf32 rfl (bF 7 underlying32 rfl sizeOf3 rfl (aG (aS 7 (l' := [_, _, _, _, _, _, _, _, _, _, _, _, _, _, _, _, _, _, _, _, _, _, _, _, _, _, _, _, _, _, _, _, _, _]) ZH sizeOf3 rfl rfl (by first | rfl | assumption) rfl rfl) ?_))))))
        rintro _ w79 H79
        refine bP rfl (bF 0 underlying37 rfl sizeOf32 rfl (bF 8 underlying32 rfl sizeOf3 rfl (aG (aS 8 (l' := [_, _, _, _, _, _, _, _, _, _, _, _, _, _, _, _, _, _, _, _, _, _, _, _, _, _, _, _, _, _, _, _, _, _]) H79 sizeOf3 rfl rfl (by first | rfl | assumption) rfl rfl) ?_)))
        rintro _ w80 H80
        refine aA (aj (ay (ah (aV rfl (aA (aj (aJ (aI (.inl rfl) results27 rfl ?_))))))))
        refine ⟨rfl, ?_⟩
        first
          | exact absurd (hw2.symm.trans hwh) (by decide)
          | exact absurd (hwh.symm.trans hw2) (by decide)
          | (rw [oq]; exact aB.dG dF bG H80.f11.f11.f11.f11.f11.f11.f11.f11.f11.f11.f11)
      · (try simp only [aH] at h31)
        have oq := fM jM hon hrun h31
        refine aP (aj (ay (ah (aV rfl (aA (aj (aJ (aI (.inl rfl) results27 rfl ?_))))))))
        refine ⟨rfl, ?_⟩
        first
          | exact absurd (hw2.symm.trans hwh) (by decide)
          | exact absurd (hwh.symm.trans hw2) (by decide)
          | (rw [oq]; exact aB.dG dF bG ZH.f11.f11.f11.f11.f11.f11.f11.f11.f11.f11.f11)
theorem E8 {s : bg} {x : Int} (hin : s.dP = true) (hx : x ≠ 0) : s.gq x = s.uz ∧ s.qo x = x := by
  unfold bg.gq bg.qo
  rw [if_pos hin, if_neg hx, if_pos hin]; exact ⟨rfl, rfl⟩
theorem PK {s : bg} (h : jV s) (hin : s.dP = true) : jV s.uz := by
  obtain ⟨h1, h2, h3⟩ := h.2.1 hin
  exact ⟨h1, fun h => Bool.noConfusion h, ⟨by show (-1 : Int) ≤ -1; decide, by show (-1 : Int) ≤ 1000000; decide⟩, by simp [bg.uz], h2, h3⟩
theorem Kz (hin : s.dP = true) (hx : x ≠ 0) (H : aB w0 w (dw e s • F)) : fO prog 27 #[.pointer (some ⟨e, 0, none⟩), .int .i64 x] w fun v w' => v = .int .i64 x ∧ aB w0 w' (dw e s.uz • F) := by
 have hpe : s.sU = 0 := by unfold bg.sU; rw [if_pos hin]
 refine gB func27 ntmps27 ?_
 dsimp only [bf, Nat.reduceAdd]
 refine ay (ah (aV rfl (aA (aj (ay (ay (ah (aN rfl (bZ rfl func94 (jE H) ?_)))))))))
 rintro _ _ ⟨rfl, rfl⟩
 refine aV rfl (aA (aj (ay (ah (aN rfl (aX (dU rfl rfl) (aA (aj (aO rfl (fun h => by exfalso; (try simp only [aH] at h); exact h hpe) (fun h1 => ?_))))))))))
 (try simp only [aH] at h1)
 refine aP (aj (ay ?_))
 obtain ⟨qG, qH, qI, qJ, qK, qL, qM, qN, oU, mZ, ng, ni, ny, nC, nD, nG, nH, nI, nJ, nK, dF, bG, gK, dH⟩ := (H).Bf
 have HI := dH
 rw [hin] at HI
 obtain ⟨qb, qr, qw, qt, qm, hu, HW⟩ := (HI.f11).was
 simp only [Lm, List.cons.injEq, and_true] at hu
 obtain ⟨rfl, rfl, rfl, rfl, rfl, rfl, rfl, rfl, rfl, rfl, rfl⟩ := hu
 refine ah (aN rfl (bP rfl (bF 16 underlying37 rfl sizeOf4 rfl (aG (aS 16 (l' := [_, _, _, _, _, _, _, _, _, _, _, _, _, _, _, _, _, _, _, _, _, _, _, _, _, _, _, _, _, _, _, _, _, _]) HW.f6 sizeOf4 rfl rfl (by first | rfl | assumption) rfl rfl) ?_))))
 rintro _ w3 H3
 refine aA (aj (ay (ay (ah (aN rfl (bP rfl (bF 31 underlying37 rfl sizeOf4 rfl (dV underlying4 rfl (H3).get.2 rfl (aX (kF rfl) (fK rfl (fun h2 => ?_) (fun h2 => ?_)))))))))))
 ·(try simp only [aH] at h2)
  refine bD (bD (fG rfl rfl (aA (aj (uX (ah (aN rfl (aN rfl (aN rfl (bP rfl (bF 13 underlying37 rfl sizeOf4 rfl (aG (aS 13 (l' := [_, _, _, _, _, _, _, _, _, _, _, _, _, _, _, _, _, _, _, _, _, _, _, _, _, _, _, _, _, _, _, _, _, _]) H3 sizeOf4 rfl rfl (by first | rfl | assumption) rfl rfl) ?_))))))))))))
  rintro _ w4 H4
  refine bP rfl (bF 14 underlying37 rfl sizeOf4 rfl (aG (aS 14 (l' := [_, _, _, _, _, _, _, _, _, _, _, _, _, _, _, _, _, _, _, _, _, _, _, _, _, _, _, _, _, _, _, _, _, _]) H4 sizeOf4 rfl rfl (by first | rfl | assumption) rfl rfl) ?_))
  rintro _ w5 H5
  refine bP rfl (bF 15 underlying37 rfl sizeOf3 rfl (aG (aS 15 (l' := [_, _, _, _, _, _, _, _, _, _, _, _, _, _, _, _, _, _, _, _, _, _, _, _, _, _, _, _, _, _, _, _, _, _]) H5 sizeOf3 rfl rfl (by first | rfl | assumption) rfl rfl) ?_))
  rintro _ w6 H6
  refine aA (aj (ay (ay (ah (aN rfl (aX (dU rfl rfl) (aA (aj (aO rfl (fun h3 => ?_) (fun h => by exfalso; (try simp only [aH] at h); exact hx h))))))))))
  (try simp only [aH] at h3)
  refine ay (ah (aN rfl (aN rfl (bP rfl (bF 17 underlying37 rfl sizeOf32 rfl (aX (qQ 17 (xs := [_, _, _, _, _, _, _, _, _, _, _]) underlying32 rfl sizeOf32 rfl rfl (H6).get.2 rfl) (bP rfl (bF 0 underlying37 rfl sizeOf32 rfl (aG (cZ 0 (l' := [_, _, _, _, _, _, _, _, _, _, _, _, _, _, _, _, _, _, _, _, _, _, _, _, _, _, _, _, _, _, _, _, _, _]) (us := [_, _, _, _, _, _, _, _, _, _, _]) H6 sizeOf32 rfl rfl rfl (aC (by first | rfl | assumption) (aC (by first | rfl | assumption) (aC (by first | rfl | assumption) (aC (by first | rfl | assumption) (aC (by first | rfl | assumption) (aC (by first | rfl | assumption) (aC (by first | rfl | assumption) (aC (by first | rfl | assumption) (aC (by first | rfl | assumption) (aC (by first | rfl | assumption) (aC (by first | rfl | assumption) bV))))))))))) rfl rfl) ?_)))))))))
  rintro _ w7 H7
  refine aA (aj (ay (ah (aN rfl (bP rfl (bF 12 underlying37 rfl sizeOf34 rfl (dV underlying34 rfl (H7).get.2 rfl (bZ rfl func95 (yP H7.f13) ?_))))))))
  rintro _ w8 ⟨rfl, H8⟩
  refine aA (aj (ay (ah (aN rfl (aN rfl (aN rfl (aN rfl (bP rfl (bF 0 underlying37 rfl sizeOf32 rfl (bF 6 underlying32 rfl sizeOf3 rfl (aG (aS 6 (l' := [_, _, _, _, _, _, _, _, _, _, _, _, _, _, _, _, _, _, _, _, _, _, _, _, _, _, _, _, _, _, _, _, _, _]) H8.f2 sizeOf3 rfl rfl (by first | rfl | assumption) rfl rfl) ?_)))))))))))
  rintro _ w9 H9
  refine bP rfl (bF 0 underlying37 rfl sizeOf32 rfl (bF 7 underlying32 rfl sizeOf3 rfl (aG (aS 7 (l' := [_, _, _, _, _, _, _, _, _, _, _, _, _, _, _, _, _, _, _, _, _, _, _, _, _, _, _, _, _, _, _, _, _, _]) H9 sizeOf3 rfl rfl (by first | rfl | assumption) rfl rfl) ?_)))
  rintro _ w10 nO
  refine bP rfl (bF 0 underlying37 rfl sizeOf32 rfl (bF 8 underlying32 rfl sizeOf3 rfl (aG (aS 8 (l' := [_, _, _, _, _, _, _, _, _, _, _, _, _, _, _, _, _, _, _, _, _, _, _, _, _, _, _, _, _, _, _, _, _, _]) nO sizeOf3 rfl rfl (by first | rfl | assumption) rfl rfl) ?_)))
  rintro _ Hz vk
  refine bP rfl (bF 33 underlying37 rfl sizeOf35 rfl (aG (aS 33 (l' := [_, _, _, _, _, _, _, _, _, _, _, _, _, _, _, _, _, _, _, _, _, _, _, _, _, _, _, _, _, _, _, _, _, _]) vk sizeOf35 rfl rfl (by first | rfl | assumption) rfl rfl) ?_))
  rintro _ w12 wP
  refine aA (aj (ay (ah (aN rfl (aV rfl (aA (aj (aJ (aK (aI (.inl rfl) results27 rfl ?_))))))))))
  exact ⟨rfl, aB.Ko (s := s.uz) (PK dF hin) rfl rfl wP.f8.right.f8.right.f8.right.f8.right.f8.right.f9.right.f9.right.f2.f8.f8.f8.f8.f8.f8.f8⟩
 ·(try simp only [aH] at h2)
  refine aZ (aN rfl (aZ (aX (dU rfl rfl) (eG rfl rfl (aA (aj (aO rfl (fun h4 => ?_) (fun h => by exfalso; (try simp only [aH] at h); exact hx h))))))))
  (try simp only [aH] at h4)
  refine ah (aN rfl (aN rfl (aN rfl (bP rfl (bF 13 underlying37 rfl sizeOf4 rfl (aG (aS 13 (l' := [_, _, _, _, _, _, _, _, _, _, _, _, _, _, _, _, _, _, _, _, _, _, _, _, _, _, _, _, _, _, _, _, _, _]) H3 sizeOf4 rfl rfl (by first | rfl | assumption) rfl rfl) ?_))))))
  rintro _ MN uO
  refine bP rfl (bF 14 underlying37 rfl sizeOf4 rfl (aG (aS 14 (l' := [_, _, _, _, _, _, _, _, _, _, _, _, _, _, _, _, _, _, _, _, _, _, _, _, _, _, _, _, _, _, _, _, _, _]) uO sizeOf4 rfl rfl (by first | rfl | assumption) rfl rfl) ?_))
  rintro _ Jw xE
  refine bP rfl (bF 15 underlying37 rfl sizeOf3 rfl (aG (aS 15 (l' := [_, _, _, _, _, _, _, _, _, _, _, _, _, _, _, _, _, _, _, _, _, _, _, _, _, _, _, _, _, _, _, _, _, _]) xE sizeOf3 rfl rfl (by first | rfl | assumption) rfl rfl) ?_))
  rintro _ MO uf
  refine aA (aj (ay (ay (ah (aN rfl (aX (dU rfl rfl) (aA (aj (aO rfl (fun h5 => ?_) (fun h => by exfalso; (try simp only [aH] at h); exact hx h))))))))))
  (try simp only [aH] at h5)
  refine ay (ah (aN rfl (aN rfl (bP rfl (bF 17 underlying37 rfl sizeOf32 rfl (aX (qQ 17 (xs := [_, _, _, _, _, _, _, _, _, _, _]) underlying32 rfl sizeOf32 rfl rfl (uf).get.2 rfl) (bP rfl (bF 0 underlying37 rfl sizeOf32 rfl (aG (cZ 0 (l' := [_, _, _, _, _, _, _, _, _, _, _, _, _, _, _, _, _, _, _, _, _, _, _, _, _, _, _, _, _, _, _, _, _, _]) (us := [_, _, _, _, _, _, _, _, _, _, _]) uf sizeOf32 rfl rfl rfl (aC (by first | rfl | assumption) (aC (by first | rfl | assumption) (aC (by first | rfl | assumption) (aC (by first | rfl | assumption) (aC (by first | rfl | assumption) (aC (by first | rfl | assumption) (aC (by first | rfl | assumption) (aC (by first | rfl | assumption) (aC (by first | rfl | assumption) (aC (by first | rfl | assumption) (aC (by first | rfl | assumption) bV))))))))))) rfl rfl) ?_)))))))))
  rintro _ w16 rZ
  refine aA (aj (ay (ah (aN rfl (bP rfl (bF 12 underlying37 rfl sizeOf34 rfl (dV underlying34 rfl (rZ).get.2 rfl (bZ rfl func95 (yP rZ.f13) ?_))))))))
  rintro _ RX ⟨rfl, Ac⟩
  refine aA (aj (ay (ah (aN rfl (aN rfl (aN rfl (aN rfl (bP rfl (bF 0 underlying37 rfl sizeOf32 rfl (bF 6 underlying32 rfl sizeOf3 rfl (aG (aS 6 (l' := [_, _, _, _, _, _, _, _, _, _, _, _, _, _, _, _, _, _, _, _, _, _, _, _, _, _, _, _, _, _, _, _, _, _]) Ac.f2 sizeOf3 rfl rfl (by first | rfl | assumption) rfl rfl) ?_)))))))))))
  rintro _ Qc zY
  refine bP rfl (bF 0 underlying37 rfl sizeOf32 rfl (bF 7 underlying32 rfl sizeOf3 rfl (aG (aS 7 (l' := [_, _, _, _, _, _, _, _, _, _, _, _, _, _, _, _, _, _, _, _, _, _, _, _, _, _, _, _, _, _, _, _, _, _]) zY sizeOf3 rfl rfl (by first | rfl | assumption) rfl rfl) ?_)))
  rintro _ Qe Au
  refine bP rfl (bF 0 underlying37 rfl sizeOf32 rfl (bF 8 underlying32 rfl sizeOf3 rfl (aG (aS 8 (l' := [_, _, _, _, _, _, _, _, _, _, _, _, _, _, _, _, _, _, _, _, _, _, _, _, _, _, _, _, _, _, _, _, _, _]) Au sizeOf3 rfl rfl (by first | rfl | assumption) rfl rfl) ?_)))
  rintro _ Qd uZ
  refine bP rfl (bF 33 underlying37 rfl sizeOf35 rfl (aG (aS 33 (l' := [_, _, _, _, _, _, _, _, _, _, _, _, _, _, _, _, _, _, _, _, _, _, _, _, _, _, _, _, _, _, _, _, _, _]) uZ sizeOf35 rfl rfl (by first | rfl | assumption) rfl rfl) ?_))
  rintro _ QC oN
  refine aA (aj (ay (ah (aN rfl (aV rfl (aA (aj (aJ (aK (aI (.inl rfl) results27 rfl ?_))))))))))
  exact ⟨rfl, aB.Ko (s := s.uz) (PK dF hin) rfl rfl oN.f8.right.f8.right.f8.right.f8.right.f8.right.f9.right.f9.right.f2.f8.f8.f8.f8.f8.f8.f8⟩
theorem DJ (H : aB w0 w (dw e s • F)) : fO prog 27 #[.pointer (some ⟨e, 0, none⟩), .int .i64 x] w fun v w' => v = .int .i64 (s.qo x) ∧ aB w0 w' (dw e (s.gq x) • F) := by
 by_cases hin : s.dP = true
 ·by_cases hx : x = 0
  ·subst hx
   rw [show s.gq 0 = s.iW from by unfold bg.gq; rw [if_pos hin, if_pos rfl], show s.qo 0 = 0 from by unfold bg.qo; rw [if_pos hin]]
   exact Jc hin H
  ·rw [(E8 hin hx).1, (E8 hin hx).2]
   exact Kz hin hx H
 ·have hin' : s.dP = false := by simpa using hin
  have hpe : s.sU = 1 := by unfold bg.sU; rw [if_neg hin]
  rw [show s.gq x = s from by unfold bg.gq; rw [if_neg hin], show s.qo x = 1 from by unfold bg.qo; rw [if_neg hin]]
  refine gB func27 ntmps27 ?_
  dsimp only [bf, Nat.reduceAdd]
  refine ay (ah (aV rfl (aA (aj (ay (ay (ah (aN rfl (bZ rfl func94 (jE H) ?_)))))))))
  rintro _ _ ⟨rfl, rfl⟩
  refine aV rfl (aA (aj (ay (ah (aN rfl (aX (dU rfl rfl) (aA (aj (aO rfl (fun h1 => ?_) (fun h => by exfalso; (try simp only [aH] at h); rw [hpe] at h; exact absurd h (by decide)))))))))))
  (try simp only [aH] at h1)
  refine ay (ah (aN rfl (aV rfl (aA (aj (aJ (aK (aI (.inl rfl) results27 rfl ?_))))))))
  rw [hpe]
  exact ⟨rfl, H⟩
end
end Go.Proofs.YtgndbccogcofjaaGreatDoor
end
