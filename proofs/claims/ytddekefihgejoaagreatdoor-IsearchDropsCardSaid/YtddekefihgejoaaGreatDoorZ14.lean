import Derived.Test.YtddekefihgejoaaGreatDoorZ2
import Derived.Test.YtddekefihgejoaaGreatDoorZ13
set_option linter.unusedSimpArgs false
set_option linter.unusedVariables false
/- Texts of mine, joined, their names in short: EdE. -/
section
namespace Go.Proofs.YtddekefihgejoaaGreatDoor
open Go.RowKit
open _root_.Go.Proofs.Tryz
theorem wG (s : bH) (on : Bool) : (s.dF on).c.run = s.c.run := by unfold bH.dF; split <;> rfl
theorem EN (s : bH) (on : Bool) : (s.dF on).cls = s.cls := by unfold bH.dF; split <;> rfl
theorem iD {s s1 : bH} {on run : Bool} (h1 : s1 = s.gX) (hon : (s.typed && s.c.run) = on) (hrun : (s.typed && (!s.put.isEmpty || s.c.run)) = run) (h2 : (s1.dF on).cls ≠ 2) :
    s.lH = { s1.dF on with c := { (s1.dF on).c with run := run, last := (s1.dF on).cls, fr := 0, to := 0 } } := by
  subst h1 hon hrun
  have hc : (s.gX.dF (s.typed && s.c.run)).cls = s.cls := by rw [EN]; unfold bH.gX; split <;> rfl
  unfold bH.lH
  rw [hc] at h2 ⊢
  dsimp only
  rw [if_pos h2]
theorem gy {s s1 : bH} {on run : Bool} (h1 : s1 = s.gX) (hon : (s.typed && s.c.run) = on) (hrun : (s.typed && (!s.put.isEmpty || s.c.run)) = run) (h2 : (s1.dF on).cls = 2) :
    s.lH = { s1.dF on with c := { (s1.dF on).c with run := run, last := (s1.dF on).cls } } := by
  subst h1 hon hrun
  have hc : (s.gX.dF (s.typed && s.c.run)).cls = s.cls := by rw [EN]; unfold bH.gX; split <;> rfl
  unfold bH.lH
  rw [hc] at h2 ⊢
  dsimp only
  rw [if_neg (by omega)]
theorem rP {s : bH} (h : kF s) : kF s.gX := by
  obtain ⟨h1, h2, h3, h4, h5, h6⟩ := h
  unfold bH.gX
  split
  · exact ⟨h1, fun h => Bool.noConfusion h, h3, h4, h5, h6⟩
  · exact ⟨h1, fun h => Bool.noConfusion h, ⟨by show (-1 : Int) ≤ -1; decide, by show (-1 : Int) ≤ 1000000; decide⟩, h4, h5, h6⟩
theorem kL {l : List fG} : l.isEmpty = decide (l.length = 0) := by cases l <;> rfl
section
variable {w0 w : World} {F : HP} {e p : Nat} {s : bH} {x : Int}
theorem Kr (hin : s.inn = true) (H : aA w0 w (dN e s • F)) : fQ prog 37 #[.pointer (some ⟨e, 0, none⟩), .int .i64 0] w fun v w' => v = .int .i64 0 ∧ aA w0 w' (dN e s.lH • F) := by
  have hpe : s.uU = 0 := by unfold bH.uU; rw [if_pos hin]
  refine iw func37 ntmps37 ?_
  dsimp only [aZ, Nat.reduceAdd]
  refine ay (ah (aW rfl (aB (aj (ay (ay (ah (aP rfl (dD rfl func81 (lq H) ?_)))))))))
  rintro _ _ ⟨rfl, rfl⟩
  refine aW rfl (aB (aj (ay (ah (aP rfl (aU (dG rfl rfl) (aB (aj (aO rfl (fun h => by exfalso; (try simp only [aG] at h); exact h hpe) (fun h1 => ?_))))))))))
  (try simp only [aG] at h1)
  refine aQ (aj (ay ?_))
  obtain ⟨qZ, ru, rC, rD, rE, rF, rG, rH, oL, mZ, ng, ni, ny, nC, nD, nG, nH, nI, nJ, nK, dL, bM, iC, eU⟩ := (H).Ey
  refine ah (aP rfl (bT rfl (bf 16 underlying69 rfl sizeOf4 rfl (aI (aS 16 (l' := [_, _, _, _, _, _, _, _, _, _, _, _, _, _, _, _, _, _, _, _, _, _, _, _, _, _, _, _, _, _, _, _, _, _]) eU sizeOf4 rfl rfl (by first | rfl | assumption) rfl rfl) ?_))))
  rintro _ w3 H3
  refine aB (aj (ay (ay (ah (aP rfl (bT rfl (bf 31 underlying69 rfl sizeOf4 rfl (dA underlying4 rfl (H3).get.2 rfl (aU (jT rfl) (jL rfl (fun h2 => ?_) (fun h2 => ?_)))))))))))
  · (try simp only [aG] at h2)
    have har : s.argues = false := by simpa using h2
    have hs1 : ({ s.zU with inn := false } : bH) = s.gX := by unfold bH.gX; rw [if_neg (by simp [har])]
    refine bK (bK (jP rfl rfl (aB (aj (Dj (ah (aP rfl (aP rfl (aP rfl (bT rfl (bf 13 underlying69 rfl sizeOf4 rfl (aI (aS 13 (l' := [_, _, _, _, _, _, _, _, _, _, _, _, _, _, _, _, _, _, _, _, _, _, _, _, _, _, _, _, _, _, _, _, _, _]) H3 sizeOf4 rfl rfl (by first | rfl | assumption) rfl rfl) ?_))))))))))))
    rintro _ w4 H4
    refine bT rfl (bf 14 underlying69 rfl sizeOf4 rfl (aI (aS 14 (l' := [_, _, _, _, _, _, _, _, _, _, _, _, _, _, _, _, _, _, _, _, _, _, _, _, _, _, _, _, _, _, _, _, _, _]) H4 sizeOf4 rfl rfl (by first | rfl | assumption) rfl rfl) ?_))
    rintro _ w5 H5
    refine bT rfl (bf 15 underlying69 rfl sizeOf3 rfl (aI (aS 15 (l' := [_, _, _, _, _, _, _, _, _, _, _, _, _, _, _, _, _, _, _, _, _, _, _, _, _, _, _, _, _, _, _, _, _, _]) H5 sizeOf3 rfl rfl (by first | rfl | assumption) rfl rfl) ?_))
    rintro _ w6 H6
    refine aB (aj (ay (ay (ah (aP rfl (aU (dG rfl rfl) (aB (aj (aO rfl (fun h => by exfalso; (try simp only [aG] at h); simp at h) (fun h3 => ?_))))))))))
    (try simp only [aG] at h3)
    refine aQ (aj (ay ?_))
    have EO := H6.drew
    have fZ := aA.kp (EO.f11.f11.f11.f11.f11.f11.f11.f11.f11.f11.f11)
    refine vJ [3, 9, 14] fZ rfl (fU 0 rfl fZ rfl (iZ 1 rfl fZ rfl (dU 2 rfl fZ 28 underlying69 rfl sizeOf3 rfl (gG 3 rfl fZ (fun W hW => iF underlying3 rfl ((Kp.h hW)).get.2 rfl) (gZ 4 rfl fZ (fun _ => iQ rfl rfl) ?_)))))
    refine uD 5 rfl rfl (by kernel_rfl) (by kernel_rfl) fZ (jg rfl) (fun h4 => ?_) (fun h4 => ?_)
    · (try simp only [aG] at h4)
      have hc3 : s.cls = 3 := h4
      refine cZ 6 rfl rfl rfl (by kernel_rfl) (by kernel_rfl) fZ (fun _ => yL rfl) (jg rfl) ?_
      refine cZ 7 rfl rfl rfl (by kernel_rfl) (by kernel_rfl) fZ (fun _ => Nq rfl) (jg rfl) ?_
      refine cZ 8 rfl rfl rfl (by kernel_rfl) (by kernel_rfl) fZ (fun _ => kC 32 underlying69 rfl rfl sizeOf4 (by decide) rfl rfl) (jg rfl) ?_
      refine iE 9 rfl rfl rfl (by kernel_rfl) (by kernel_rfl) fZ (by decide) (fun W hW => dB (bG underlying4 rfl) rfl (dH ((Kp.h hW)).get.2 rfl)) (jg rfl) ?_
      refine gZ 10 rfl fZ (fun _ => nS rfl rfl) (fU 11 rfl fZ rfl (iZ 12 rfl fZ rfl (dU 13 rfl fZ 33 underlying69 rfl sizeOf67 rfl (gG 14 rfl fZ (fun W hW => iF underlying67 rfl ((Kp.h hW)).get.2 rfl) (gZ 15 rfl fZ (fun _ => eY ((EO.f9).aJ) underlying67 rfl) (gZ 16 rfl fZ (fun _ => gU rfl rfl) (gZ 17 rfl fZ (fun _ => eX rfl) (gZ 18 rfl fZ (fun _ => eX rfl) (mD (aj (ay (ah (aP rfl (aP rfl (jL rfl (fun h5 => ?_) (fun h5 => ?_))))))))))))))))
      · (try simp only [aG] at h5)
        have hwh : s.whole = true := h5
        have hty : s.typed = true := by unfold bH.typed; rw [hc3, hwh]; rfl
        refine bn (aP rfl (bn (bT rfl (bn (bf 0 underlying69 rfl sizeOf64 rfl (bn (bf 10 underlying64 rfl sizeOf4 rfl (bn (dA underlying4 rfl (EO).get.2 rfl (jP rfl rfl ?_))))))))))
        have Rx := EO.f11.right
        have HW0 := aA.yX (c := s.was) (u := [mZ, ng, ni, ny, nC, nD, nG, nH, nI, nJ, nK]) Rx
        obtain ⟨s1, jY, SQ⟩ : ∃ s1, s1 = s.gX ∧ aA w0 (w6.drew) (dN e s1 • F) := ⟨_, hs1, aA.eG (hs1 ▸ rP dL) bM HW0.f11.f11.f11.f11.f11.f11.f11.f11.f11.f11⟩
        have hr1 : s1.c.run = s.c.run := by rw [jY]; unfold bH.gX; split <;> rfl
        refine dD rfl func83 (jX SQ) ?_
        rintro _ w8 H8
        obtain ⟨on, hon, HZ⟩ : ∃ on, (s.typed && s.c.run) = on ∧ aA w0 w8 (dN e (s1.dF on) • F) := ⟨_, by rw [hty]; rfl, H8⟩
        refine aB (aj (ay ?_))
        obtain ⟨qZ, ru, rC, rD, rE, rF, rG, rH, oL, mZ, ng, ni, ny, nC, nD, nG, nH, nI, nJ, nK, dL, bM, iC, eU⟩ := (HZ).Ey
        refine ah (aP rfl (aP rfl (jL rfl (fun h6 => ?_) (fun h6 => ?_))))
        · (try simp only [aG] at h6)
          have hw2 : s.whole = true := h6
          refine bn (aP rfl (bn (jL rfl (fun h7 => ?_) (fun h7 => ?_))))
          · (try simp only [aG] at h7)
            have hrun : (s.typed && (!s.put.isEmpty || s.c.run)) = true := by first | exact absurd (hw2.symm.trans hwh) (by decide) | (rw [kL, decide_eq_false (show ¬ s.put.length = 0 by omega), hty]; rfl)
            refine bK (bK (bK (bK (bK (bn (jP rfl rfl (jP rfl rfl (bT rfl (bf 0 underlying69 rfl sizeOf64 rfl (bf 10 underlying64 rfl sizeOf4 rfl (aI (aS 10 (l' := [_, _, _, _, _, _, _, _, _, _, _, _, _, _, _, _, _, _, _, _, _, _, _, _, _, _, _, _, _, _, _, _, _, _]) eU sizeOf4 rfl rfl (by first | rfl | assumption) rfl rfl) ?_)))))))))))
            rintro _ w10 qK
            refine aB (aj (ay (ah (aP rfl (aP rfl (bT rfl (bf 28 underlying69 rfl sizeOf3 rfl (dA underlying3 rfl (qK).get.2 rfl (bT rfl (bf 0 underlying69 rfl sizeOf64 rfl (bf 6 underlying64 rfl sizeOf3 rfl (aI (aS 6 (l' := [_, _, _, _, _, _, _, _, _, _, _, _, _, _, _, _, _, _, _, _, _, _, _, _, _, _, _, _, _, _, _, _, _, _]) qK sizeOf3 rfl rfl (by first | rfl | assumption) rfl rfl) ?_))))))))))))
            rintro _ IV vK
            refine aB (aj (ay (ay (ah (aP rfl (bT rfl (bf 28 underlying69 rfl sizeOf3 rfl (dA underlying3 rfl (vK).get.2 rfl (aU (dG rfl rfl) (aB (aj (aO rfl (fun h8 => ?_) (fun h8 => ?_)))))))))))))
            · (try simp only [aG] at h8)
              have pq := iD jY hon hrun h8
              refine ah (aP rfl (aP rfl (bT rfl (bf 0 underlying69 rfl sizeOf64 rfl (bf 7 underlying64 rfl sizeOf3 rfl (aI (aS 7 (l' := [_, _, _, _, _, _, _, _, _, _, _, _, _, _, _, _, _, _, _, _, _, _, _, _, _, _, _, _, _, _, _, _, _, _]) vK sizeOf3 rfl rfl (by first | rfl | assumption) rfl rfl) ?_))))))
              rintro _ w12 vM
              refine bT rfl (bf 0 underlying69 rfl sizeOf64 rfl (bf 8 underlying64 rfl sizeOf3 rfl (aI (aS 8 (l' := [_, _, _, _, _, _, _, _, _, _, _, _, _, _, _, _, _, _, _, _, _, _, _, _, _, _, _, _, _, _, _, _, _, _]) vM sizeOf3 rfl rfl (by first | rfl | assumption) rfl rfl) ?_)))
              rintro _ OY xq
              refine aB (aj (ay (ah (aW rfl (aB (aj (aN (aT (.inl rfl) results37 rfl ?_))))))))
              refine ⟨rfl, ?_⟩
              first
                | exact absurd (hw2.symm.trans hwh) (by decide)
                | exact absurd (hwh.symm.trans hw2) (by decide)
                | (rw [pq]; exact aA.eG dL bM xq.f11.f11.f11.f11.f11.f11.f11.f11.f11.f11.f11)
            · (try simp only [aG] at h8)
              have pq := gy jY hon hrun h8
              refine aQ (aj (ay (ah (aW rfl (aB (aj (aN (aT (.inl rfl) results37 rfl ?_))))))))
              refine ⟨rfl, ?_⟩
              first
                | exact absurd (hw2.symm.trans hwh) (by decide)
                | exact absurd (hwh.symm.trans hw2) (by decide)
                | (rw [pq]; exact aA.eG dL bM vK.f11.f11.f11.f11.f11.f11.f11.f11.f11.f11.f11)
          · (try simp only [aG] at h7)
            have hrun : (s.typed && (!s.put.isEmpty || s.c.run)) = (s1.dF on).c.run := by first | exact absurd (hw2.symm.trans hwh) (by decide) | (rw [kL, decide_eq_true (show s.put.length = 0 by omega), hty, wG, hr1]; rfl)
            refine bn (aP rfl (bn (bT rfl (bn (bf 0 underlying69 rfl sizeOf64 rfl (bn (bf 10 underlying64 rfl sizeOf4 rfl (bn (dA underlying4 rfl (eU).get.2 rfl (bn (jd rfl rfl (jP rfl rfl (bT rfl (bf 0 underlying69 rfl sizeOf64 rfl (bf 10 underlying64 rfl sizeOf4 rfl (aI (aS 10 (l' := [_, _, _, _, _, _, _, _, _, _, _, _, _, _, _, _, _, _, _, _, _, _, _, _, _, _, _, _, _, _, _, _, _, _]) eU sizeOf4 rfl rfl (by first | rfl | assumption) rfl rfl) ?_))))))))))))))))
            rintro _ OZ yR
            refine aB (aj (ay (ah (aP rfl (aP rfl (bT rfl (bf 28 underlying69 rfl sizeOf3 rfl (dA underlying3 rfl (yR).get.2 rfl (bT rfl (bf 0 underlying69 rfl sizeOf64 rfl (bf 6 underlying64 rfl sizeOf3 rfl (aI (aS 6 (l' := [_, _, _, _, _, _, _, _, _, _, _, _, _, _, _, _, _, _, _, _, _, _, _, _, _, _, _, _, _, _, _, _, _, _]) yR sizeOf3 rfl rfl (by first | rfl | assumption) rfl rfl) ?_))))))))))))
            rintro _ QV xu
            refine aB (aj (ay (ay (ah (aP rfl (bT rfl (bf 28 underlying69 rfl sizeOf3 rfl (dA underlying3 rfl (xu).get.2 rfl (aU (dG rfl rfl) (aB (aj (aO rfl (fun h9 => ?_) (fun h9 => ?_)))))))))))))
            · (try simp only [aG] at h9)
              have pq := iD jY hon hrun h9
              refine ah (aP rfl (aP rfl (bT rfl (bf 0 underlying69 rfl sizeOf64 rfl (bf 7 underlying64 rfl sizeOf3 rfl (aI (aS 7 (l' := [_, _, _, _, _, _, _, _, _, _, _, _, _, _, _, _, _, _, _, _, _, _, _, _, _, _, _, _, _, _, _, _, _, _]) xu sizeOf3 rfl rfl (by first | rfl | assumption) rfl rfl) ?_))))))
              rintro _ w16 sW
              refine bT rfl (bf 0 underlying69 rfl sizeOf64 rfl (bf 8 underlying64 rfl sizeOf3 rfl (aI (aS 8 (l' := [_, _, _, _, _, _, _, _, _, _, _, _, _, _, _, _, _, _, _, _, _, _, _, _, _, _, _, _, _, _, _, _, _, _]) sW sizeOf3 rfl rfl (by first | rfl | assumption) rfl rfl) ?_)))
              rintro _ UA zf
              refine aB (aj (ay (ah (aW rfl (aB (aj (aN (aT (.inl rfl) results37 rfl ?_))))))))
              refine ⟨rfl, ?_⟩
              first
                | exact absurd (hw2.symm.trans hwh) (by decide)
                | exact absurd (hwh.symm.trans hw2) (by decide)
                | (rw [pq]; exact aA.eG dL bM zf.f11.f11.f11.f11.f11.f11.f11.f11.f11.f11.f11)
            · (try simp only [aG] at h9)
              have pq := gy jY hon hrun h9
              refine aQ (aj (ay (ah (aW rfl (aB (aj (aN (aT (.inl rfl) results37 rfl ?_))))))))
              refine ⟨rfl, ?_⟩
              first
                | exact absurd (hw2.symm.trans hwh) (by decide)
                | exact absurd (hwh.symm.trans hw2) (by decide)
                | (rw [pq]; exact aA.eG dL bM xu.f11.f11.f11.f11.f11.f11.f11.f11.f11.f11.f11)
        · (try simp only [aG] at h6)
          have hw2 : s.whole = false := by simpa using h6
          have hrun : (s.typed && (!s.put.isEmpty || s.c.run)) = false := by first | exact absurd (hwh.symm.trans hw2) (by decide) | (rw [hty]; rfl)
          refine bK (bK (oI (oI (oI (oI (oI (bK (jd rfl rfl (bT rfl (bf 0 underlying69 rfl sizeOf64 rfl (bf 10 underlying64 rfl sizeOf4 rfl (aI (aS 10 (l' := [_, _, _, _, _, _, _, _, _, _, _, _, _, _, _, _, _, _, _, _, _, _, _, _, _, _, _, _, _, _, _, _, _, _]) eU sizeOf4 rfl rfl (by first | rfl | assumption) rfl rfl) ?_))))))))))))
          rintro _ TR Au
          refine aB (aj (ay (ah (aP rfl (aP rfl (bT rfl (bf 28 underlying69 rfl sizeOf3 rfl (dA underlying3 rfl (Au).get.2 rfl (bT rfl (bf 0 underlying69 rfl sizeOf64 rfl (bf 6 underlying64 rfl sizeOf3 rfl (aI (aS 6 (l' := [_, _, _, _, _, _, _, _, _, _, _, _, _, _, _, _, _, _, _, _, _, _, _, _, _, _, _, _, _, _, _, _, _, _]) Au sizeOf3 rfl rfl (by first | rfl | assumption) rfl rfl) ?_))))))))))))
          rintro _ TS xX
          refine aB (aj (ay (ay (ah (aP rfl (bT rfl (bf 28 underlying69 rfl sizeOf3 rfl (dA underlying3 rfl (xX).get.2 rfl (aU (dG rfl rfl) (aB (aj (aO rfl (fun h10 => ?_) (fun h10 => ?_)))))))))))))
          · (try simp only [aG] at h10)
            have pq := iD jY hon hrun h10
            refine ah (aP rfl (aP rfl (bT rfl (bf 0 underlying69 rfl sizeOf64 rfl (bf 7 underlying64 rfl sizeOf3 rfl (aI (aS 7 (l' := [_, _, _, _, _, _, _, _, _, _, _, _, _, _, _, _, _, _, _, _, _, _, _, _, _, _, _, _, _, _, _, _, _, _]) xX sizeOf3 rfl rfl (by first | rfl | assumption) rfl rfl) ?_))))))
            rintro _ QW zh
            refine bT rfl (bf 0 underlying69 rfl sizeOf64 rfl (bf 8 underlying64 rfl sizeOf3 rfl (aI (aS 8 (l' := [_, _, _, _, _, _, _, _, _, _, _, _, _, _, _, _, _, _, _, _, _, _, _, _, _, _, _, _, _, _, _, _, _, _]) zh sizeOf3 rfl rfl (by first | rfl | assumption) rfl rfl) ?_)))
            rintro _ TT oW
            refine aB (aj (ay (ah (aW rfl (aB (aj (aN (aT (.inl rfl) results37 rfl ?_))))))))
            refine ⟨rfl, ?_⟩
            first
              | exact absurd (hw2.symm.trans hwh) (by decide)
              | exact absurd (hwh.symm.trans hw2) (by decide)
              | (rw [pq]; exact aA.eG dL bM oW.f11.f11.f11.f11.f11.f11.f11.f11.f11.f11.f11)
          · (try simp only [aG] at h10)
            have pq := gy jY hon hrun h10
            refine aQ (aj (ay (ah (aW rfl (aB (aj (aN (aT (.inl rfl) results37 rfl ?_))))))))
            refine ⟨rfl, ?_⟩
            first
              | exact absurd (hw2.symm.trans hwh) (by decide)
              | exact absurd (hwh.symm.trans hw2) (by decide)
              | (rw [pq]; exact aA.eG dL bM xX.f11.f11.f11.f11.f11.f11.f11.f11.f11.f11.f11)
      · (try simp only [aG] at h5)
        have hwh : s.whole = false := by simpa using h5
        have hty : s.typed = false := by unfold bH.typed; rw [hc3, hwh]; rfl
        have hrun : (s.typed && (!s.put.isEmpty || s.c.run)) = false := by rw [hty]; rfl
        refine bK (bK (bK (bK (bK (jd rfl rfl ?_)))))
        have Dc := EO.f11.right
        have HW0 := aA.yX (c := s.was) (u := [mZ, ng, ni, ny, nC, nD, nG, nH, nI, nJ, nK]) Dc
        obtain ⟨s1, jY, SQ⟩ : ∃ s1, s1 = s.gX ∧ aA w0 (w6.drew) (dN e s1 • F) := ⟨_, hs1, aA.eG (hs1 ▸ rP dL) bM HW0.f11.f11.f11.f11.f11.f11.f11.f11.f11.f11⟩
        have hr1 : s1.c.run = s.c.run := by rw [jY]; unfold bH.gX; split <;> rfl
        refine dD rfl func83 (jX SQ) ?_
        rintro _ Qh vN
        obtain ⟨on, hon, HZ⟩ : ∃ on, (s.typed && s.c.run) = on ∧ aA w0 Qh (dN e (s1.dF on) • F) := ⟨_, by rw [hty]; rfl, vN⟩
        refine aB (aj (ay ?_))
        obtain ⟨qZ, ru, rC, rD, rE, rF, rG, rH, oL, mZ, ng, ni, ny, nC, nD, nG, nH, nI, nJ, nK, dL, bM, iC, eU⟩ := (HZ).Ey
        refine ah (aP rfl (aP rfl (jL rfl (fun h11 => ?_) (fun h11 => ?_))))
        · (try simp only [aG] at h11)
          have hw2 : s.whole = true := h11
          refine bn (aP rfl (bn (jL rfl (fun h12 => ?_) (fun h12 => ?_))))
          · (try simp only [aG] at h12)
            have hrun : (s.typed && (!s.put.isEmpty || s.c.run)) = true := by first | exact absurd (hw2.symm.trans hwh) (by decide) | (rw [kL, decide_eq_false (show ¬ s.put.length = 0 by omega), hty]; rfl)
            refine bK (bK (bK (bK (bK (bn (jP rfl rfl (jP rfl rfl (bT rfl (bf 0 underlying69 rfl sizeOf64 rfl (bf 10 underlying64 rfl sizeOf4 rfl (aI (aS 10 (l' := [_, _, _, _, _, _, _, _, _, _, _, _, _, _, _, _, _, _, _, _, _, _, _, _, _, _, _, _, _, _, _, _, _, _]) eU sizeOf4 rfl rfl (by first | rfl | assumption) rfl rfl) ?_)))))))))))
            rintro _ Yc Jz
            refine aB (aj (ay (ah (aP rfl (aP rfl (bT rfl (bf 28 underlying69 rfl sizeOf3 rfl (dA underlying3 rfl (Jz).get.2 rfl (bT rfl (bf 0 underlying69 rfl sizeOf64 rfl (bf 6 underlying64 rfl sizeOf3 rfl (aI (aS 6 (l' := [_, _, _, _, _, _, _, _, _, _, _, _, _, _, _, _, _, _, _, _, _, _, _, _, _, _, _, _, _, _, _, _, _, _]) Jz sizeOf3 rfl rfl (by first | rfl | assumption) rfl rfl) ?_))))))))))))
            rintro _ ZH ND
            refine aB (aj (ay (ay (ah (aP rfl (bT rfl (bf 28 underlying69 rfl sizeOf3 rfl (dA underlying3 rfl (ND).get.2 rfl (aU (dG rfl rfl) (aB (aj (aO rfl (fun h13 => ?_) (fun h13 => ?_)))))))))))))
            · (try simp only [aG] at h13)
              have pq := iD jY hon hrun h13
              refine ah (aP rfl (aP rfl (bT rfl (bf 0 underlying69 rfl sizeOf64 rfl (bf 7 underlying64 rfl sizeOf3 rfl (aI (aS 7 (l' := [_, _, _, _, _, _, _, _, _, _, _, _, _, _, _, _, _, _, _, _, _, _, _, _, _, _, _, _, _, _, _, _, _, _]) ND sizeOf3 rfl rfl (by first | rfl | assumption) rfl rfl) ?_))))))
              rintro _ Yd IX
              refine bT rfl (bf 0 underlying69 rfl sizeOf64 rfl (bf 8 underlying64 rfl sizeOf3 rfl (aI (aS 8 (l' := [_, _, _, _, _, _, _, _, _, _, _, _, _, _, _, _, _, _, _, _, _, _, _, _, _, _, _, _, _, _, _, _, _, _]) IX sizeOf3 rfl rfl (by first | rfl | assumption) rfl rfl) ?_)))
              rintro _ Ye LU
              refine aB (aj (ay (ah (aW rfl (aB (aj (aN (aT (.inl rfl) results37 rfl ?_))))))))
              refine ⟨rfl, ?_⟩
              first
                | exact absurd (hw2.symm.trans hwh) (by decide)
                | exact absurd (hwh.symm.trans hw2) (by decide)
                | (rw [pq]; exact aA.eG dL bM LU.f11.f11.f11.f11.f11.f11.f11.f11.f11.f11.f11)
            · (try simp only [aG] at h13)
              have pq := gy jY hon hrun h13
              refine aQ (aj (ay (ah (aW rfl (aB (aj (aN (aT (.inl rfl) results37 rfl ?_))))))))
              refine ⟨rfl, ?_⟩
              first
                | exact absurd (hw2.symm.trans hwh) (by decide)
                | exact absurd (hwh.symm.trans hw2) (by decide)
                | (rw [pq]; exact aA.eG dL bM ND.f11.f11.f11.f11.f11.f11.f11.f11.f11.f11.f11)
          · (try simp only [aG] at h12)
            have hrun : (s.typed && (!s.put.isEmpty || s.c.run)) = (s1.dF on).c.run := by first | exact absurd (hw2.symm.trans hwh) (by decide) | (rw [kL, decide_eq_true (show s.put.length = 0 by omega), hty, wG, hr1]; rfl)
            refine bn (aP rfl (bn (bT rfl (bn (bf 0 underlying69 rfl sizeOf64 rfl (bn (bf 10 underlying64 rfl sizeOf4 rfl (bn (dA underlying4 rfl (eU).get.2 rfl (bn (jd rfl rfl (jP rfl rfl (bT rfl (bf 0 underlying69 rfl sizeOf64 rfl (bf 10 underlying64 rfl sizeOf4 rfl (aI (aS 10 (l' := [_, _, _, _, _, _, _, _, _, _, _, _, _, _, _, _, _, _, _, _, _, _, _, _, _, _, _, _, _, _, _, _, _, _]) eU sizeOf4 rfl rfl (by first | rfl | assumption) rfl rfl) ?_))))))))))))))))
            rintro _ ZI O4
            refine aB (aj (ay (ah (aP rfl (aP rfl (bT rfl (bf 28 underlying69 rfl sizeOf3 rfl (dA underlying3 rfl (O4).get.2 rfl (bT rfl (bf 0 underlying69 rfl sizeOf64 rfl (bf 6 underlying64 rfl sizeOf3 rfl (aI (aS 6 (l' := [_, _, _, _, _, _, _, _, _, _, _, _, _, _, _, _, _, _, _, _, _, _, _, _, _, _, _, _, _, _, _, _, _, _]) O4 sizeOf3 rfl rfl (by first | rfl | assumption) rfl rfl) ?_))))))))))))
            rintro _ Yf Hf
            refine aB (aj (ay (ay (ah (aP rfl (bT rfl (bf 28 underlying69 rfl sizeOf3 rfl (dA underlying3 rfl (Hf).get.2 rfl (aU (dG rfl rfl) (aB (aj (aO rfl (fun h14 => ?_) (fun h14 => ?_)))))))))))))
            · (try simp only [aG] at h14)
              have pq := iD jY hon hrun h14
              refine ah (aP rfl (aP rfl (bT rfl (bf 0 underlying69 rfl sizeOf64 rfl (bf 7 underlying64 rfl sizeOf3 rfl (aI (aS 7 (l' := [_, _, _, _, _, _, _, _, _, _, _, _, _, _, _, _, _, _, _, _, _, _, _, _, _, _, _, _, _, _, _, _, _, _]) Hf sizeOf3 rfl rfl (by first | rfl | assumption) rfl rfl) ?_))))))
              rintro _ XD Lc
              refine bT rfl (bf 0 underlying69 rfl sizeOf64 rfl (bf 8 underlying64 rfl sizeOf3 rfl (aI (aS 8 (l' := [_, _, _, _, _, _, _, _, _, _, _, _, _, _, _, _, _, _, _, _, _, _, _, _, _, _, _, _, _, _, _, _, _, _]) Lc sizeOf3 rfl rfl (by first | rfl | assumption) rfl rfl) ?_)))
              rintro _ w32 CW
              refine aB (aj (ay (ah (aW rfl (aB (aj (aN (aT (.inl rfl) results37 rfl ?_))))))))
              refine ⟨rfl, ?_⟩
              first
                | exact absurd (hw2.symm.trans hwh) (by decide)
                | exact absurd (hwh.symm.trans hw2) (by decide)
                | (rw [pq]; exact aA.eG dL bM CW.f11.f11.f11.f11.f11.f11.f11.f11.f11.f11.f11)
            · (try simp only [aG] at h14)
              have pq := gy jY hon hrun h14
              refine aQ (aj (ay (ah (aW rfl (aB (aj (aN (aT (.inl rfl) results37 rfl ?_))))))))
              refine ⟨rfl, ?_⟩
              first
                | exact absurd (hw2.symm.trans hwh) (by decide)
                | exact absurd (hwh.symm.trans hw2) (by decide)
                | (rw [pq]; exact aA.eG dL bM Hf.f11.f11.f11.f11.f11.f11.f11.f11.f11.f11.f11)
        · (try simp only [aG] at h11)
          have hw2 : s.whole = false := by simpa using h11
          have hrun : (s.typed && (!s.put.isEmpty || s.c.run)) = false := by first | exact absurd (hwh.symm.trans hw2) (by decide) | (rw [hty]; rfl)
          refine bK (bK (oI (oI (oI (oI (oI (bK (jd rfl rfl (bT rfl (bf 0 underlying69 rfl sizeOf64 rfl (bf 10 underlying64 rfl sizeOf4 rfl (aI (aS 10 (l' := [_, _, _, _, _, _, _, _, _, _, _, _, _, _, _, _, _, _, _, _, _, _, _, _, _, _, _, _, _, _, _, _, _, _]) eU sizeOf4 rfl rfl (by first | rfl | assumption) rfl rfl) ?_))))))))))))
          rintro _ ZJ LV
          refine aB (aj (ay (ah (aP rfl (aP rfl (bT rfl (bf 28 underlying69 rfl sizeOf3 rfl (dA underlying3 rfl (LV).get.2 rfl (bT rfl (bf 0 underlying69 rfl sizeOf64 rfl (bf 6 underlying64 rfl sizeOf3 rfl (aI (aS 6 (l' := [_, _, _, _, _, _, _, _, _, _, _, _, _, _, _, _, _, _, _, _, _, _, _, _, _, _, _, _, _, _, _, _, _, _]) LV sizeOf3 rfl rfl (by first | rfl | assumption) rfl rfl) ?_))))))))))))
          rintro _ ZQ N7
          refine aB (aj (ay (ay (ah (aP rfl (bT rfl (bf 28 underlying69 rfl sizeOf3 rfl (dA underlying3 rfl (N7).get.2 rfl (aU (dG rfl rfl) (aB (aj (aO rfl (fun h15 => ?_) (fun h15 => ?_)))))))))))))
          · (try simp only [aG] at h15)
            have pq := iD jY hon hrun h15
            refine ah (aP rfl (aP rfl (bT rfl (bf 0 underlying69 rfl sizeOf64 rfl (bf 7 underlying64 rfl sizeOf3 rfl (aI (aS 7 (l' := [_, _, _, _, _, _, _, _, _, _, _, _, _, _, _, _, _, _, _, _, _, _, _, _, _, _, _, _, _, _, _, _, _, _]) N7 sizeOf3 rfl rfl (by first | rfl | assumption) rfl rfl) ?_))))))
            rintro _ w35 UO
            refine bT rfl (bf 0 underlying69 rfl sizeOf64 rfl (bf 8 underlying64 rfl sizeOf3 rfl (aI (aS 8 (l' := [_, _, _, _, _, _, _, _, _, _, _, _, _, _, _, _, _, _, _, _, _, _, _, _, _, _, _, _, _, _, _, _, _, _]) UO sizeOf3 rfl rfl (by first | rfl | assumption) rfl rfl) ?_)))
            rintro _ w36 XE
            refine aB (aj (ay (ah (aW rfl (aB (aj (aN (aT (.inl rfl) results37 rfl ?_))))))))
            refine ⟨rfl, ?_⟩
            first
              | exact absurd (hw2.symm.trans hwh) (by decide)
              | exact absurd (hwh.symm.trans hw2) (by decide)
              | (rw [pq]; exact aA.eG dL bM XE.f11.f11.f11.f11.f11.f11.f11.f11.f11.f11.f11)
          · (try simp only [aG] at h15)
            have pq := gy jY hon hrun h15
            refine aQ (aj (ay (ah (aW rfl (aB (aj (aN (aT (.inl rfl) results37 rfl ?_))))))))
            refine ⟨rfl, ?_⟩
            first
              | exact absurd (hw2.symm.trans hwh) (by decide)
              | exact absurd (hwh.symm.trans hw2) (by decide)
              | (rw [pq]; exact aA.eG dL bM N7.f11.f11.f11.f11.f11.f11.f11.f11.f11.f11.f11)
    · (try simp only [aG] at h4)
      have hty : s.typed = false := by unfold bH.typed; rw [beq_false_of_ne h4]; rfl
      have hrun : (s.typed && (!s.put.isEmpty || s.c.run)) = false := by rw [hty]; rfl
      refine BD 6 rfl rfl rfl rfl (by kernel_rfl) (by kernel_rfl) fZ (jg rfl) ?_
      refine BD 7 rfl rfl rfl rfl (by kernel_rfl) (by kernel_rfl) fZ (jg rfl) ?_
      refine BD 8 rfl rfl rfl rfl (by kernel_rfl) (by kernel_rfl) fZ (jg rfl) ?_
      refine BD 9 rfl rfl rfl rfl (by kernel_rfl) (by kernel_rfl) fZ (jg rfl) ?_
      refine gZ 10 rfl fZ (fun _ => DC rfl rfl) (fU 11 rfl fZ rfl (iZ 12 rfl fZ rfl (dU 13 rfl fZ 33 underlying69 rfl sizeOf67 rfl (gG 14 rfl fZ (fun W hW => iF underlying67 rfl ((Kp.h hW)).get.2 rfl) (gZ 15 rfl fZ (fun _ => eY ((EO.f9).aJ) underlying67 rfl) (gZ 16 rfl fZ (fun _ => gU rfl rfl) (gZ 17 rfl fZ (fun _ => eX rfl) (gZ 18 rfl fZ (fun _ => eX rfl) (mD (aj (ay (ah (aP rfl (aP rfl (aP rfl (bK (bK (bK (bK (bK (jd rfl rfl ?_)))))))))))))))))))))
      have Xc := EO.f11.right
      have HW0 := aA.yX (c := s.was) (u := [mZ, ng, ni, ny, nC, nD, nG, nH, nI, nJ, nK]) Xc
      obtain ⟨s1, jY, SQ⟩ : ∃ s1, s1 = s.gX ∧ aA w0 (w6.drew) (dN e s1 • F) := ⟨_, hs1, aA.eG (hs1 ▸ rP dL) bM HW0.f11.f11.f11.f11.f11.f11.f11.f11.f11.f11⟩
      have hr1 : s1.c.run = s.c.run := by rw [jY]; unfold bH.gX; split <;> rfl
      refine dD rfl func83 (jX SQ) ?_
      rintro _ ZR MJ
      obtain ⟨on, hon, HZ⟩ : ∃ on, (s.typed && s.c.run) = on ∧ aA w0 ZR (dN e (s1.dF on) • F) := ⟨_, by rw [hty]; rfl, MJ⟩
      refine aB (aj (ay ?_))
      obtain ⟨qZ, ru, rC, rD, rE, rF, rG, rH, oL, mZ, ng, ni, ny, nC, nD, nG, nH, nI, nJ, nK, dL, bM, iC, eU⟩ := (HZ).Ey
      refine ah (aP rfl (aP rfl (aP rfl (bK (bK (oI (oI (oI (oI (oI (bK (jd rfl rfl (bT rfl (bf 0 underlying69 rfl sizeOf64 rfl (bf 10 underlying64 rfl sizeOf4 rfl (aI (aS 10 (l' := [_, _, _, _, _, _, _, _, _, _, _, _, _, _, _, _, _, _, _, _, _, _, _, _, _, _, _, _, _, _, _, _, _, _]) eU sizeOf4 rfl rfl (by first | rfl | assumption) rfl rfl) ?_))))))))))))))))
      rintro _ w40 Y9
      refine aB (aj (ay (ah (aP rfl (aP rfl (bT rfl (bf 28 underlying69 rfl sizeOf3 rfl (dA underlying3 rfl (Y9).get.2 rfl (bT rfl (bf 0 underlying69 rfl sizeOf64 rfl (bf 6 underlying64 rfl sizeOf3 rfl (aI (aS 6 (l' := [_, _, _, _, _, _, _, _, _, _, _, _, _, _, _, _, _, _, _, _, _, _, _, _, _, _, _, _, _, _, _, _, _, _]) Y9 sizeOf3 rfl rfl (by first | rfl | assumption) rfl rfl) ?_))))))))))))
      rintro _ w41 UQ
      refine aB (aj (ay (ay (ah (aP rfl (bT rfl (bf 28 underlying69 rfl sizeOf3 rfl (dA underlying3 rfl (UQ).get.2 rfl (aU (dG rfl rfl) (aB (aj (aO rfl (fun h16 => ?_) (fun h16 => ?_)))))))))))))
      · (try simp only [aG] at h16)
        have pq := iD jY hon hrun h16
        refine ah (aP rfl (aP rfl (bT rfl (bf 0 underlying69 rfl sizeOf64 rfl (bf 7 underlying64 rfl sizeOf3 rfl (aI (aS 7 (l' := [_, _, _, _, _, _, _, _, _, _, _, _, _, _, _, _, _, _, _, _, _, _, _, _, _, _, _, _, _, _, _, _, _, _]) UQ sizeOf3 rfl rfl (by first | rfl | assumption) rfl rfl) ?_))))))
        rintro _ w42 TU
        refine bT rfl (bf 0 underlying69 rfl sizeOf64 rfl (bf 8 underlying64 rfl sizeOf3 rfl (aI (aS 8 (l' := [_, _, _, _, _, _, _, _, _, _, _, _, _, _, _, _, _, _, _, _, _, _, _, _, _, _, _, _, _, _, _, _, _, _]) TU sizeOf3 rfl rfl (by first | rfl | assumption) rfl rfl) ?_)))
        rintro _ ZT TV
        refine aB (aj (ay (ah (aW rfl (aB (aj (aN (aT (.inl rfl) results37 rfl ?_))))))))
        refine ⟨rfl, ?_⟩
        first
          | exact absurd (hw2.symm.trans hwh) (by decide)
          | exact absurd (hwh.symm.trans hw2) (by decide)
          | (rw [pq]; exact aA.eG dL bM TV.f11.f11.f11.f11.f11.f11.f11.f11.f11.f11.f11)
      · (try simp only [aG] at h16)
        have pq := gy jY hon hrun h16
        refine aQ (aj (ay (ah (aW rfl (aB (aj (aN (aT (.inl rfl) results37 rfl ?_))))))))
        refine ⟨rfl, ?_⟩
        first
          | exact absurd (hw2.symm.trans hwh) (by decide)
          | exact absurd (hwh.symm.trans hw2) (by decide)
          | (rw [pq]; exact aA.eG dL bM UQ.f11.f11.f11.f11.f11.f11.f11.f11.f11.f11.f11)
  · (try simp only [aG] at h2)
    have har : s.argues = true := by simpa using h2
    have hs1 : ({ s with inn := false } : bH) = s.gX := by unfold bH.gX; rw [if_pos har]
    refine bn (aP rfl (bn (aU (dG rfl rfl) (jd rfl rfl (aB (aj (aO rfl (fun h => by exfalso; (try simp only [aG] at h); simp at h) (fun h17 => ?_))))))))
    (try simp only [aG] at h17)
    refine aQ (aj (ay (ay (ah (aP rfl (aU (dG rfl rfl) (aB (aj (aO rfl (fun h => by exfalso; (try simp only [aG] at h); simp at h) (fun h18 => ?_))))))))))
    (try simp only [aG] at h18)
    refine aQ (aj (ay ?_))
    have y7 := H3.drew
    have dW := aA.kp (y7.f11.f11.f11.f11.f11.f11.f11.f11.f11.f11.f11)
    refine vJ [3, 9, 14] dW rfl (fU 0 rfl dW rfl (iZ 1 rfl dW rfl (dU 2 rfl dW 28 underlying69 rfl sizeOf3 rfl (gG 3 rfl dW (fun W hW => iF underlying3 rfl ((Kp.h hW)).get.2 rfl) (gZ 4 rfl dW (fun _ => iQ rfl rfl) ?_)))))
    refine uD 5 rfl rfl (by kernel_rfl) (by kernel_rfl) dW (jg rfl) (fun h19 => ?_) (fun h19 => ?_)
    · (try simp only [aG] at h19)
      have hc3 : s.cls = 3 := h19
      refine cZ 6 rfl rfl rfl (by kernel_rfl) (by kernel_rfl) dW (fun _ => yL rfl) (jg rfl) ?_
      refine cZ 7 rfl rfl rfl (by kernel_rfl) (by kernel_rfl) dW (fun _ => Nq rfl) (jg rfl) ?_
      refine cZ 8 rfl rfl rfl (by kernel_rfl) (by kernel_rfl) dW (fun _ => kC 32 underlying69 rfl rfl sizeOf4 (by decide) rfl rfl) (jg rfl) ?_
      refine iE 9 rfl rfl rfl (by kernel_rfl) (by kernel_rfl) dW (by decide) (fun W hW => dB (bG underlying4 rfl) rfl (dH ((Kp.h hW)).get.2 rfl)) (jg rfl) ?_
      refine gZ 10 rfl dW (fun _ => nS rfl rfl) (fU 11 rfl dW rfl (iZ 12 rfl dW rfl (dU 13 rfl dW 33 underlying69 rfl sizeOf67 rfl (gG 14 rfl dW (fun W hW => iF underlying67 rfl ((Kp.h hW)).get.2 rfl) (gZ 15 rfl dW (fun _ => eY ((y7.f9).aJ) underlying67 rfl) (gZ 16 rfl dW (fun _ => gU rfl rfl) (gZ 17 rfl dW (fun _ => eX rfl) (gZ 18 rfl dW (fun _ => eX rfl) (mD (aj (ay (ah (aP rfl (aP rfl (jL rfl (fun h20 => ?_) (fun h20 => ?_))))))))))))))))
      · (try simp only [aG] at h20)
        have hwh : s.whole = true := h20
        have hty : s.typed = true := by unfold bH.typed; rw [hc3, hwh]; rfl
        refine bn (aP rfl (bn (bT rfl (bn (bf 0 underlying69 rfl sizeOf64 rfl (bn (bf 10 underlying64 rfl sizeOf4 rfl (bn (dA underlying4 rfl (y7).get.2 rfl (jP rfl rfl ?_))))))))))
        have abk := y7.f11.right
        have HW0 := aA.yX (c := s.was) (u := [mZ, ng, ni, ny, nC, nD, nG, nH, nI, nJ, nK]) abk
        obtain ⟨s1, jY, SQ⟩ : ∃ s1, s1 = s.gX ∧ aA w0 (w3.drew) (dN e s1 • F) := ⟨_, hs1, aA.eG (hs1 ▸ rP dL) bM HW0.f11.f11.f11.f11.f11.f11.f11.f11.f11.f11⟩
        have hr1 : s1.c.run = s.c.run := by rw [jY]; unfold bH.gX; split <;> rfl
        refine dD rfl func83 (jX SQ) ?_
        rintro _ ZU Ld
        obtain ⟨on, hon, HZ⟩ : ∃ on, (s.typed && s.c.run) = on ∧ aA w0 ZU (dN e (s1.dF on) • F) := ⟨_, by rw [hty]; rfl, Ld⟩
        refine aB (aj (ay ?_))
        obtain ⟨qZ, ru, rC, rD, rE, rF, rG, rH, oL, mZ, ng, ni, ny, nC, nD, nG, nH, nI, nJ, nK, dL, bM, iC, eU⟩ := (HZ).Ey
        refine ah (aP rfl (aP rfl (jL rfl (fun h21 => ?_) (fun h21 => ?_))))
        · (try simp only [aG] at h21)
          have hw2 : s.whole = true := h21
          refine bn (aP rfl (bn (jL rfl (fun h22 => ?_) (fun h22 => ?_))))
          · (try simp only [aG] at h22)
            have hrun : (s.typed && (!s.put.isEmpty || s.c.run)) = true := by first | exact absurd (hw2.symm.trans hwh) (by decide) | (rw [kL, decide_eq_false (show ¬ s.put.length = 0 by omega), hty]; rfl)
            refine bK (bK (bK (bK (bK (bn (jP rfl rfl (jP rfl rfl (bT rfl (bf 0 underlying69 rfl sizeOf64 rfl (bf 10 underlying64 rfl sizeOf4 rfl (aI (aS 10 (l' := [_, _, _, _, _, _, _, _, _, _, _, _, _, _, _, _, _, _, _, _, _, _, _, _, _, _, _, _, _, _, _, _, _, _]) eU sizeOf4 rfl rfl (by first | rfl | assumption) rfl rfl) ?_)))))))))))
            rintro _ w47 Xf
            refine aB (aj (ay (ah (aP rfl (aP rfl (bT rfl (bf 28 underlying69 rfl sizeOf3 rfl (dA underlying3 rfl (Xf).get.2 rfl (bT rfl (bf 0 underlying69 rfl sizeOf64 rfl (bf 6 underlying64 rfl sizeOf3 rfl (aI (aS 6 (l' := [_, _, _, _, _, _, _, _, _, _, _, _, _, _, _, _, _, _, _, _, _, _, _, _, _, _, _, _, _, _, _, _, _, _]) Xf sizeOf3 rfl rfl (by first | rfl | assumption) rfl rfl) ?_))))))))))))
            rintro _ w48 H48
            refine aB (aj (ay (ay (ah (aP rfl (bT rfl (bf 28 underlying69 rfl sizeOf3 rfl (dA underlying3 rfl (H48).get.2 rfl (aU (dG rfl rfl) (aB (aj (aO rfl (fun h23 => ?_) (fun h23 => ?_)))))))))))))
            · (try simp only [aG] at h23)
              have pq := iD jY hon hrun h23
              refine ah (aP rfl (aP rfl (bT rfl (bf 0 underlying69 rfl sizeOf64 rfl (bf 7 underlying64 rfl sizeOf3 rfl (aI (aS 7 (l' := [_, _, _, _, _, _, _, _, _, _, _, _, _, _, _, _, _, _, _, _, _, _, _, _, _, _, _, _, _, _, _, _, _, _]) H48 sizeOf3 rfl rfl (by first | rfl | assumption) rfl rfl) ?_))))))
              rintro _ w49 ZV
              refine bT rfl (bf 0 underlying69 rfl sizeOf64 rfl (bf 8 underlying64 rfl sizeOf3 rfl (aI (aS 8 (l' := [_, _, _, _, _, _, _, _, _, _, _, _, _, _, _, _, _, _, _, _, _, _, _, _, _, _, _, _, _, _, _, _, _, _]) ZV sizeOf3 rfl rfl (by first | rfl | assumption) rfl rfl) ?_)))
              rintro _ w50 XF
              refine aB (aj (ay (ah (aW rfl (aB (aj (aN (aT (.inl rfl) results37 rfl ?_))))))))
              refine ⟨rfl, ?_⟩
              first
                | exact absurd (hw2.symm.trans hwh) (by decide)
                | exact absurd (hwh.symm.trans hw2) (by decide)
                | (rw [pq]; exact aA.eG dL bM XF.f11.f11.f11.f11.f11.f11.f11.f11.f11.f11.f11)
            · (try simp only [aG] at h23)
              have pq := gy jY hon hrun h23
              refine aQ (aj (ay (ah (aW rfl (aB (aj (aN (aT (.inl rfl) results37 rfl ?_))))))))
              refine ⟨rfl, ?_⟩
              first
                | exact absurd (hw2.symm.trans hwh) (by decide)
                | exact absurd (hwh.symm.trans hw2) (by decide)
                | (rw [pq]; exact aA.eG dL bM H48.f11.f11.f11.f11.f11.f11.f11.f11.f11.f11.f11)
          · (try simp only [aG] at h22)
            have hrun : (s.typed && (!s.put.isEmpty || s.c.run)) = (s1.dF on).c.run := by first | exact absurd (hw2.symm.trans hwh) (by decide) | (rw [kL, decide_eq_true (show s.put.length = 0 by omega), hty, wG, hr1]; rfl)
            refine bn (aP rfl (bn (bT rfl (bn (bf 0 underlying69 rfl sizeOf64 rfl (bn (bf 10 underlying64 rfl sizeOf4 rfl (bn (dA underlying4 rfl (eU).get.2 rfl (bn (jd rfl rfl (jP rfl rfl (bT rfl (bf 0 underlying69 rfl sizeOf64 rfl (bf 10 underlying64 rfl sizeOf4 rfl (aI (aS 10 (l' := [_, _, _, _, _, _, _, _, _, _, _, _, _, _, _, _, _, _, _, _, _, _, _, _, _, _, _, _, _, _, _, _, _, _]) eU sizeOf4 rfl rfl (by first | rfl | assumption) rfl rfl) ?_))))))))))))))))
            rintro _ w51 WW
            refine aB (aj (ay (ah (aP rfl (aP rfl (bT rfl (bf 28 underlying69 rfl sizeOf3 rfl (dA underlying3 rfl (WW).get.2 rfl (bT rfl (bf 0 underlying69 rfl sizeOf64 rfl (bf 6 underlying64 rfl sizeOf3 rfl (aI (aS 6 (l' := [_, _, _, _, _, _, _, _, _, _, _, _, _, _, _, _, _, _, _, _, _, _, _, _, _, _, _, _, _, _, _, _, _, _]) WW sizeOf3 rfl rfl (by first | rfl | assumption) rfl rfl) ?_))))))))))))
            rintro _ w52 VJ
            refine aB (aj (ay (ay (ah (aP rfl (bT rfl (bf 28 underlying69 rfl sizeOf3 rfl (dA underlying3 rfl (VJ).get.2 rfl (aU (dG rfl rfl) (aB (aj (aO rfl (fun h24 => ?_) (fun h24 => ?_)))))))))))))
            · (try simp only [aG] at h24)
              have pq := iD jY hon hrun h24
              refine ah (aP rfl (aP rfl (bT rfl (bf 0 underlying69 rfl sizeOf64 rfl (bf 7 underlying64 rfl sizeOf3 rfl (aI (aS 7 (l' := [_, _, _, _, _, _, _, _, _, _, _, _, _, _, _, _, _, _, _, _, _, _, _, _, _, _, _, _, _, _, _, _, _, _]) VJ sizeOf3 rfl rfl (by first | rfl | assumption) rfl rfl) ?_))))))
              rintro _ w53 XG
              refine bT rfl (bf 0 underlying69 rfl sizeOf64 rfl (bf 8 underlying64 rfl sizeOf3 rfl (aI (aS 8 (l' := [_, _, _, _, _, _, _, _, _, _, _, _, _, _, _, _, _, _, _, _, _, _, _, _, _, _, _, _, _, _, _, _, _, _]) XG sizeOf3 rfl rfl (by first | rfl | assumption) rfl rfl) ?_)))
              rintro _ w54 H54
              refine aB (aj (ay (ah (aW rfl (aB (aj (aN (aT (.inl rfl) results37 rfl ?_))))))))
              refine ⟨rfl, ?_⟩
              first
                | exact absurd (hw2.symm.trans hwh) (by decide)
                | exact absurd (hwh.symm.trans hw2) (by decide)
                | (rw [pq]; exact aA.eG dL bM H54.f11.f11.f11.f11.f11.f11.f11.f11.f11.f11.f11)
            · (try simp only [aG] at h24)
              have pq := gy jY hon hrun h24
              refine aQ (aj (ay (ah (aW rfl (aB (aj (aN (aT (.inl rfl) results37 rfl ?_))))))))
              refine ⟨rfl, ?_⟩
              first
                | exact absurd (hw2.symm.trans hwh) (by decide)
                | exact absurd (hwh.symm.trans hw2) (by decide)
                | (rw [pq]; exact aA.eG dL bM VJ.f11.f11.f11.f11.f11.f11.f11.f11.f11.f11.f11)
        · (try simp only [aG] at h21)
          have hw2 : s.whole = false := by simpa using h21
          have hrun : (s.typed && (!s.put.isEmpty || s.c.run)) = false := by first | exact absurd (hwh.symm.trans hw2) (by decide) | (rw [hty]; rfl)
          refine bK (bK (oI (oI (oI (oI (oI (bK (jd rfl rfl (bT rfl (bf 0 underlying69 rfl sizeOf64 rfl (bf 10 underlying64 rfl sizeOf4 rfl (aI (aS 10 (l' := [_, _, _, _, _, _, _, _, _, _, _, _, _, _, _, _, _, _, _, _, _, _, _, _, _, _, _, _, _, _, _, _, _, _]) eU sizeOf4 rfl rfl (by first | rfl | assumption) rfl rfl) ?_))))))))))))
          rintro _ w55 ZW
          refine aB (aj (ay (ah (aP rfl (aP rfl (bT rfl (bf 28 underlying69 rfl sizeOf3 rfl (dA underlying3 rfl (ZW).get.2 rfl (bT rfl (bf 0 underlying69 rfl sizeOf64 rfl (bf 6 underlying64 rfl sizeOf3 rfl (aI (aS 6 (l' := [_, _, _, _, _, _, _, _, _, _, _, _, _, _, _, _, _, _, _, _, _, _, _, _, _, _, _, _, _, _, _, _, _, _]) ZW sizeOf3 rfl rfl (by first | rfl | assumption) rfl rfl) ?_))))))))))))
          rintro _ w56 H56
          refine aB (aj (ay (ay (ah (aP rfl (bT rfl (bf 28 underlying69 rfl sizeOf3 rfl (dA underlying3 rfl (H56).get.2 rfl (aU (dG rfl rfl) (aB (aj (aO rfl (fun h25 => ?_) (fun h25 => ?_)))))))))))))
          · (try simp only [aG] at h25)
            have pq := iD jY hon hrun h25
            refine ah (aP rfl (aP rfl (bT rfl (bf 0 underlying69 rfl sizeOf64 rfl (bf 7 underlying64 rfl sizeOf3 rfl (aI (aS 7 (l' := [_, _, _, _, _, _, _, _, _, _, _, _, _, _, _, _, _, _, _, _, _, _, _, _, _, _, _, _, _, _, _, _, _, _]) H56 sizeOf3 rfl rfl (by first | rfl | assumption) rfl rfl) ?_))))))
            rintro _ w57 H57
            refine bT rfl (bf 0 underlying69 rfl sizeOf64 rfl (bf 8 underlying64 rfl sizeOf3 rfl (aI (aS 8 (l' := [_, _, _, _, _, _, _, _, _, _, _, _, _, _, _, _, _, _, _, _, _, _, _, _, _, _, _, _, _, _, _, _, _, _]) H57 sizeOf3 rfl rfl (by first | rfl | assumption) rfl rfl) ?_)))
            rintro _ w58 UR
            refine aB (aj (ay (ah (aW rfl (aB (aj (aN (aT (.inl rfl) results37 rfl ?_))))))))
            refine ⟨rfl, ?_⟩
            first
              | exact absurd (hw2.symm.trans hwh) (by decide)
              | exact absurd (hwh.symm.trans hw2) (by decide)
              | (rw [pq]; exact aA.eG dL bM UR.f11.f11.f11.f11.f11.f11.f11.f11.f11.f11.f11)
          · (try simp only [aG] at h25)
            have pq := gy jY hon hrun h25
            refine aQ (aj (ay (ah (aW rfl (aB (aj (aN (aT (.inl rfl) results37 rfl ?_))))))))
            refine ⟨rfl, ?_⟩
            first
              | exact absurd (hw2.symm.trans hwh) (by decide)
              | exact absurd (hwh.symm.trans hw2) (by decide)
              | (rw [pq]; exact aA.eG dL bM H56.f11.f11.f11.f11.f11.f11.f11.f11.f11.f11.f11)
      · (try simp only [aG] at h20)
        have hwh : s.whole = false := by simpa using h20
        have hty : s.typed = false := by unfold bH.typed; rw [hc3, hwh]; rfl
        have hrun : (s.typed && (!s.put.isEmpty || s.c.run)) = false := by rw [hty]; rfl
        refine bK (bK (bK (bK (bK (jd rfl rfl ?_)))))
        have abl := y7.f11.right
        have HW0 := aA.yX (c := s.was) (u := [mZ, ng, ni, ny, nC, nD, nG, nH, nI, nJ, nK]) abl
        obtain ⟨s1, jY, SQ⟩ : ∃ s1, s1 = s.gX ∧ aA w0 (w3.drew) (dN e s1 • F) := ⟨_, hs1, aA.eG (hs1 ▸ rP dL) bM HW0.f11.f11.f11.f11.f11.f11.f11.f11.f11.f11⟩
        have hr1 : s1.c.run = s.c.run := by rw [jY]; unfold bH.gX; split <;> rfl
        refine dD rfl func83 (jX SQ) ?_
        rintro _ w60 XH
        obtain ⟨on, hon, HZ⟩ : ∃ on, (s.typed && s.c.run) = on ∧ aA w0 w60 (dN e (s1.dF on) • F) := ⟨_, by rw [hty]; rfl, XH⟩
        refine aB (aj (ay ?_))
        obtain ⟨qZ, ru, rC, rD, rE, rF, rG, rH, oL, mZ, ng, ni, ny, nC, nD, nG, nH, nI, nJ, nK, dL, bM, iC, eU⟩ := (HZ).Ey
        refine ah (aP rfl (aP rfl (jL rfl (fun h26 => ?_) (fun h26 => ?_))))
        · (try simp only [aG] at h26)
          have hw2 : s.whole = true := h26
          refine bn (aP rfl (bn (jL rfl (fun h27 => ?_) (fun h27 => ?_))))
          · (try simp only [aG] at h27)
            have hrun : (s.typed && (!s.put.isEmpty || s.c.run)) = true := by first | exact absurd (hw2.symm.trans hwh) (by decide) | (rw [kL, decide_eq_false (show ¬ s.put.length = 0 by omega), hty]; rfl)
            refine bK (bK (bK (bK (bK (bn (jP rfl rfl (jP rfl rfl (bT rfl (bf 0 underlying69 rfl sizeOf64 rfl (bf 10 underlying64 rfl sizeOf4 rfl (aI (aS 10 (l' := [_, _, _, _, _, _, _, _, _, _, _, _, _, _, _, _, _, _, _, _, _, _, _, _, _, _, _, _, _, _, _, _, _, _]) eU sizeOf4 rfl rfl (by first | rfl | assumption) rfl rfl) ?_)))))))))))
            rintro _ w62 YS
            refine aB (aj (ay (ah (aP rfl (aP rfl (bT rfl (bf 28 underlying69 rfl sizeOf3 rfl (dA underlying3 rfl (YS).get.2 rfl (bT rfl (bf 0 underlying69 rfl sizeOf64 rfl (bf 6 underlying64 rfl sizeOf3 rfl (aI (aS 6 (l' := [_, _, _, _, _, _, _, _, _, _, _, _, _, _, _, _, _, _, _, _, _, _, _, _, _, _, _, _, _, _, _, _, _, _]) YS sizeOf3 rfl rfl (by first | rfl | assumption) rfl rfl) ?_))))))))))))
            rintro _ w63 YU
            refine aB (aj (ay (ay (ah (aP rfl (bT rfl (bf 28 underlying69 rfl sizeOf3 rfl (dA underlying3 rfl (YU).get.2 rfl (aU (dG rfl rfl) (aB (aj (aO rfl (fun h28 => ?_) (fun h28 => ?_)))))))))))))
            · (try simp only [aG] at h28)
              have pq := iD jY hon hrun h28
              refine ah (aP rfl (aP rfl (bT rfl (bf 0 underlying69 rfl sizeOf64 rfl (bf 7 underlying64 rfl sizeOf3 rfl (aI (aS 7 (l' := [_, _, _, _, _, _, _, _, _, _, _, _, _, _, _, _, _, _, _, _, _, _, _, _, _, _, _, _, _, _, _, _, _, _]) YU sizeOf3 rfl rfl (by first | rfl | assumption) rfl rfl) ?_))))))
              rintro _ w64 YV
              refine bT rfl (bf 0 underlying69 rfl sizeOf64 rfl (bf 8 underlying64 rfl sizeOf3 rfl (aI (aS 8 (l' := [_, _, _, _, _, _, _, _, _, _, _, _, _, _, _, _, _, _, _, _, _, _, _, _, _, _, _, _, _, _, _, _, _, _]) YV sizeOf3 rfl rfl (by first | rfl | assumption) rfl rfl) ?_)))
              rintro _ w65 H65
              refine aB (aj (ay (ah (aW rfl (aB (aj (aN (aT (.inl rfl) results37 rfl ?_))))))))
              refine ⟨rfl, ?_⟩
              first
                | exact absurd (hw2.symm.trans hwh) (by decide)
                | exact absurd (hwh.symm.trans hw2) (by decide)
                | (rw [pq]; exact aA.eG dL bM H65.f11.f11.f11.f11.f11.f11.f11.f11.f11.f11.f11)
            · (try simp only [aG] at h28)
              have pq := gy jY hon hrun h28
              refine aQ (aj (ay (ah (aW rfl (aB (aj (aN (aT (.inl rfl) results37 rfl ?_))))))))
              refine ⟨rfl, ?_⟩
              first
                | exact absurd (hw2.symm.trans hwh) (by decide)
                | exact absurd (hwh.symm.trans hw2) (by decide)
                | (rw [pq]; exact aA.eG dL bM YU.f11.f11.f11.f11.f11.f11.f11.f11.f11.f11.f11)
          · (try simp only [aG] at h27)
            have hrun : (s.typed && (!s.put.isEmpty || s.c.run)) = (s1.dF on).c.run := by first | exact absurd (hw2.symm.trans hwh) (by decide) | (rw [kL, decide_eq_true (show s.put.length = 0 by omega), hty, wG, hr1]; rfl)
            refine bn (aP rfl (bn (bT rfl (bn (bf 0 underlying69 rfl sizeOf64 rfl (bn (bf 10 underlying64 rfl sizeOf4 rfl (bn (dA underlying4 rfl (eU).get.2 rfl (bn (jd rfl rfl (jP rfl rfl (bT rfl (bf 0 underlying69 rfl sizeOf64 rfl (bf 10 underlying64 rfl sizeOf4 rfl (aI (aS 10 (l' := [_, _, _, _, _, _, _, _, _, _, _, _, _, _, _, _, _, _, _, _, _, _, _, _, _, _, _, _, _, _, _, _, _, _]) eU sizeOf4 rfl rfl (by first | rfl | assumption) rfl rfl) ?_))))))))))))))))
            rintro _ w66 H66
            refine aB (aj (ay (ah (aP rfl (aP rfl (bT rfl (bf 28 underlying69 rfl sizeOf3 rfl (dA underlying3 rfl (H66).get.2 rfl (bT rfl (bf 0 underlying69 rfl sizeOf64 rfl (bf 6 underlying64 rfl sizeOf3 rfl (aI (aS 6 (l' := [_, _, _, _, _, _, _, _, _, _, _, _, _, _, _, _, _, _, _, _, _, _, _, _, _, _, _, _, _, _, _, _, _, _]) H66 sizeOf3 rfl rfl (by first | rfl | assumption) rfl rfl) ?_))))))))))))
            rintro _ w67 H67
            refine aB (aj (ay (ay (ah (aP rfl (bT rfl (bf 28 underlying69 rfl sizeOf3 rfl (dA underlying3 rfl (H67).get.2 rfl (aU (dG rfl rfl) (aB (aj (aO rfl (fun h29 => ?_) (fun h29 => ?_)))))))))))))
            · (try simp only [aG] at h29)
              have pq := iD jY hon hrun h29
              refine ah (aP rfl (aP rfl (bT rfl (bf 0 underlying69 rfl sizeOf64 rfl (bf 7 underlying64 rfl sizeOf3 rfl (aI (aS 7 (l' := [_, _, _, _, _, _, _, _, _, _, _, _, _, _, _, _, _, _, _, _, _, _, _, _, _, _, _, _, _, _, _, _, _, _]) H67 sizeOf3 rfl rfl (by first | rfl | assumption) rfl rfl) ?_))))))
              rintro _ w68 ZY
              refine bT rfl (bf 0 underlying69 rfl sizeOf64 rfl (bf 8 underlying64 rfl sizeOf3 rfl (aI (aS 8 (l' := [_, _, _, _, _, _, _, _, _, _, _, _, _, _, _, _, _, _, _, _, _, _, _, _, _, _, _, _, _, _, _, _, _, _]) ZY sizeOf3 rfl rfl (by first | rfl | assumption) rfl rfl) ?_)))
              rintro _ w69 Z4
              refine aB (aj (ay (ah (aW rfl (aB (aj (aN (aT (.inl rfl) results37 rfl ?_))))))))
              refine ⟨rfl, ?_⟩
              first
                | exact absurd (hw2.symm.trans hwh) (by decide)
                | exact absurd (hwh.symm.trans hw2) (by decide)
                | (rw [pq]; exact aA.eG dL bM Z4.f11.f11.f11.f11.f11.f11.f11.f11.f11.f11.f11)
            · (try simp only [aG] at h29)
              have pq := gy jY hon hrun h29
              refine aQ (aj (ay (ah (aW rfl (aB (aj (aN (aT (.inl rfl) results37 rfl ?_))))))))
              refine ⟨rfl, ?_⟩
              first
                | exact absurd (hw2.symm.trans hwh) (by decide)
                | exact absurd (hwh.symm.trans hw2) (by decide)
                | (rw [pq]; exact aA.eG dL bM H67.f11.f11.f11.f11.f11.f11.f11.f11.f11.f11.f11)
        · (try simp only [aG] at h26)
          have hw2 : s.whole = false := by simpa using h26
          have hrun : (s.typed && (!s.put.isEmpty || s.c.run)) = false := by first | exact absurd (hwh.symm.trans hw2) (by decide) | (rw [hty]; rfl)
          refine bK (bK (oI (oI (oI (oI (oI (bK (jd rfl rfl (bT rfl (bf 0 underlying69 rfl sizeOf64 rfl (bf 10 underlying64 rfl sizeOf4 rfl (aI (aS 10 (l' := [_, _, _, _, _, _, _, _, _, _, _, _, _, _, _, _, _, _, _, _, _, _, _, _, _, _, _, _, _, _, _, _, _, _]) eU sizeOf4 rfl rfl (by first | rfl | assumption) rfl rfl) ?_))))))))))))
          rintro _ w70 YX
          refine aB (aj (ay (ah (aP rfl (aP rfl (bT rfl (bf 28 underlying69 rfl sizeOf3 rfl (dA underlying3 rfl (YX).get.2 rfl (bT rfl (bf 0 underlying69 rfl sizeOf64 rfl (bf 6 underlying64 rfl sizeOf3 rfl (aI (aS 6 (l' := [_, _, _, _, _, _, _, _, _, _, _, _, _, _, _, _, _, _, _, _, _, _, _, _, _, _, _, _, _, _, _, _, _, _]) YX sizeOf3 rfl rfl (by first | rfl | assumption) rfl rfl) ?_))))))))))))
          rintro _ w71 XI
          refine aB (aj (ay (ay (ah (aP rfl (bT rfl (bf 28 underlying69 rfl sizeOf3 rfl (dA underlying3 rfl (XI).get.2 rfl (aU (dG rfl rfl) (aB (aj (aO rfl (fun h30 => ?_) (fun h30 => ?_)))))))))))))
          · (try simp only [aG] at h30)
            have pq := iD jY hon hrun h30
            refine ah (aP rfl (aP rfl (bT rfl (bf 0 underlying69 rfl sizeOf64 rfl (bf 7 underlying64 rfl sizeOf3 rfl (aI (aS 7 (l' := [_, _, _, _, _, _, _, _, _, _, _, _, _, _, _, _, _, _, _, _, _, _, _, _, _, _, _, _, _, _, _, _, _, _]) XI sizeOf3 rfl rfl (by first | rfl | assumption) rfl rfl) ?_))))))
            rintro _ w72 H72
            refine bT rfl (bf 0 underlying69 rfl sizeOf64 rfl (bf 8 underlying64 rfl sizeOf3 rfl (aI (aS 8 (l' := [_, _, _, _, _, _, _, _, _, _, _, _, _, _, _, _, _, _, _, _, _, _, _, _, _, _, _, _, _, _, _, _, _, _]) H72 sizeOf3 rfl rfl (by first | rfl | assumption) rfl rfl) ?_)))
            rintro _ w73 H73
            refine aB (aj (ay (ah (aW rfl (aB (aj (aN (aT (.inl rfl) results37 rfl ?_))))))))
            refine ⟨rfl, ?_⟩
            first
              | exact absurd (hw2.symm.trans hwh) (by decide)
              | exact absurd (hwh.symm.trans hw2) (by decide)
              | (rw [pq]; exact aA.eG dL bM H73.f11.f11.f11.f11.f11.f11.f11.f11.f11.f11.f11)
          · (try simp only [aG] at h30)
            have pq := gy jY hon hrun h30
            refine aQ (aj (ay (ah (aW rfl (aB (aj (aN (aT (.inl rfl) results37 rfl ?_))))))))
            refine ⟨rfl, ?_⟩
            first
              | exact absurd (hw2.symm.trans hwh) (by decide)
              | exact absurd (hwh.symm.trans hw2) (by decide)
              | (rw [pq]; exact aA.eG dL bM XI.f11.f11.f11.f11.f11.f11.f11.f11.f11.f11.f11)
    · (try simp only [aG] at h19)
      have hty : s.typed = false := by unfold bH.typed; rw [beq_false_of_ne h19]; rfl
      have hrun : (s.typed && (!s.put.isEmpty || s.c.run)) = false := by rw [hty]; rfl
      refine BD 6 rfl rfl rfl rfl (by kernel_rfl) (by kernel_rfl) dW (jg rfl) ?_
      refine BD 7 rfl rfl rfl rfl (by kernel_rfl) (by kernel_rfl) dW (jg rfl) ?_
      refine BD 8 rfl rfl rfl rfl (by kernel_rfl) (by kernel_rfl) dW (jg rfl) ?_
      refine BD 9 rfl rfl rfl rfl (by kernel_rfl) (by kernel_rfl) dW (jg rfl) ?_
      refine gZ 10 rfl dW (fun _ => DC rfl rfl) (fU 11 rfl dW rfl (iZ 12 rfl dW rfl (dU 13 rfl dW 33 underlying69 rfl sizeOf67 rfl (gG 14 rfl dW (fun W hW => iF underlying67 rfl ((Kp.h hW)).get.2 rfl) (gZ 15 rfl dW (fun _ => eY ((y7.f9).aJ) underlying67 rfl) (gZ 16 rfl dW (fun _ => gU rfl rfl) (gZ 17 rfl dW (fun _ => eX rfl) (gZ 18 rfl dW (fun _ => eX rfl) (mD (aj (ay (ah (aP rfl (aP rfl (aP rfl (bK (bK (bK (bK (bK (jd rfl rfl ?_)))))))))))))))))))))
      have abm := y7.f11.right
      have HW0 := aA.yX (c := s.was) (u := [mZ, ng, ni, ny, nC, nD, nG, nH, nI, nJ, nK]) abm
      obtain ⟨s1, jY, SQ⟩ : ∃ s1, s1 = s.gX ∧ aA w0 (w3.drew) (dN e s1 • F) := ⟨_, hs1, aA.eG (hs1 ▸ rP dL) bM HW0.f11.f11.f11.f11.f11.f11.f11.f11.f11.f11⟩
      have hr1 : s1.c.run = s.c.run := by rw [jY]; unfold bH.gX; split <;> rfl
      refine dD rfl func83 (jX SQ) ?_
      rintro _ w75 H75
      obtain ⟨on, hon, HZ⟩ : ∃ on, (s.typed && s.c.run) = on ∧ aA w0 w75 (dN e (s1.dF on) • F) := ⟨_, by rw [hty]; rfl, H75⟩
      refine aB (aj (ay ?_))
      obtain ⟨qZ, ru, rC, rD, rE, rF, rG, rH, oL, mZ, ng, ni, ny, nC, nD, nG, nH, nI, nJ, nK, dL, bM, iC, eU⟩ := (HZ).Ey
      refine ah (aP rfl (aP rfl (aP rfl (bK (bK (oI (oI (oI (oI (oI (bK (jd rfl rfl (bT rfl (bf 0 underlying69 rfl sizeOf64 rfl (bf 10 underlying64 rfl sizeOf4 rfl (aI (aS 10 (l' := [_, _, _, _, _, _, _, _, _, _, _, _, _, _, _, _, _, _, _, _, _, _, _, _, _, _, _, _, _, _, _, _, _, _]) eU sizeOf4 rfl rfl (by first | rfl | assumption) rfl rfl) ?_))))))))))))))))
      rintro _ w77 H77
      refine aB (aj (ay (ah (aP rfl (aP rfl (bT rfl (bf 28 underlying69 rfl sizeOf3 rfl (dA underlying3 rfl (H77).get.2 rfl (bT rfl (bf 0 underlying69 rfl sizeOf64 rfl (bf 6 underlying64 rfl sizeOf3 rfl (aI (aS 6 (l' := [_, _, _, _, _, _, _, _, _, _, _, _, _, _, _, _, _, _, _, _, _, _, _, _, _, _, _, _, _, _, _, _, _, _]) H77 sizeOf3 rfl rfl (by first | rfl | assumption) rfl rfl) ?_))))))))))))
      rintro _ w78 H78
      refine aB (aj (ay (ay (ah (aP rfl (bT rfl (bf 28 underlying69 rfl sizeOf3 rfl (dA underlying3 rfl (H78).get.2 rfl (aU (dG rfl rfl) (aB (aj (aO rfl (fun h31 => ?_) (fun h31 => ?_)))))))))))))
      · (try simp only [aG] at h31)
        have pq := iD jY hon hrun h31
        refine ah (aP rfl (aP rfl (bT rfl (bf 0 underlying69 rfl sizeOf64 rfl (bf 7 underlying64 rfl sizeOf3 rfl (aI (aS 7 (l' := [_, _, _, _, _, _, _, _, _, _, _, _, _, _, _, _, _, _, _, _, _, _, _, _, _, _, _, _, _, _, _, _, _, _]) H78 sizeOf3 rfl rfl (by first | rfl | assumption) rfl rfl) ?_))))))
        rintro _ w79 H79
        refine bT rfl (bf 0 underlying69 rfl sizeOf64 rfl (bf 8 underlying64 rfl sizeOf3 rfl (aI (aS 8 (l' := [_, _, _, _, _, _, _, _, _, _, _, _, _, _, _, _, _, _, _, _, _, _, _, _, _, _, _, _, _, _, _, _, _, _]) H79 sizeOf3 rfl rfl (by first | rfl | assumption) rfl rfl) ?_)))
        rintro _ w80 H80
        refine aB (aj (ay (ah (aW rfl (aB (aj (aN (aT (.inl rfl) results37 rfl ?_))))))))
        refine ⟨rfl, ?_⟩
        first
          | exact absurd (hw2.symm.trans hwh) (by decide)
          | exact absurd (hwh.symm.trans hw2) (by decide)
          | (rw [pq]; exact aA.eG dL bM H80.f11.f11.f11.f11.f11.f11.f11.f11.f11.f11.f11)
      · (try simp only [aG] at h31)
        have pq := gy jY hon hrun h31
        refine aQ (aj (ay (ah (aW rfl (aB (aj (aN (aT (.inl rfl) results37 rfl ?_))))))))
        refine ⟨rfl, ?_⟩
        first
          | exact absurd (hw2.symm.trans hwh) (by decide)
          | exact absurd (hwh.symm.trans hw2) (by decide)
          | (rw [pq]; exact aA.eG dL bM H78.f11.f11.f11.f11.f11.f11.f11.f11.f11.f11.f11)
theorem Gt {s : bH} {x : Int} (hin : s.inn = true) (hx : x ≠ 0) : s.oC x = s.yU ∧ s.Bd x = x := by
  unfold bH.oC bH.Bd
  rw [if_pos hin, if_neg hx, if_pos hin]; exact ⟨rfl, rfl⟩
theorem SV {s : bH} (h : kF s) (hin : s.inn = true) : kF s.yU := by
  obtain ⟨h1, h2, h3⟩ := h.2.1 hin
  exact ⟨h1, fun h => Bool.noConfusion h, ⟨by show (-1 : Int) ≤ -1; decide, by show (-1 : Int) ≤ 1000000; decide⟩, by simp [bH.yU], h2, h3⟩
theorem MP (hin : s.inn = true) (hx : x ≠ 0) (H : aA w0 w (dN e s • F)) : fQ prog 37 #[.pointer (some ⟨e, 0, none⟩), .int .i64 x] w fun v w' => v = .int .i64 x ∧ aA w0 w' (dN e s.yU • F) := by
 have hpe : s.uU = 0 := by unfold bH.uU; rw [if_pos hin]
 refine iw func37 ntmps37 ?_
 dsimp only [aZ, Nat.reduceAdd]
 refine ay (ah (aW rfl (aB (aj (ay (ay (ah (aP rfl (dD rfl func81 (lq H) ?_)))))))))
 rintro _ _ ⟨rfl, rfl⟩
 refine aW rfl (aB (aj (ay (ah (aP rfl (aU (dG rfl rfl) (aB (aj (aO rfl (fun h => by exfalso; (try simp only [aG] at h); exact h hpe) (fun h1 => ?_))))))))))
 (try simp only [aG] at h1)
 refine aQ (aj (ay ?_))
 obtain ⟨qZ, ru, rC, rD, rE, rF, rG, rH, oL, mZ, ng, ni, ny, nC, nD, nG, nH, nI, nJ, nK, dL, bM, iC, eU⟩ := (H).Ey
 have HI := eU
 rw [hin] at HI
 obtain ⟨qb, qr, qw, qt, qm, hu, HW⟩ := (HI.f11).was
 simp only [JZ, List.cons.injEq, and_true] at hu
 obtain ⟨rfl, rfl, rfl, rfl, rfl, rfl, rfl, rfl, rfl, rfl, rfl⟩ := hu
 refine ah (aP rfl (bT rfl (bf 16 underlying69 rfl sizeOf4 rfl (aI (aS 16 (l' := [_, _, _, _, _, _, _, _, _, _, _, _, _, _, _, _, _, _, _, _, _, _, _, _, _, _, _, _, _, _, _, _, _, _]) HW.f6 sizeOf4 rfl rfl (by first | rfl | assumption) rfl rfl) ?_))))
 rintro _ w3 H3
 refine aB (aj (ay (ay (ah (aP rfl (bT rfl (bf 31 underlying69 rfl sizeOf4 rfl (dA underlying4 rfl (H3).get.2 rfl (aU (jT rfl) (jL rfl (fun h2 => ?_) (fun h2 => ?_)))))))))))
 ·(try simp only [aG] at h2)
  refine bK (bK (jP rfl rfl (aB (aj (Dj (ah (aP rfl (aP rfl (aP rfl (bT rfl (bf 13 underlying69 rfl sizeOf4 rfl (aI (aS 13 (l' := [_, _, _, _, _, _, _, _, _, _, _, _, _, _, _, _, _, _, _, _, _, _, _, _, _, _, _, _, _, _, _, _, _, _]) H3 sizeOf4 rfl rfl (by first | rfl | assumption) rfl rfl) ?_))))))))))))
  rintro _ w4 H4
  refine bT rfl (bf 14 underlying69 rfl sizeOf4 rfl (aI (aS 14 (l' := [_, _, _, _, _, _, _, _, _, _, _, _, _, _, _, _, _, _, _, _, _, _, _, _, _, _, _, _, _, _, _, _, _, _]) H4 sizeOf4 rfl rfl (by first | rfl | assumption) rfl rfl) ?_))
  rintro _ w5 H5
  refine bT rfl (bf 15 underlying69 rfl sizeOf3 rfl (aI (aS 15 (l' := [_, _, _, _, _, _, _, _, _, _, _, _, _, _, _, _, _, _, _, _, _, _, _, _, _, _, _, _, _, _, _, _, _, _]) H5 sizeOf3 rfl rfl (by first | rfl | assumption) rfl rfl) ?_))
  rintro _ w6 H6
  refine aB (aj (ay (ay (ah (aP rfl (aU (dG rfl rfl) (aB (aj (aO rfl (fun h3 => ?_) (fun h => by exfalso; (try simp only [aG] at h); exact hx h))))))))))
  (try simp only [aG] at h3)
  refine ay (ah (aP rfl (aP rfl (bT rfl (bf 17 underlying69 rfl sizeOf64 rfl (aU (kY 17 (xs := [_, _, _, _, _, _, _, _, _, _, _]) underlying64 rfl sizeOf64 rfl rfl (H6).get.2 rfl) (bT rfl (bf 0 underlying69 rfl sizeOf64 rfl (aI (bC 0 (l' := [_, _, _, _, _, _, _, _, _, _, _, _, _, _, _, _, _, _, _, _, _, _, _, _, _, _, _, _, _, _, _, _, _, _]) (us := [_, _, _, _, _, _, _, _, _, _, _]) H6 sizeOf64 rfl rfl rfl (aC (by first | rfl | assumption) (aC (by first | rfl | assumption) (aC (by first | rfl | assumption) (aC (by first | rfl | assumption) (aC (by first | rfl | assumption) (aC (by first | rfl | assumption) (aC (by first | rfl | assumption) (aC (by first | rfl | assumption) (aC (by first | rfl | assumption) (aC (by first | rfl | assumption) (aC (by first | rfl | assumption) bg))))))))))) rfl rfl) ?_)))))))))
  rintro _ w7 H7
  refine aB (aj (ay (ah (aP rfl (bT rfl (bf 12 underlying69 rfl sizeOf66 rfl (dA underlying66 rfl (H7).get.2 rfl (dD rfl func82 (Ac H7.f13) ?_))))))))
  rintro _ w8 ⟨rfl, H8⟩
  refine aB (aj (ay (ah (aP rfl (aP rfl (aP rfl (aP rfl (bT rfl (bf 0 underlying69 rfl sizeOf64 rfl (bf 6 underlying64 rfl sizeOf3 rfl (aI (aS 6 (l' := [_, _, _, _, _, _, _, _, _, _, _, _, _, _, _, _, _, _, _, _, _, _, _, _, _, _, _, _, _, _, _, _, _, _]) H8.f2 sizeOf3 rfl rfl (by first | rfl | assumption) rfl rfl) ?_)))))))))))
  rintro _ w9 H9
  refine bT rfl (bf 0 underlying69 rfl sizeOf64 rfl (bf 7 underlying64 rfl sizeOf3 rfl (aI (aS 7 (l' := [_, _, _, _, _, _, _, _, _, _, _, _, _, _, _, _, _, _, _, _, _, _, _, _, _, _, _, _, _, _, _, _, _, _]) H9 sizeOf3 rfl rfl (by first | rfl | assumption) rfl rfl) ?_)))
  rintro _ w10 qK
  refine bT rfl (bf 0 underlying69 rfl sizeOf64 rfl (bf 8 underlying64 rfl sizeOf3 rfl (aI (aS 8 (l' := [_, _, _, _, _, _, _, _, _, _, _, _, _, _, _, _, _, _, _, _, _, _, _, _, _, _, _, _, _, _, _, _, _, _]) qK sizeOf3 rfl rfl (by first | rfl | assumption) rfl rfl) ?_)))
  rintro _ IV vK
  refine bT rfl (bf 33 underlying69 rfl sizeOf67 rfl (aI (aS 33 (l' := [_, _, _, _, _, _, _, _, _, _, _, _, _, _, _, _, _, _, _, _, _, _, _, _, _, _, _, _, _, _, _, _, _, _]) vK sizeOf67 rfl rfl (by first | rfl | assumption) rfl rfl) ?_))
  rintro _ w12 vM
  refine aB (aj (ay (ah (aP rfl (aW rfl (aB (aj (aN (aK (aT (.inl rfl) results37 rfl ?_))))))))))
  exact ⟨rfl, aA.MK (s := s.yU) (SV dL hin) rfl rfl vM.f8.right.f8.right.f8.right.f8.right.f8.right.f9.right.f9.right.f2.f8.f8.f8.f8.f8.f8.f8⟩
 ·(try simp only [aG] at h2)
  refine bn (aP rfl (bn (aU (dG rfl rfl) (jd rfl rfl (aB (aj (aO rfl (fun h4 => ?_) (fun h => by exfalso; (try simp only [aG] at h); exact hx h))))))))
  (try simp only [aG] at h4)
  refine ah (aP rfl (aP rfl (aP rfl (bT rfl (bf 13 underlying69 rfl sizeOf4 rfl (aI (aS 13 (l' := [_, _, _, _, _, _, _, _, _, _, _, _, _, _, _, _, _, _, _, _, _, _, _, _, _, _, _, _, _, _, _, _, _, _]) H3 sizeOf4 rfl rfl (by first | rfl | assumption) rfl rfl) ?_))))))
  rintro _ OY xq
  refine bT rfl (bf 14 underlying69 rfl sizeOf4 rfl (aI (aS 14 (l' := [_, _, _, _, _, _, _, _, _, _, _, _, _, _, _, _, _, _, _, _, _, _, _, _, _, _, _, _, _, _, _, _, _, _]) xq sizeOf4 rfl rfl (by first | rfl | assumption) rfl rfl) ?_))
  rintro _ OZ yR
  refine bT rfl (bf 15 underlying69 rfl sizeOf3 rfl (aI (aS 15 (l' := [_, _, _, _, _, _, _, _, _, _, _, _, _, _, _, _, _, _, _, _, _, _, _, _, _, _, _, _, _, _, _, _, _, _]) yR sizeOf3 rfl rfl (by first | rfl | assumption) rfl rfl) ?_))
  rintro _ QV xu
  refine aB (aj (ay (ay (ah (aP rfl (aU (dG rfl rfl) (aB (aj (aO rfl (fun h5 => ?_) (fun h => by exfalso; (try simp only [aG] at h); exact hx h))))))))))
  (try simp only [aG] at h5)
  refine ay (ah (aP rfl (aP rfl (bT rfl (bf 17 underlying69 rfl sizeOf64 rfl (aU (kY 17 (xs := [_, _, _, _, _, _, _, _, _, _, _]) underlying64 rfl sizeOf64 rfl rfl (xu).get.2 rfl) (bT rfl (bf 0 underlying69 rfl sizeOf64 rfl (aI (bC 0 (l' := [_, _, _, _, _, _, _, _, _, _, _, _, _, _, _, _, _, _, _, _, _, _, _, _, _, _, _, _, _, _, _, _, _, _]) (us := [_, _, _, _, _, _, _, _, _, _, _]) xu sizeOf64 rfl rfl rfl (aC (by first | rfl | assumption) (aC (by first | rfl | assumption) (aC (by first | rfl | assumption) (aC (by first | rfl | assumption) (aC (by first | rfl | assumption) (aC (by first | rfl | assumption) (aC (by first | rfl | assumption) (aC (by first | rfl | assumption) (aC (by first | rfl | assumption) (aC (by first | rfl | assumption) (aC (by first | rfl | assumption) bg))))))))))) rfl rfl) ?_)))))))))
  rintro _ w16 sW
  refine aB (aj (ay (ah (aP rfl (bT rfl (bf 12 underlying69 rfl sizeOf66 rfl (dA underlying66 rfl (sW).get.2 rfl (dD rfl func82 (Ac sW.f13) ?_))))))))
  rintro _ UA ⟨rfl, zf⟩
  refine aB (aj (ay (ah (aP rfl (aP rfl (aP rfl (aP rfl (bT rfl (bf 0 underlying69 rfl sizeOf64 rfl (bf 6 underlying64 rfl sizeOf3 rfl (aI (aS 6 (l' := [_, _, _, _, _, _, _, _, _, _, _, _, _, _, _, _, _, _, _, _, _, _, _, _, _, _, _, _, _, _, _, _, _, _]) zf.f2 sizeOf3 rfl rfl (by first | rfl | assumption) rfl rfl) ?_)))))))))))
  rintro _ TR Au
  refine bT rfl (bf 0 underlying69 rfl sizeOf64 rfl (bf 7 underlying64 rfl sizeOf3 rfl (aI (aS 7 (l' := [_, _, _, _, _, _, _, _, _, _, _, _, _, _, _, _, _, _, _, _, _, _, _, _, _, _, _, _, _, _, _, _, _, _]) Au sizeOf3 rfl rfl (by first | rfl | assumption) rfl rfl) ?_)))
  rintro _ TS xX
  refine bT rfl (bf 0 underlying69 rfl sizeOf64 rfl (bf 8 underlying64 rfl sizeOf3 rfl (aI (aS 8 (l' := [_, _, _, _, _, _, _, _, _, _, _, _, _, _, _, _, _, _, _, _, _, _, _, _, _, _, _, _, _, _, _, _, _, _]) xX sizeOf3 rfl rfl (by first | rfl | assumption) rfl rfl) ?_)))
  rintro _ QW zh
  refine bT rfl (bf 33 underlying69 rfl sizeOf67 rfl (aI (aS 33 (l' := [_, _, _, _, _, _, _, _, _, _, _, _, _, _, _, _, _, _, _, _, _, _, _, _, _, _, _, _, _, _, _, _, _, _]) zh sizeOf67 rfl rfl (by first | rfl | assumption) rfl rfl) ?_))
  rintro _ TT oW
  refine aB (aj (ay (ah (aP rfl (aW rfl (aB (aj (aN (aK (aT (.inl rfl) results37 rfl ?_))))))))))
  exact ⟨rfl, aA.MK (s := s.yU) (SV dL hin) rfl rfl oW.f8.right.f8.right.f8.right.f8.right.f8.right.f9.right.f9.right.f2.f8.f8.f8.f8.f8.f8.f8⟩
theorem wH (H : aA w0 w (dN e s • F)) : fQ prog 37 #[.pointer (some ⟨e, 0, none⟩), .int .i64 x] w fun v w' => v = .int .i64 (s.Bd x) ∧ aA w0 w' (dN e (s.oC x) • F) := by
 by_cases hin : s.inn = true
 ·by_cases hx : x = 0
  ·subst hx
   rw [show s.oC 0 = s.lH from by unfold bH.oC; rw [if_pos hin, if_pos rfl], show s.Bd 0 = 0 from by unfold bH.Bd; rw [if_pos hin]]
   exact Kr hin H
  ·rw [(Gt hin hx).1, (Gt hin hx).2]
   exact MP hin hx H
 ·have hin' : s.inn = false := by simpa using hin
  have hpe : s.uU = 1 := by unfold bH.uU; rw [if_neg hin]
  rw [show s.oC x = s from by unfold bH.oC; rw [if_neg hin], show s.Bd x = 1 from by unfold bH.Bd; rw [if_neg hin]]
  refine iw func37 ntmps37 ?_
  dsimp only [aZ, Nat.reduceAdd]
  refine ay (ah (aW rfl (aB (aj (ay (ay (ah (aP rfl (dD rfl func81 (lq H) ?_)))))))))
  rintro _ _ ⟨rfl, rfl⟩
  refine aW rfl (aB (aj (ay (ah (aP rfl (aU (dG rfl rfl) (aB (aj (aO rfl (fun h1 => ?_) (fun h => by exfalso; (try simp only [aG] at h); rw [hpe] at h; exact absurd h (by decide)))))))))))
  (try simp only [aG] at h1)
  refine ay (ah (aP rfl (aW rfl (aB (aj (aN (aK (aT (.inl rfl) results37 rfl ?_))))))))
  rw [hpe]
  exact ⟨rfl, H⟩
end
end Go.Proofs.YtddekefihgejoaaGreatDoor
end
