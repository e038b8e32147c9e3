import Derived.Test.YtddekefihgejoaaGreatDoorZ2
import Derived.Test.YtddekefihgejoaaGreatDoorZ12
set_option linter.unusedSimpArgs false
set_option linter.unusedVariables false
/- Texts of mine, joined, their names in short: EdE. -/
section
namespace Go.Proofs.YtddekefihgejoaaGreatDoor
open Go.RowKit
open _root_.Go.Proofs.Tryz
theorem vN (s : bH) (on : Bool) : (s.dA on).c.run = s.c.run := by unfold bH.dA; split <;> rfl
theorem En (s : bH) (on : Bool) : (s.dA on).cls = s.cls := by unfold bH.dA; split <;> rfl
theorem iq {s s1 : bH} {on run : Bool} (h1 : s1 = s.gJ) (hon : (s.typed && s.c.run) = on) (hrun : (s.typed && (!s.put.isEmpty || s.c.run)) = run) (h2 : (s1.dA on).cls ≠ 2) :
    s.kZ = { s1.dA on with c := { (s1.dA on).c with run := run, last := (s1.dA on).cls, fr := 0, to := 0 } } := by
  subst h1 hon hrun
  have hc : (s.gJ.dA (s.typed && s.c.run)).cls = s.cls := by rw [En]; unfold bH.gJ; split <;> rfl
  unfold bH.kZ
  rw [hc] at h2 ⊢
  dsimp only
  rw [if_pos h2]
theorem fZ {s s1 : bH} {on run : Bool} (h1 : s1 = s.gJ) (hon : (s.typed && s.c.run) = on) (hrun : (s.typed && (!s.put.isEmpty || s.c.run)) = run) (h2 : (s1.dA on).cls = 2) :
    s.kZ = { s1.dA on with c := { (s1.dA on).c with run := run, last := (s1.dA on).cls } } := by
  subst h1 hon hrun
  have hc : (s.gJ.dA (s.typed && s.c.run)).cls = s.cls := by rw [En]; unfold bH.gJ; split <;> rfl
  unfold bH.kZ
  rw [hc] at h2 ⊢
  dsimp only
  rw [if_neg (by omega)]
theorem qM {s : bH} (h : jY s) : jY s.gJ := by
  obtain ⟨h1, h2, h3, h4, h5, h6⟩ := h
  unfold bH.gJ
  split
  · exact ⟨h1, fun h => Bool.noConfusion h, h3, h4, h5, h6⟩
  · exact ⟨h1, fun h => Bool.noConfusion h, ⟨by show (-1 : Int) ≤ -1; decide, by show (-1 : Int) ≤ 1000000; decide⟩, h4, h5, h6⟩
theorem kE {l : List fJ} : l.isEmpty = decide (l.length = 0) := by cases l <;> rfl
section
variable {w0 w : World} {F : HP} {e p : Nat} {s : bH} {x : Int}
theorem JF (hin : s.inn = true) (H : aB w0 w (dO e s • F)) : gG prog 37 #[.pointer (some ⟨e, 0, none⟩), .int .i64 0] w fun v w' => v = .int .i64 0 ∧ aB w0 w' (dO e s.kZ • F) := by
  have hpe : s.uJ = 0 := by unfold bH.uJ; rw [if_pos hin]
  refine iF func37 ntmps37 ?_
  dsimp only [bg, Nat.reduceAdd]
  refine ay (ah (aW rfl (aA (aj (ay (ay (ah (aI rfl (dH rfl func81 (kR H) ?_)))))))))
  rintro _ _ ⟨rfl, rfl⟩
  refine aW rfl (aA (aj (ay (ah (aI rfl (aU (gy rfl rfl) (aA (aj (aP rfl (fun h => by exfalso; (try simp only [aG] at h); exact h hpe) (fun h1 => ?_))))))))))
  (try simp only [aG] at h1)
  refine aO (aj (ay ?_))
  obtain ⟨qy, qA, qB, qC, qE, qF, qG, qH, oq, mM, mO, mP, mQ, mV, mW, mX, mY, mZ, ng, ni, dI, bM, ig, eH⟩ := (H).D9
  refine ah (aI rfl (bQ rfl (bC 16 underlying69 rfl sizeOf4 rfl (aJ (aS 16 (l' := [_, _, _, _, _, _, _, _, _, _, _, _, _, _, _, _, _, _, _, _, _, _, _, _, _, _, _, _, _, _, _, _, _, _]) eH sizeOf4 rfl rfl (by first | rfl | assumption) rfl rfl) ?_))))
  rintro _ w3 H3
  refine aA (aj (ay (ay (ah (aI rfl (bQ rfl (bC 31 underlying69 rfl sizeOf4 rfl (eu underlying4 rfl (H3).get.2 rfl (aU (gQ rfl) (iM rfl (fun h2 => ?_) (fun h2 => ?_)))))))))))
  · (try simp only [aG] at h2)
    have har : s.argues = false := by simpa using h2
    have hs1 : ({ s.zy with inn := false } : bH) = s.gJ := by unfold bH.gJ; rw [if_neg (by simp [har])]
    refine aZ (aZ (fK rfl rfl (aA (aj (zM (ah (aI rfl (aI rfl (aI rfl (bQ rfl (bC 13 underlying69 rfl sizeOf4 rfl (aJ (aS 13 (l' := [_, _, _, _, _, _, _, _, _, _, _, _, _, _, _, _, _, _, _, _, _, _, _, _, _, _, _, _, _, _, _, _, _, _]) H3 sizeOf4 rfl rfl (by first | rfl | assumption) rfl rfl) ?_))))))))))))
    rintro _ w4 H4
    refine bQ rfl (bC 14 underlying69 rfl sizeOf4 rfl (aJ (aS 14 (l' := [_, _, _, _, _, _, _, _, _, _, _, _, _, _, _, _, _, _, _, _, _, _, _, _, _, _, _, _, _, _, _, _, _, _]) H4 sizeOf4 rfl rfl (by first | rfl | assumption) rfl rfl) ?_))
    rintro _ w5 H5
    refine bQ rfl (bC 15 underlying69 rfl sizeOf3 rfl (aJ (aS 15 (l' := [_, _, _, _, _, _, _, _, _, _, _, _, _, _, _, _, _, _, _, _, _, _, _, _, _, _, _, _, _, _, _, _, _, _]) H5 sizeOf3 rfl rfl (by first | rfl | assumption) rfl rfl) ?_))
    rintro _ w6 H6
    refine aA (aj (ay (ay (ah (aI rfl (aU (gy rfl rfl) (aA (aj (aP rfl (fun h => by exfalso; (try simp only [aG] at h); simp at h) (fun h3 => ?_))))))))))
    (try simp only [aG] at h3)
    refine aO (aj (ay ?_))
    have Eo := H6.drew
    have fV := aB.kp (Eo.f11.f11.f11.f11.f11.f11.f11.f11.f11.f11.f11)
    refine wo [3, 9, 14] fV rfl (gV 0 rfl fV rfl (iZ 1 rfl fV rfl (dV 2 rfl fV 28 underlying69 rfl sizeOf3 rfl (iy 3 rfl fV (fun W hW => iQ underlying3 rfl ((Kp.h hW)).get.2 rfl) (iR 4 rfl fV (fun _ => gU rfl rfl) ?_)))))
    refine Ir 5 rfl rfl (by kernel_rfl) (by kernel_rfl) fV (lY rfl) (fun h4 => ?_) (fun h4 => ?_)
    · (try simp only [aG] at h4)
      have hc3 : s.cls = 3 := h4
      refine kU 6 rfl rfl rfl (by kernel_rfl) (by kernel_rfl) fV (fun _ => CZ rfl) (lY rfl) ?_
      refine kU 7 rfl rfl rfl (by kernel_rfl) (by kernel_rfl) fV (fun _ => Mc rfl) (lY rfl) ?_
      refine kU 8 rfl rfl rfl (by kernel_rfl) (by kernel_rfl) fV (fun _ => Dh 32 underlying69 rfl rfl sizeOf4 (by decide) rfl rfl) (lY rfl) ?_
      refine AO 9 rfl rfl rfl (by kernel_rfl) (by kernel_rfl) fV (by decide) (fun W hW => dZ (bU underlying4 rfl) rfl (iC ((Kp.h hW)).get.2 rfl)) (lY rfl) ?_
      refine iR 10 rfl fV (fun _ => C9 rfl rfl) (gV 11 rfl fV rfl (iZ 12 rfl fV rfl (dV 13 rfl fV 33 underlying69 rfl sizeOf67 rfl (iy 14 rfl fV (fun W hW => iQ underlying67 rfl ((Kp.h hW)).get.2 rfl) (iR 15 rfl fV (fun _ => eX ((Eo.f9).aT) underlying67 rfl) (iR 16 rfl fV (fun _ => fB rfl rfl) (iR 17 rfl fV (fun _ => fA rfl) (iR 18 rfl fV (fun _ => fA rfl) (nJ (aj (ay (ah (aI rfl (aI rfl (iM rfl (fun h5 => ?_) (fun h5 => ?_))))))))))))))))
      · (try simp only [aG] at h5)
        have hwh : s.whole = true := h5
        have hty : s.typed = true := by unfold bH.typed; rw [hc3, hwh]; rfl
        refine aY (aI rfl (aY (bQ rfl (aY (bC 0 underlying69 rfl sizeOf64 rfl (aY (bC 10 underlying64 rfl sizeOf4 rfl (aY (eu underlying4 rfl (Eo).get.2 rfl (fK rfl rfl ?_))))))))))
        have TK := Eo.f11.right
        have HW0 := aB.yD (c := s.was) (u := [mM, mO, mP, mQ, mV, mW, mX, mY, mZ, ng, ni]) TK
        obtain ⟨s1, jU, Rn⟩ : ∃ s1, s1 = s.gJ ∧ aB w0 (w6.drew) (dO e s1 • F) := ⟨_, hs1, aB.dY (hs1 ▸ qM dI) bM HW0.f11.f11.f11.f11.f11.f11.f11.f11.f11.f11⟩
        have hr1 : s1.c.run = s.c.run := by rw [jU]; unfold bH.gJ; split <;> rfl
        refine dH rfl func83 (jT Rn) ?_
        rintro _ w8 H8
        obtain ⟨on, hon, HZ⟩ : ∃ on, (s.typed && s.c.run) = on ∧ aB w0 w8 (dO e (s1.dA on) • F) := ⟨_, by rw [hty]; rfl, H8⟩
        refine aA (aj (ay ?_))
        obtain ⟨qy, qA, qB, qC, qE, qF, qG, qH, oq, mM, mO, mP, mQ, mV, mW, mX, mY, mZ, ng, ni, dI, bM, ig, eH⟩ := (HZ).D9
        refine ah (aI rfl (aI rfl (iM rfl (fun h6 => ?_) (fun h6 => ?_))))
        · (try simp only [aG] at h6)
          have hw2 : s.whole = true := h6
          refine aY (aI rfl (aY (iM rfl (fun h7 => ?_) (fun h7 => ?_))))
          · (try simp only [aG] at h7)
            have hrun : (s.typed && (!s.put.isEmpty || s.c.run)) = true := by first | exact absurd (hw2.symm.trans hwh) (by decide) | (rw [kE, decide_eq_false (show ¬ s.put.length = 0 by omega), hty]; rfl)
            refine aZ (aZ (aZ (aZ (aZ (aY (fK rfl rfl (fK rfl rfl (bQ rfl (bC 0 underlying69 rfl sizeOf64 rfl (bC 10 underlying64 rfl sizeOf4 rfl (aJ (aS 10 (l' := [_, _, _, _, _, _, _, _, _, _, _, _, _, _, _, _, _, _, _, _, _, _, _, _, _, _, _, _, _, _, _, _, _, _]) eH sizeOf4 rfl rfl (by first | rfl | assumption) rfl rfl) ?_)))))))))))
            rintro _ w10 qL
            refine aA (aj (ay (ah (aI rfl (aI rfl (bQ rfl (bC 28 underlying69 rfl sizeOf3 rfl (eu underlying3 rfl (qL).get.2 rfl (bQ rfl (bC 0 underlying69 rfl sizeOf64 rfl (bC 6 underlying64 rfl sizeOf3 rfl (aJ (aS 6 (l' := [_, _, _, _, _, _, _, _, _, _, _, _, _, _, _, _, _, _, _, _, _, _, _, _, _, _, _, _, _, _, _, _, _, _]) qL sizeOf3 rfl rfl (by first | rfl | assumption) rfl rfl) ?_))))))))))))
            rintro _ Gq sD
            refine aA (aj (ay (ay (ah (aI rfl (bQ rfl (bC 28 underlying69 rfl sizeOf3 rfl (eu underlying3 rfl (sD).get.2 rfl (aU (gy rfl rfl) (aA (aj (aP rfl (fun h8 => ?_) (fun h8 => ?_)))))))))))))
            · (try simp only [aG] at h8)
              have oL := iq jU hon hrun h8
              refine ah (aI rfl (aI rfl (bQ rfl (bC 0 underlying69 rfl sizeOf64 rfl (bC 7 underlying64 rfl sizeOf3 rfl (aJ (aS 7 (l' := [_, _, _, _, _, _, _, _, _, _, _, _, _, _, _, _, _, _, _, _, _, _, _, _, _, _, _, _, _, _, _, _, _, _]) sD sizeOf3 rfl rfl (by first | rfl | assumption) rfl rfl) ?_))))))
              rintro _ w12 vV
              refine bQ rfl (bC 0 underlying69 rfl sizeOf64 rfl (bC 8 underlying64 rfl sizeOf3 rfl (aJ (aS 8 (l' := [_, _, _, _, _, _, _, _, _, _, _, _, _, _, _, _, _, _, _, _, _, _, _, _, _, _, _, _, _, _, _, _, _, _]) vV sizeOf3 rfl rfl (by first | rfl | assumption) rfl rfl) ?_)))
              rintro _ O7 xQ
              refine aA (aj (ay (ah (aW rfl (aA (aj (aK (aQ (.inl rfl) results37 rfl ?_))))))))
              refine ⟨rfl, ?_⟩
              first
                | exact absurd (hw2.symm.trans hwh) (by decide)
                | exact absurd (hwh.symm.trans hw2) (by decide)
                | (rw [oL]; exact aB.dY dI bM xQ.f11.f11.f11.f11.f11.f11.f11.f11.f11.f11.f11)
            · (try simp only [aG] at h8)
              have oL := fZ jU hon hrun h8
              refine aO (aj (ay (ah (aW rfl (aA (aj (aK (aQ (.inl rfl) results37 rfl ?_))))))))
              refine ⟨rfl, ?_⟩
              first
                | exact absurd (hw2.symm.trans hwh) (by decide)
                | exact absurd (hwh.symm.trans hw2) (by decide)
                | (rw [oL]; exact aB.dY dI bM sD.f11.f11.f11.f11.f11.f11.f11.f11.f11.f11.f11)
          · (try simp only [aG] at h7)
            have hrun : (s.typed && (!s.put.isEmpty || s.c.run)) = (s1.dA on).c.run := by first | exact absurd (hw2.symm.trans hwh) (by decide) | (rw [kE, decide_eq_true (show s.put.length = 0 by omega), hty, vN, hr1]; rfl)
            refine aY (aI rfl (aY (bQ rfl (aY (bC 0 underlying69 rfl sizeOf64 rfl (aY (bC 10 underlying64 rfl sizeOf4 rfl (aY (eu underlying4 rfl (eH).get.2 rfl (aY (fC rfl rfl (fK rfl rfl (bQ rfl (bC 0 underlying69 rfl sizeOf64 rfl (bC 10 underlying64 rfl sizeOf4 rfl (aJ (aS 10 (l' := [_, _, _, _, _, _, _, _, _, _, _, _, _, _, _, _, _, _, _, _, _, _, _, _, _, _, _, _, _, _, _, _, _, _]) eH sizeOf4 rfl rfl (by first | rfl | assumption) rfl rfl) ?_))))))))))))))))
            rintro _ O8 zN
            refine aA (aj (ay (ah (aI rfl (aI rfl (bQ rfl (bC 28 underlying69 rfl sizeOf3 rfl (eu underlying3 rfl (zN).get.2 rfl (bQ rfl (bC 0 underlying69 rfl sizeOf64 rfl (bC 6 underlying64 rfl sizeOf3 rfl (aJ (aS 6 (l' := [_, _, _, _, _, _, _, _, _, _, _, _, _, _, _, _, _, _, _, _, _, _, _, _, _, _, _, _, _, _, _, _, _, _]) zN sizeOf3 rfl rfl (by first | rfl | assumption) rfl rfl) ?_))))))))))))
            rintro _ Sv xE
            refine aA (aj (ay (ay (ah (aI rfl (bQ rfl (bC 28 underlying69 rfl sizeOf3 rfl (eu underlying3 rfl (xE).get.2 rfl (aU (gy rfl rfl) (aA (aj (aP rfl (fun h9 => ?_) (fun h9 => ?_)))))))))))))
            · (try simp only [aG] at h9)
              have oL := iq jU hon hrun h9
              refine ah (aI rfl (aI rfl (bQ rfl (bC 0 underlying69 rfl sizeOf64 rfl (bC 7 underlying64 rfl sizeOf3 rfl (aJ (aS 7 (l' := [_, _, _, _, _, _, _, _, _, _, _, _, _, _, _, _, _, _, _, _, _, _, _, _, _, _, _, _, _, _, _, _, _, _]) xE sizeOf3 rfl rfl (by first | rfl | assumption) rfl rfl) ?_))))))
              rintro _ w16 rV
              refine bQ rfl (bC 0 underlying69 rfl sizeOf64 rfl (bC 8 underlying64 rfl sizeOf3 rfl (aJ (aS 8 (l' := [_, _, _, _, _, _, _, _, _, _, _, _, _, _, _, _, _, _, _, _, _, _, _, _, _, _, _, _, _, _, _, _, _, _]) rV sizeOf3 rfl rfl (by first | rfl | assumption) rfl rfl) ?_)))
              rintro _ UF zO
              refine aA (aj (ay (ah (aW rfl (aA (aj (aK (aQ (.inl rfl) results37 rfl ?_))))))))
              refine ⟨rfl, ?_⟩
              first
                | exact absurd (hw2.symm.trans hwh) (by decide)
                | exact absurd (hwh.symm.trans hw2) (by decide)
                | (rw [oL]; exact aB.dY dI bM zO.f11.f11.f11.f11.f11.f11.f11.f11.f11.f11.f11)
            · (try simp only [aG] at h9)
              have oL := fZ jU hon hrun h9
              refine aO (aj (ay (ah (aW rfl (aA (aj (aK (aQ (.inl rfl) results37 rfl ?_))))))))
              refine ⟨rfl, ?_⟩
              first
                | exact absurd (hw2.symm.trans hwh) (by decide)
                | exact absurd (hwh.symm.trans hw2) (by decide)
                | (rw [oL]; exact aB.dY dI bM xE.f11.f11.f11.f11.f11.f11.f11.f11.f11.f11.f11)
        · (try simp only [aG] at h6)
          have hw2 : s.whole = false := by simpa using h6
          have hrun : (s.typed && (!s.put.isEmpty || s.c.run)) = false := by first | exact absurd (hwh.symm.trans hw2) (by decide) | (rw [hty]; rfl)
          refine aZ (aZ (bT (bT (bT (bT (bT (aZ (fC rfl rfl (bQ rfl (bC 0 underlying69 rfl sizeOf64 rfl (bC 10 underlying64 rfl sizeOf4 rfl (aJ (aS 10 (l' := [_, _, _, _, _, _, _, _, _, _, _, _, _, _, _, _, _, _, _, _, _, _, _, _, _, _, _, _, _, _, _, _, _, _]) eH sizeOf4 rfl rfl (by first | rfl | assumption) rfl rfl) ?_))))))))))))
          rintro _ Tz Bd
          refine aA (aj (ay (ah (aI rfl (aI rfl (bQ rfl (bC 28 underlying69 rfl sizeOf3 rfl (eu underlying3 rfl (Bd).get.2 rfl (bQ rfl (bC 0 underlying69 rfl sizeOf64 rfl (bC 6 underlying64 rfl sizeOf3 rfl (aJ (aS 6 (l' := [_, _, _, _, _, _, _, _, _, _, _, _, _, _, _, _, _, _, _, _, _, _, _, _, _, _, _, _, _, _, _, _, _, _]) Bd sizeOf3 rfl rfl (by first | rfl | assumption) rfl rfl) ?_))))))))))))
          rintro _ Sz xk
          refine aA (aj (ay (ay (ah (aI rfl (bQ rfl (bC 28 underlying69 rfl sizeOf3 rfl (eu underlying3 rfl (xk).get.2 rfl (aU (gy rfl rfl) (aA (aj (aP rfl (fun h10 => ?_) (fun h10 => ?_)))))))))))))
          · (try simp only [aG] at h10)
            have oL := iq jU hon hrun h10
            refine ah (aI rfl (aI rfl (bQ rfl (bC 0 underlying69 rfl sizeOf64 rfl (bC 7 underlying64 rfl sizeOf3 rfl (aJ (aS 7 (l' := [_, _, _, _, _, _, _, _, _, _, _, _, _, _, _, _, _, _, _, _, _, _, _, _, _, _, _, _, _, _, _, _, _, _]) xk sizeOf3 rfl rfl (by first | rfl | assumption) rfl rfl) ?_))))))
            rintro _ SA yJ
            refine bQ rfl (bC 0 underlying69 rfl sizeOf64 rfl (bC 8 underlying64 rfl sizeOf3 rfl (aJ (aS 8 (l' := [_, _, _, _, _, _, _, _, _, _, _, _, _, _, _, _, _, _, _, _, _, _, _, _, _, _, _, _, _, _, _, _, _, _]) yJ sizeOf3 rfl rfl (by first | rfl | assumption) rfl rfl) ?_)))
            rintro _ TA pF
            refine aA (aj (ay (ah (aW rfl (aA (aj (aK (aQ (.inl rfl) results37 rfl ?_))))))))
            refine ⟨rfl, ?_⟩
            first
              | exact absurd (hw2.symm.trans hwh) (by decide)
              | exact absurd (hwh.symm.trans hw2) (by decide)
              | (rw [oL]; exact aB.dY dI bM pF.f11.f11.f11.f11.f11.f11.f11.f11.f11.f11.f11)
          · (try simp only [aG] at h10)
            have oL := fZ jU hon hrun h10
            refine aO (aj (ay (ah (aW rfl (aA (aj (aK (aQ (.inl rfl) results37 rfl ?_))))))))
            refine ⟨rfl, ?_⟩
            first
              | exact absurd (hw2.symm.trans hwh) (by decide)
              | exact absurd (hwh.symm.trans hw2) (by decide)
              | (rw [oL]; exact aB.dY dI bM xk.f11.f11.f11.f11.f11.f11.f11.f11.f11.f11.f11)
      · (try simp only [aG] at h5)
        have hwh : s.whole = false := by simpa using h5
        have hty : s.typed = false := by unfold bH.typed; rw [hc3, hwh]; rfl
        have hrun : (s.typed && (!s.put.isEmpty || s.c.run)) = false := by rw [hty]; rfl
        refine aZ (aZ (aZ (aZ (aZ (fC rfl rfl ?_)))))
        have BX := Eo.f11.right
        have HW0 := aB.yD (c := s.was) (u := [mM, mO, mP, mQ, mV, mW, mX, mY, mZ, ng, ni]) BX
        obtain ⟨s1, jU, Rn⟩ : ∃ s1, s1 = s.gJ ∧ aB w0 (w6.drew) (dO e s1 • F) := ⟨_, hs1, aB.dY (hs1 ▸ qM dI) bM HW0.f11.f11.f11.f11.f11.f11.f11.f11.f11.f11⟩
        have hr1 : s1.c.run = s.c.run := by rw [jU]; unfold bH.gJ; split <;> rfl
        refine dH rfl func83 (jT Rn) ?_
        rintro _ PZ vY
        obtain ⟨on, hon, HZ⟩ : ∃ on, (s.typed && s.c.run) = on ∧ aB w0 PZ (dO e (s1.dA on) • F) := ⟨_, by rw [hty]; rfl, vY⟩
        refine aA (aj (ay ?_))
        obtain ⟨qy, qA, qB, qC, qE, qF, qG, qH, oq, mM, mO, mP, mQ, mV, mW, mX, mY, mZ, ng, ni, dI, bM, ig, eH⟩ := (HZ).D9
        refine ah (aI rfl (aI rfl (iM rfl (fun h11 => ?_) (fun h11 => ?_))))
        · (try simp only [aG] at h11)
          have hw2 : s.whole = true := h11
          refine aY (aI rfl (aY (iM rfl (fun h12 => ?_) (fun h12 => ?_))))
          · (try simp only [aG] at h12)
            have hrun : (s.typed && (!s.put.isEmpty || s.c.run)) = true := by first | exact absurd (hw2.symm.trans hwh) (by decide) | (rw [kE, decide_eq_false (show ¬ s.put.length = 0 by omega), hty]; rfl)
            refine aZ (aZ (aZ (aZ (aZ (aY (fK rfl rfl (fK rfl rfl (bQ rfl (bC 0 underlying69 rfl sizeOf64 rfl (bC 10 underlying64 rfl sizeOf4 rfl (aJ (aS 10 (l' := [_, _, _, _, _, _, _, _, _, _, _, _, _, _, _, _, _, _, _, _, _, _, _, _, _, _, _, _, _, _, _, _, _, _]) eH sizeOf4 rfl rfl (by first | rfl | assumption) rfl rfl) ?_)))))))))))
            rintro _ Xi IZ
            refine aA (aj (ay (ah (aI rfl (aI rfl (bQ rfl (bC 28 underlying69 rfl sizeOf3 rfl (eu underlying3 rfl (IZ).get.2 rfl (bQ rfl (bC 0 underlying69 rfl sizeOf64 rfl (bC 6 underlying64 rfl sizeOf3 rfl (aJ (aS 6 (l' := [_, _, _, _, _, _, _, _, _, _, _, _, _, _, _, _, _, _, _, _, _, _, _, _, _, _, _, _, _, _, _, _, _, _]) IZ sizeOf3 rfl rfl (by first | rfl | assumption) rfl rfl) ?_))))))))))))
            rintro _ YQ MI
            refine aA (aj (ay (ay (ah (aI rfl (bQ rfl (bC 28 underlying69 rfl sizeOf3 rfl (eu underlying3 rfl (MI).get.2 rfl (aU (gy rfl rfl) (aA (aj (aP rfl (fun h13 => ?_) (fun h13 => ?_)))))))))))))
            · (try simp only [aG] at h13)
              have oL := iq jU hon hrun h13
              refine ah (aI rfl (aI rfl (bQ rfl (bC 0 underlying69 rfl sizeOf64 rfl (bC 7 underlying64 rfl sizeOf3 rfl (aJ (aS 7 (l' := [_, _, _, _, _, _, _, _, _, _, _, _, _, _, _, _, _, _, _, _, _, _, _, _, _, _, _, _, _, _, _, _, _, _]) MI sizeOf3 rfl rfl (by first | rfl | assumption) rfl rfl) ?_))))))
              rintro _ YR Ih
              refine bQ rfl (bC 0 underlying69 rfl sizeOf64 rfl (bC 8 underlying64 rfl sizeOf3 rfl (aJ (aS 8 (l' := [_, _, _, _, _, _, _, _, _, _, _, _, _, _, _, _, _, _, _, _, _, _, _, _, _, _, _, _, _, _, _, _, _, _]) Ih sizeOf3 rfl rfl (by first | rfl | assumption) rfl rfl) ?_)))
              rintro _ YS SC
              refine aA (aj (ay (ah (aW rfl (aA (aj (aK (aQ (.inl rfl) results37 rfl ?_))))))))
              refine ⟨rfl, ?_⟩
              first
                | exact absurd (hw2.symm.trans hwh) (by decide)
                | exact absurd (hwh.symm.trans hw2) (by decide)
                | (rw [oL]; exact aB.dY dI bM SC.f11.f11.f11.f11.f11.f11.f11.f11.f11.f11.f11)
            · (try simp only [aG] at h13)
              have oL := fZ jU hon hrun h13
              refine aO (aj (ay (ah (aW rfl (aA (aj (aK (aQ (.inl rfl) results37 rfl ?_))))))))
              refine ⟨rfl, ?_⟩
              first
                | exact absurd (hw2.symm.trans hwh) (by decide)
                | exact absurd (hwh.symm.trans hw2) (by decide)
                | (rw [oL]; exact aB.dY dI bM MI.f11.f11.f11.f11.f11.f11.f11.f11.f11.f11.f11)
          · (try simp only [aG] at h12)
            have hrun : (s.typed && (!s.put.isEmpty || s.c.run)) = (s1.dA on).c.run := by first | exact absurd (hw2.symm.trans hwh) (by decide) | (rw [kE, decide_eq_true (show s.put.length = 0 by omega), hty, vN, hr1]; rfl)
            refine aY (aI rfl (aY (bQ rfl (aY (bC 0 underlying69 rfl sizeOf64 rfl (aY (bC 10 underlying64 rfl sizeOf4 rfl (aY (eu underlying4 rfl (eH).get.2 rfl (aY (fC rfl rfl (fK rfl rfl (bQ rfl (bC 0 underlying69 rfl sizeOf64 rfl (bC 10 underlying64 rfl sizeOf4 rfl (aJ (aS 10 (l' := [_, _, _, _, _, _, _, _, _, _, _, _, _, _, _, _, _, _, _, _, _, _, _, _, _, _, _, _, _, _, _, _, _, _]) eH sizeOf4 rfl rfl (by first | rfl | assumption) rfl rfl) ?_))))))))))))))))
            rintro _ Zm Ob
            refine aA (aj (ay (ah (aI rfl (aI rfl (bQ rfl (bC 28 underlying69 rfl sizeOf3 rfl (eu underlying3 rfl (Ob).get.2 rfl (bQ rfl (bC 0 underlying69 rfl sizeOf64 rfl (bC 6 underlying64 rfl sizeOf3 rfl (aJ (aS 6 (l' := [_, _, _, _, _, _, _, _, _, _, _, _, _, _, _, _, _, _, _, _, _, _, _, _, _, _, _, _, _, _, _, _, _, _]) Ob sizeOf3 rfl rfl (by first | rfl | assumption) rfl rfl) ?_))))))))))))
            rintro _ YT J7
            refine aA (aj (ay (ay (ah (aI rfl (bQ rfl (bC 28 underlying69 rfl sizeOf3 rfl (eu underlying3 rfl (J7).get.2 rfl (aU (gy rfl rfl) (aA (aj (aP rfl (fun h14 => ?_) (fun h14 => ?_)))))))))))))
            · (try simp only [aG] at h14)
              have oL := iq jU hon hrun h14
              refine ah (aI rfl (aI rfl (bQ rfl (bC 0 underlying69 rfl sizeOf64 rfl (bC 7 underlying64 rfl sizeOf3 rfl (aJ (aS 7 (l' := [_, _, _, _, _, _, _, _, _, _, _, _, _, _, _, _, _, _, _, _, _, _, _, _, _, _, _, _, _, _, _, _, _, _]) J7 sizeOf3 rfl rfl (by first | rfl | assumption) rfl rfl) ?_))))))
              rintro _ Wv J8
              refine bQ rfl (bC 0 underlying69 rfl sizeOf64 rfl (bC 8 underlying64 rfl sizeOf3 rfl (aJ (aS 8 (l' := [_, _, _, _, _, _, _, _, _, _, _, _, _, _, _, _, _, _, _, _, _, _, _, _, _, _, _, _, _, _, _, _, _, _]) J8 sizeOf3 rfl rfl (by first | rfl | assumption) rfl rfl) ?_)))
              rintro _ w32 EI
              refine aA (aj (ay (ah (aW rfl (aA (aj (aK (aQ (.inl rfl) results37 rfl ?_))))))))
              refine ⟨rfl, ?_⟩
              first
                | exact absurd (hw2.symm.trans hwh) (by decide)
                | exact absurd (hwh.symm.trans hw2) (by decide)
                | (rw [oL]; exact aB.dY dI bM EI.f11.f11.f11.f11.f11.f11.f11.f11.f11.f11.f11)
            · (try simp only [aG] at h14)
              have oL := fZ jU hon hrun h14
              refine aO (aj (ay (ah (aW rfl (aA (aj (aK (aQ (.inl rfl) results37 rfl ?_))))))))
              refine ⟨rfl, ?_⟩
              first
                | exact absurd (hw2.symm.trans hwh) (by decide)
                | exact absurd (hwh.symm.trans hw2) (by decide)
                | (rw [oL]; exact aB.dY dI bM J7.f11.f11.f11.f11.f11.f11.f11.f11.f11.f11.f11)
        · (try simp only [aG] at h11)
          have hw2 : s.whole = false := by simpa using h11
          have hrun : (s.typed && (!s.put.isEmpty || s.c.run)) = false := by first | exact absurd (hwh.symm.trans hw2) (by decide) | (rw [hty]; rfl)
          refine aZ (aZ (bT (bT (bT (bT (bT (aZ (fC rfl rfl (bQ rfl (bC 0 underlying69 rfl sizeOf64 rfl (bC 10 underlying64 rfl sizeOf4 rfl (aJ (aS 10 (l' := [_, _, _, _, _, _, _, _, _, _, _, _, _, _, _, _, _, _, _, _, _, _, _, _, _, _, _, _, _, _, _, _, _, _]) eH sizeOf4 rfl rfl (by first | rfl | assumption) rfl rfl) ?_))))))))))))
          rintro _ YU KL
          refine aA (aj (ay (ah (aI rfl (aI rfl (bQ rfl (bC 28 underlying69 rfl sizeOf3 rfl (eu underlying3 rfl (KL).get.2 rfl (bQ rfl (bC 0 underlying69 rfl sizeOf64 rfl (bC 6 underlying64 rfl sizeOf3 rfl (aJ (aS 6 (l' := [_, _, _, _, _, _, _, _, _, _, _, _, _, _, _, _, _, _, _, _, _, _, _, _, _, _, _, _, _, _, _, _, _, _]) KL sizeOf3 rfl rfl (by first | rfl | assumption) rfl rfl) ?_))))))))))))
          rintro _ Y0 Nh
          refine aA (aj (ay (ay (ah (aI rfl (bQ rfl (bC 28 underlying69 rfl sizeOf3 rfl (eu underlying3 rfl (Nh).get.2 rfl (aU (gy rfl rfl) (aA (aj (aP rfl (fun h15 => ?_) (fun h15 => ?_)))))))))))))
          · (try simp only [aG] at h15)
            have oL := iq jU hon hrun h15
            refine ah (aI rfl (aI rfl (bQ rfl (bC 0 underlying69 rfl sizeOf64 rfl (bC 7 underlying64 rfl sizeOf3 rfl (aJ (aS 7 (l' := [_, _, _, _, _, _, _, _, _, _, _, _, _, _, _, _, _, _, _, _, _, _, _, _, _, _, _, _, _, _, _, _, _, _]) Nh sizeOf3 rfl rfl (by first | rfl | assumption) rfl rfl) ?_))))))
            rintro _ w35 TT
            refine bQ rfl (bC 0 underlying69 rfl sizeOf64 rfl (bC 8 underlying64 rfl sizeOf3 rfl (aJ (aS 8 (l' := [_, _, _, _, _, _, _, _, _, _, _, _, _, _, _, _, _, _, _, _, _, _, _, _, _, _, _, _, _, _, _, _, _, _]) TT sizeOf3 rfl rfl (by first | rfl | assumption) rfl rfl) ?_)))
            rintro _ w36 WE
            refine aA (aj (ay (ah (aW rfl (aA (aj (aK (aQ (.inl rfl) results37 rfl ?_))))))))
            refine ⟨rfl, ?_⟩
            first
              | exact absurd (hw2.symm.trans hwh) (by decide)
              | exact absurd (hwh.symm.trans hw2) (by decide)
              | (rw [oL]; exact aB.dY dI bM WE.f11.f11.f11.f11.f11.f11.f11.f11.f11.f11.f11)
          · (try simp only [aG] at h15)
            have oL := fZ jU hon hrun h15
            refine aO (aj (ay (ah (aW rfl (aA (aj (aK (aQ (.inl rfl) results37 rfl ?_))))))))
            refine ⟨rfl, ?_⟩
            first
              | exact absurd (hw2.symm.trans hwh) (by decide)
              | exact absurd (hwh.symm.trans hw2) (by decide)
              | (rw [oL]; exact aB.dY dI bM Nh.f11.f11.f11.f11.f11.f11.f11.f11.f11.f11.f11)
    · (try simp only [aG] at h4)
      have hty : s.typed = false := by unfold bH.typed; rw [beq_false_of_ne h4]; rfl
      have hrun : (s.typed && (!s.put.isEmpty || s.c.run)) = false := by rw [hty]; rfl
      refine AP 6 rfl rfl rfl rfl (by kernel_rfl) (by kernel_rfl) fV (lY rfl) ?_
      refine AP 7 rfl rfl rfl rfl (by kernel_rfl) (by kernel_rfl) fV (lY rfl) ?_
      refine AP 8 rfl rfl rfl rfl (by kernel_rfl) (by kernel_rfl) fV (lY rfl) ?_
      refine AP 9 rfl rfl rfl rfl (by kernel_rfl) (by kernel_rfl) fV (lY rfl) ?_
      refine iR 10 rfl fV (fun _ => Dc rfl rfl) (gV 11 rfl fV rfl (iZ 12 rfl fV rfl (dV 13 rfl fV 33 underlying69 rfl sizeOf67 rfl (iy 14 rfl fV (fun W hW => iQ underlying67 rfl ((Kp.h hW)).get.2 rfl) (iR 15 rfl fV (fun _ => eX ((Eo.f9).aT) underlying67 rfl) (iR 16 rfl fV (fun _ => fB rfl rfl) (iR 17 rfl fV (fun _ => fA rfl) (iR 18 rfl fV (fun _ => fA rfl) (nJ (aj (ay (ah (aI rfl (aI rfl (aI rfl (aZ (aZ (aZ (aZ (aZ (fC rfl rfl ?_)))))))))))))))))))))
      have VZ := Eo.f11.right
      have HW0 := aB.yD (c := s.was) (u := [mM, mO, mP, mQ, mV, mW, mX, mY, mZ, ng, ni]) VZ
      obtain ⟨s1, jU, Rn⟩ : ∃ s1, s1 = s.gJ ∧ aB w0 (w6.drew) (dO e s1 • F) := ⟨_, hs1, aB.dY (hs1 ▸ qM dI) bM HW0.f11.f11.f11.f11.f11.f11.f11.f11.f11.f11⟩
      have hr1 : s1.c.run = s.c.run := by rw [jU]; unfold bH.gJ; split <;> rfl
      refine dH rfl func83 (jT Rn) ?_
      rintro _ Y1 Lm
      obtain ⟨on, hon, HZ⟩ : ∃ on, (s.typed && s.c.run) = on ∧ aB w0 Y1 (dO e (s1.dA on) • F) := ⟨_, by rw [hty]; rfl, Lm⟩
      refine aA (aj (ay ?_))
      obtain ⟨qy, qA, qB, qC, qE, qF, qG, qH, oq, mM, mO, mP, mQ, mV, mW, mX, mY, mZ, ng, ni, dI, bM, ig, eH⟩ := (HZ).D9
      refine ah (aI rfl (aI rfl (aI rfl (aZ (aZ (bT (bT (bT (bT (bT (aZ (fC rfl rfl (bQ rfl (bC 0 underlying69 rfl sizeOf64 rfl (bC 10 underlying64 rfl sizeOf4 rfl (aJ (aS 10 (l' := [_, _, _, _, _, _, _, _, _, _, _, _, _, _, _, _, _, _, _, _, _, _, _, _, _, _, _, _, _, _, _, _, _, _]) eH sizeOf4 rfl rfl (by first | rfl | assumption) rfl rfl) ?_))))))))))))))))
      rintro _ w40 Yp
      refine aA (aj (ay (ah (aI rfl (aI rfl (bQ rfl (bC 28 underlying69 rfl sizeOf3 rfl (eu underlying3 rfl (Yp).get.2 rfl (bQ rfl (bC 0 underlying69 rfl sizeOf64 rfl (bC 6 underlying64 rfl sizeOf3 rfl (aJ (aS 6 (l' := [_, _, _, _, _, _, _, _, _, _, _, _, _, _, _, _, _, _, _, _, _, _, _, _, _, _, _, _, _, _, _, _, _, _]) Yp sizeOf3 rfl rfl (by first | rfl | assumption) rfl rfl) ?_))))))))))))
      rintro _ w41 TU
      refine aA (aj (ay (ay (ah (aI rfl (bQ rfl (bC 28 underlying69 rfl sizeOf3 rfl (eu underlying3 rfl (TU).get.2 rfl (aU (gy rfl rfl) (aA (aj (aP rfl (fun h16 => ?_) (fun h16 => ?_)))))))))))))
      · (try simp only [aG] at h16)
        have oL := iq jU hon hrun h16
        refine ah (aI rfl (aI rfl (bQ rfl (bC 0 underlying69 rfl sizeOf64 rfl (bC 7 underlying64 rfl sizeOf3 rfl (aJ (aS 7 (l' := [_, _, _, _, _, _, _, _, _, _, _, _, _, _, _, _, _, _, _, _, _, _, _, _, _, _, _, _, _, _, _, _, _, _]) TU sizeOf3 rfl rfl (by first | rfl | assumption) rfl rfl) ?_))))))
        rintro _ w42 SE
        refine bQ rfl (bC 0 underlying69 rfl sizeOf64 rfl (bC 8 underlying64 rfl sizeOf3 rfl (aJ (aS 8 (l' := [_, _, _, _, _, _, _, _, _, _, _, _, _, _, _, _, _, _, _, _, _, _, _, _, _, _, _, _, _, _, _, _, _, _]) SE sizeOf3 rfl rfl (by first | rfl | assumption) rfl rfl) ?_)))
        rintro _ Y2 SG
        refine aA (aj (ay (ah (aW rfl (aA (aj (aK (aQ (.inl rfl) results37 rfl ?_))))))))
        refine ⟨rfl, ?_⟩
        first
          | exact absurd (hw2.symm.trans hwh) (by decide)
          | exact absurd (hwh.symm.trans hw2) (by decide)
          | (rw [oL]; exact aB.dY dI bM SG.f11.f11.f11.f11.f11.f11.f11.f11.f11.f11.f11)
      · (try simp only [aG] at h16)
        have oL := fZ jU hon hrun h16
        refine aO (aj (ay (ah (aW rfl (aA (aj (aK (aQ (.inl rfl) results37 rfl ?_))))))))
        refine ⟨rfl, ?_⟩
        first
          | exact absurd (hw2.symm.trans hwh) (by decide)
          | exact absurd (hwh.symm.trans hw2) (by decide)
          | (rw [oL]; exact aB.dY dI bM TU.f11.f11.f11.f11.f11.f11.f11.f11.f11.f11.f11)
  · (try simp only [aG] at h2)
    have har : s.argues = true := by simpa using h2
    have hs1 : ({ s with inn := false } : bH) = s.gJ := by unfold bH.gJ; rw [if_pos har]
    refine aY (aI rfl (aY (aU (gy rfl rfl) (fC rfl rfl (aA (aj (aP rfl (fun h => by exfalso; (try simp only [aG] at h); simp at h) (fun h17 => ?_))))))))
    (try simp only [aG] at h17)
    refine aO (aj (ay (ay (ah (aI rfl (aU (gy rfl rfl) (aA (aj (aP rfl (fun h => by exfalso; (try simp only [aG] at h); simp at h) (fun h18 => ?_))))))))))
    (try simp only [aG] at h18)
    refine aO (aj (ay ?_))
    have yH := H3.drew
    have dP := aB.kp (yH.f11.f11.f11.f11.f11.f11.f11.f11.f11.f11.f11)
    refine wo [3, 9, 14] dP rfl (gV 0 rfl dP rfl (iZ 1 rfl dP rfl (dV 2 rfl dP 28 underlying69 rfl sizeOf3 rfl (iy 3 rfl dP (fun W hW => iQ underlying3 rfl ((Kp.h hW)).get.2 rfl) (iR 4 rfl dP (fun _ => gU rfl rfl) ?_)))))
    refine Ir 5 rfl rfl (by kernel_rfl) (by kernel_rfl) dP (lY rfl) (fun h19 => ?_) (fun h19 => ?_)
    · (try simp only [aG] at h19)
      have hc3 : s.cls = 3 := h19
      refine kU 6 rfl rfl rfl (by kernel_rfl) (by kernel_rfl) dP (fun _ => CZ rfl) (lY rfl) ?_
      refine kU 7 rfl rfl rfl (by kernel_rfl) (by kernel_rfl) dP (fun _ => Mc rfl) (lY rfl) ?_
      refine kU 8 rfl rfl rfl (by kernel_rfl) (by kernel_rfl) dP (fun _ => Dh 32 underlying69 rfl rfl sizeOf4 (by decide) rfl rfl) (lY rfl) ?_
      refine AO 9 rfl rfl rfl (by kernel_rfl) (by kernel_rfl) dP (by decide) (fun W hW => dZ (bU underlying4 rfl) rfl (iC ((Kp.h hW)).get.2 rfl)) (lY rfl) ?_
      refine iR 10 rfl dP (fun _ => C9 rfl rfl) (gV 11 rfl dP rfl (iZ 12 rfl dP rfl (dV 13 rfl dP 33 underlying69 rfl sizeOf67 rfl (iy 14 rfl dP (fun W hW => iQ underlying67 rfl ((Kp.h hW)).get.2 rfl) (iR 15 rfl dP (fun _ => eX ((yH.f9).aT) underlying67 rfl) (iR 16 rfl dP (fun _ => fB rfl rfl) (iR 17 rfl dP (fun _ => fA rfl) (iR 18 rfl dP (fun _ => fA rfl) (nJ (aj (ay (ah (aI rfl (aI rfl (iM rfl (fun h20 => ?_) (fun h20 => ?_))))))))))))))))
      · (try simp only [aG] at h20)
        have hwh : s.whole = true := h20
        have hty : s.typed = true := by unfold bH.typed; rw [hc3, hwh]; rfl
        refine aY (aI rfl (aY (bQ rfl (aY (bC 0 underlying69 rfl sizeOf64 rfl (aY (bC 10 underlying64 rfl sizeOf4 rfl (aY (eu underlying4 rfl (yH).get.2 rfl (fK rfl rfl ?_))))))))))
        have aaJ := yH.f11.right
        have HW0 := aB.yD (c := s.was) (u := [mM, mO, mP, mQ, mV, mW, mX, mY, mZ, ng, ni]) aaJ
        obtain ⟨s1, jU, Rn⟩ : ∃ s1, s1 = s.gJ ∧ aB w0 (w3.drew) (dO e s1 • F) := ⟨_, hs1, aB.dY (hs1 ▸ qM dI) bM HW0.f11.f11.f11.f11.f11.f11.f11.f11.f11.f11⟩
        have hr1 : s1.c.run = s.c.run := by rw [jU]; unfold bH.gJ; split <;> rfl
        refine dH rfl func83 (jT Rn) ?_
        rintro _ Y3 J9
        obtain ⟨on, hon, HZ⟩ : ∃ on, (s.typed && s.c.run) = on ∧ aB w0 Y3 (dO e (s1.dA on) • F) := ⟨_, by rw [hty]; rfl, J9⟩
        refine aA (aj (ay ?_))
        obtain ⟨qy, qA, qB, qC, qE, qF, qG, qH, oq, mM, mO, mP, mQ, mV, mW, mX, mY, mZ, ng, ni, dI, bM, ig, eH⟩ := (HZ).D9
        refine ah (aI rfl (aI rfl (iM rfl (fun h21 => ?_) (fun h21 => ?_))))
        · (try simp only [aG] at h21)
          have hw2 : s.whole = true := h21
          refine aY (aI rfl (aY (iM rfl (fun h22 => ?_) (fun h22 => ?_))))
          · (try simp only [aG] at h22)
            have hrun : (s.typed && (!s.put.isEmpty || s.c.run)) = true := by first | exact absurd (hw2.symm.trans hwh) (by decide) | (rw [kE, decide_eq_false (show ¬ s.put.length = 0 by omega), hty]; rfl)
            refine aZ (aZ (aZ (aZ (aZ (aY (fK rfl rfl (fK rfl rfl (bQ rfl (bC 0 underlying69 rfl sizeOf64 rfl (bC 10 underlying64 rfl sizeOf4 rfl (aJ (aS 10 (l' := [_, _, _, _, _, _, _, _, _, _, _, _, _, _, _, _, _, _, _, _, _, _, _, _, _, _, _, _, _, _, _, _, _, _]) eH sizeOf4 rfl rfl (by first | rfl | assumption) rfl rfl) ?_)))))))))))
            rintro _ w47 V4
            refine aA (aj (ay (ah (aI rfl (aI rfl (bQ rfl (bC 28 underlying69 rfl sizeOf3 rfl (eu underlying3 rfl (V4).get.2 rfl (bQ rfl (bC 0 underlying69 rfl sizeOf64 rfl (bC 6 underlying64 rfl sizeOf3 rfl (aJ (aS 6 (l' := [_, _, _, _, _, _, _, _, _, _, _, _, _, _, _, _, _, _, _, _, _, _, _, _, _, _, _, _, _, _, _, _, _, _]) V4 sizeOf3 rfl rfl (by first | rfl | assumption) rfl rfl) ?_))))))))))))
            rintro _ w48 H48
            refine aA (aj (ay (ay (ah (aI rfl (bQ rfl (bC 28 underlying69 rfl sizeOf3 rfl (eu underlying3 rfl (H48).get.2 rfl (aU (gy rfl rfl) (aA (aj (aP rfl (fun h23 => ?_) (fun h23 => ?_)))))))))))))
            · (try simp only [aG] at h23)
              have oL := iq jU hon hrun h23
              refine ah (aI rfl (aI rfl (bQ rfl (bC 0 underlying69 rfl sizeOf64 rfl (bC 7 underlying64 rfl sizeOf3 rfl (aJ (aS 7 (l' := [_, _, _, _, _, _, _, _, _, _, _, _, _, _, _, _, _, _, _, _, _, _, _, _, _, _, _, _, _, _, _, _, _, _]) H48 sizeOf3 rfl rfl (by first | rfl | assumption) rfl rfl) ?_))))))
              rintro _ w49 Y4
              refine bQ rfl (bC 0 underlying69 rfl sizeOf64 rfl (bC 8 underlying64 rfl sizeOf3 rfl (aJ (aS 8 (l' := [_, _, _, _, _, _, _, _, _, _, _, _, _, _, _, _, _, _, _, _, _, _, _, _, _, _, _, _, _, _, _, _, _, _]) Y4 sizeOf3 rfl rfl (by first | rfl | assumption) rfl rfl) ?_)))
              rintro _ w50 WG
              refine aA (aj (ay (ah (aW rfl (aA (aj (aK (aQ (.inl rfl) results37 rfl ?_))))))))
              refine ⟨rfl, ?_⟩
              first
                | exact absurd (hw2.symm.trans hwh) (by decide)
                | exact absurd (hwh.symm.trans hw2) (by decide)
                | (rw [oL]; exact aB.dY dI bM WG.f11.f11.f11.f11.f11.f11.f11.f11.f11.f11.f11)
            · (try simp only [aG] at h23)
              have oL := fZ jU hon hrun h23
              refine aO (aj (ay (ah (aW rfl (aA (aj (aK (aQ (.inl rfl) results37 rfl ?_))))))))
              refine ⟨rfl, ?_⟩
              first
                | exact absurd (hw2.symm.trans hwh) (by decide)
                | exact absurd (hwh.symm.trans hw2) (by decide)
                | (rw [oL]; exact aB.dY dI bM H48.f11.f11.f11.f11.f11.f11.f11.f11.f11.f11.f11)
          · (try simp only [aG] at h22)
            have hrun : (s.typed && (!s.put.isEmpty || s.c.run)) = (s1.dA on).c.run := by first | exact absurd (hw2.symm.trans hwh) (by decide) | (rw [kE, decide_eq_true (show s.put.length = 0 by omega), hty, vN, hr1]; rfl)
            refine aY (aI rfl (aY (bQ rfl (aY (bC 0 underlying69 rfl sizeOf64 rfl (aY (bC 10 underlying64 rfl sizeOf4 rfl (aY (eu underlying4 rfl (eH).get.2 rfl (aY (fC rfl rfl (fK rfl rfl (bQ rfl (bC 0 underlying69 rfl sizeOf64 rfl (bC 10 underlying64 rfl sizeOf4 rfl (aJ (aS 10 (l' := [_, _, _, _, _, _, _, _, _, _, _, _, _, _, _, _, _, _, _, _, _, _, _, _, _, _, _, _, _, _, _, _, _, _]) eH sizeOf4 rfl rfl (by first | rfl | assumption) rfl rfl) ?_))))))))))))))))
            rintro _ w51 VR
            refine aA (aj (ay (ah (aI rfl (aI rfl (bQ rfl (bC 28 underlying69 rfl sizeOf3 rfl (eu underlying3 rfl (VR).get.2 rfl (bQ rfl (bC 0 underlying69 rfl sizeOf64 rfl (bC 6 underlying64 rfl sizeOf3 rfl (aJ (aS 6 (l' := [_, _, _, _, _, _, _, _, _, _, _, _, _, _, _, _, _, _, _, _, _, _, _, _, _, _, _, _, _, _, _, _, _, _]) VR sizeOf3 rfl rfl (by first | rfl | assumption) rfl rfl) ?_))))))))))))
            rintro _ w52 U0
            refine aA (aj (ay (ay (ah (aI rfl (bQ rfl (bC 28 underlying69 rfl sizeOf3 rfl (eu underlying3 rfl (U0).get.2 rfl (aU (gy rfl rfl) (aA (aj (aP rfl (fun h24 => ?_) (fun h24 => ?_)))))))))))))
            · (try simp only [aG] at h24)
              have oL := iq jU hon hrun h24
              refine ah (aI rfl (aI rfl (bQ rfl (bC 0 underlying69 rfl sizeOf64 rfl (bC 7 underlying64 rfl sizeOf3 rfl (aJ (aS 7 (l' := [_, _, _, _, _, _, _, _, _, _, _, _, _, _, _, _, _, _, _, _, _, _, _, _, _, _, _, _, _, _, _, _, _, _]) U0 sizeOf3 rfl rfl (by first | rfl | assumption) rfl rfl) ?_))))))
              rintro _ w53 WH
              refine bQ rfl (bC 0 underlying69 rfl sizeOf64 rfl (bC 8 underlying64 rfl sizeOf3 rfl (aJ (aS 8 (l' := [_, _, _, _, _, _, _, _, _, _, _, _, _, _, _, _, _, _, _, _, _, _, _, _, _, _, _, _, _, _, _, _, _, _]) WH sizeOf3 rfl rfl (by first | rfl | assumption) rfl rfl) ?_)))
              rintro _ w54 H54
              refine aA (aj (ay (ah (aW rfl (aA (aj (aK (aQ (.inl rfl) results37 rfl ?_))))))))
              refine ⟨rfl, ?_⟩
              first
                | exact absurd (hw2.symm.trans hwh) (by decide)
                | exact absurd (hwh.symm.trans hw2) (by decide)
                | (rw [oL]; exact aB.dY dI bM H54.f11.f11.f11.f11.f11.f11.f11.f11.f11.f11.f11)
            · (try simp only [aG] at h24)
              have oL := fZ jU hon hrun h24
              refine aO (aj (ay (ah (aW rfl (aA (aj (aK (aQ (.inl rfl) results37 rfl ?_))))))))
              refine ⟨rfl, ?_⟩
              first
                | exact absurd (hw2.symm.trans hwh) (by decide)
                | exact absurd (hwh.symm.trans hw2) (by decide)
                | (rw [oL]; exact aB.dY dI bM U0.f11.f11.f11.f11.f11.f11.f11.f11.f11.f11.f11)
        · (try simp only [aG] at h21)
          have hw2 : s.whole = false := by simpa using h21
          have hrun : (s.typed && (!s.put.isEmpty || s.c.run)) = false := by first | exact absurd (hwh.symm.trans hw2) (by decide) | (rw [hty]; rfl)
          refine aZ (aZ (bT (bT (bT (bT (bT (aZ (fC rfl rfl (bQ rfl (bC 0 underlying69 rfl sizeOf64 rfl (bC 10 underlying64 rfl sizeOf4 rfl (aJ (aS 10 (l' := [_, _, _, _, _, _, _, _, _, _, _, _, _, _, _, _, _, _, _, _, _, _, _, _, _, _, _, _, _, _, _, _, _, _]) eH sizeOf4 rfl rfl (by first | rfl | assumption) rfl rfl) ?_))))))))))))
          rintro _ w55 Y5
          refine aA (aj (ay (ah (aI rfl (aI rfl (bQ rfl (bC 28 underlying69 rfl sizeOf3 rfl (eu underlying3 rfl (Y5).get.2 rfl (bQ rfl (bC 0 underlying69 rfl sizeOf64 rfl (bC 6 underlying64 rfl sizeOf3 rfl (aJ (aS 6 (l' := [_, _, _, _, _, _, _, _, _, _, _, _, _, _, _, _, _, _, _, _, _, _, _, _, _, _, _, _, _, _, _, _, _, _]) Y5 sizeOf3 rfl rfl (by first | rfl | assumption) rfl rfl) ?_))))))))))))
          rintro _ w56 H56
          refine aA (aj (ay (ay (ah (aI rfl (bQ rfl (bC 28 underlying69 rfl sizeOf3 rfl (eu underlying3 rfl (H56).get.2 rfl (aU (gy rfl rfl) (aA (aj (aP rfl (fun h25 => ?_) (fun h25 => ?_)))))))))))))
          · (try simp only [aG] at h25)
            have oL := iq jU hon hrun h25
            refine ah (aI rfl (aI rfl (bQ rfl (bC 0 underlying69 rfl sizeOf64 rfl (bC 7 underlying64 rfl sizeOf3 rfl (aJ (aS 7 (l' := [_, _, _, _, _, _, _, _, _, _, _, _, _, _, _, _, _, _, _, _, _, _, _, _, _, _, _, _, _, _, _, _, _, _]) H56 sizeOf3 rfl rfl (by first | rfl | assumption) rfl rfl) ?_))))))
            rintro _ w57 H57
            refine bQ rfl (bC 0 underlying69 rfl sizeOf64 rfl (bC 8 underlying64 rfl sizeOf3 rfl (aJ (aS 8 (l' := [_, _, _, _, _, _, _, _, _, _, _, _, _, _, _, _, _, _, _, _, _, _, _, _, _, _, _, _, _, _, _, _, _, _]) H57 sizeOf3 rfl rfl (by first | rfl | assumption) rfl rfl) ?_)))
            rintro _ w58 TV
            refine aA (aj (ay (ah (aW rfl (aA (aj (aK (aQ (.inl rfl) results37 rfl ?_))))))))
            refine ⟨rfl, ?_⟩
            first
              | exact absurd (hw2.symm.trans hwh) (by decide)
              | exact absurd (hwh.symm.trans hw2) (by decide)
              | (rw [oL]; exact aB.dY dI bM TV.f11.f11.f11.f11.f11.f11.f11.f11.f11.f11.f11)
          · (try simp only [aG] at h25)
            have oL := fZ jU hon hrun h25
            refine aO (aj (ay (ah (aW rfl (aA (aj (aK (aQ (.inl rfl) results37 rfl ?_))))))))
            refine ⟨rfl, ?_⟩
            first
              | exact absurd (hw2.symm.trans hwh) (by decide)
              | exact absurd (hwh.symm.trans hw2) (by decide)
              | (rw [oL]; exact aB.dY dI bM H56.f11.f11.f11.f11.f11.f11.f11.f11.f11.f11.f11)
      · (try simp only [aG] at h20)
        have hwh : s.whole = false := by simpa using h20
        have hty : s.typed = false := by unfold bH.typed; rw [hc3, hwh]; rfl
        have hrun : (s.typed && (!s.put.isEmpty || s.c.run)) = false := by rw [hty]; rfl
        refine aZ (aZ (aZ (aZ (aZ (fC rfl rfl ?_)))))
        have aaK := yH.f11.right
        have HW0 := aB.yD (c := s.was) (u := [mM, mO, mP, mQ, mV, mW, mX, mY, mZ, ng, ni]) aaK
        obtain ⟨s1, jU, Rn⟩ : ∃ s1, s1 = s.gJ ∧ aB w0 (w3.drew) (dO e s1 • F) := ⟨_, hs1, aB.dY (hs1 ▸ qM dI) bM HW0.f11.f11.f11.f11.f11.f11.f11.f11.f11.f11⟩
        have hr1 : s1.c.run = s.c.run := by rw [jU]; unfold bH.gJ; split <;> rfl
        refine dH rfl func83 (jT Rn) ?_
        rintro _ w60 WI
        obtain ⟨on, hon, HZ⟩ : ∃ on, (s.typed && s.c.run) = on ∧ aB w0 w60 (dO e (s1.dA on) • F) := ⟨_, by rw [hty]; rfl, WI⟩
        refine aA (aj (ay ?_))
        obtain ⟨qy, qA, qB, qC, qE, qF, qG, qH, oq, mM, mO, mP, mQ, mV, mW, mX, mY, mZ, ng, ni, dI, bM, ig, eH⟩ := (HZ).D9
        refine ah (aI rfl (aI rfl (iM rfl (fun h26 => ?_) (fun h26 => ?_))))
        · (try simp only [aG] at h26)
          have hw2 : s.whole = true := h26
          refine aY (aI rfl (aY (iM rfl (fun h27 => ?_) (fun h27 => ?_))))
          · (try simp only [aG] at h27)
            have hrun : (s.typed && (!s.put.isEmpty || s.c.run)) = true := by first | exact absurd (hw2.symm.trans hwh) (by decide) | (rw [kE, decide_eq_false (show ¬ s.put.length = 0 by omega), hty]; rfl)
            refine aZ (aZ (aZ (aZ (aZ (aY (fK rfl rfl (fK rfl rfl (bQ rfl (bC 0 underlying69 rfl sizeOf64 rfl (bC 10 underlying64 rfl sizeOf4 rfl (aJ (aS 10 (l' := [_, _, _, _, _, _, _, _, _, _, _, _, _, _, _, _, _, _, _, _, _, _, _, _, _, _, _, _, _, _, _, _, _, _]) eH sizeOf4 rfl rfl (by first | rfl | assumption) rfl rfl) ?_)))))))))))
            rintro _ w62 X8
            refine aA (aj (ay (ah (aI rfl (aI rfl (bQ rfl (bC 28 underlying69 rfl sizeOf3 rfl (eu underlying3 rfl (X8).get.2 rfl (bQ rfl (bC 0 underlying69 rfl sizeOf64 rfl (bC 6 underlying64 rfl sizeOf3 rfl (aJ (aS 6 (l' := [_, _, _, _, _, _, _, _, _, _, _, _, _, _, _, _, _, _, _, _, _, _, _, _, _, _, _, _, _, _, _, _, _, _]) X8 sizeOf3 rfl rfl (by first | rfl | assumption) rfl rfl) ?_))))))))))))
            rintro _ w63 Ya
            refine aA (aj (ay (ay (ah (aI rfl (bQ rfl (bC 28 underlying69 rfl sizeOf3 rfl (eu underlying3 rfl (Ya).get.2 rfl (aU (gy rfl rfl) (aA (aj (aP rfl (fun h28 => ?_) (fun h28 => ?_)))))))))))))
            · (try simp only [aG] at h28)
              have oL := iq jU hon hrun h28
              refine ah (aI rfl (aI rfl (bQ rfl (bC 0 underlying69 rfl sizeOf64 rfl (bC 7 underlying64 rfl sizeOf3 rfl (aJ (aS 7 (l' := [_, _, _, _, _, _, _, _, _, _, _, _, _, _, _, _, _, _, _, _, _, _, _, _, _, _, _, _, _, _, _, _, _, _]) Ya sizeOf3 rfl rfl (by first | rfl | assumption) rfl rfl) ?_))))))
              rintro _ w64 Yb
              refine bQ rfl (bC 0 underlying69 rfl sizeOf64 rfl (bC 8 underlying64 rfl sizeOf3 rfl (aJ (aS 8 (l' := [_, _, _, _, _, _, _, _, _, _, _, _, _, _, _, _, _, _, _, _, _, _, _, _, _, _, _, _, _, _, _, _, _, _]) Yb sizeOf3 rfl rfl (by first | rfl | assumption) rfl rfl) ?_)))
              rintro _ w65 H65
              refine aA (aj (ay (ah (aW rfl (aA (aj (aK (aQ (.inl rfl) results37 rfl ?_))))))))
              refine ⟨rfl, ?_⟩
              first
                | exact absurd (hw2.symm.trans hwh) (by decide)
                | exact absurd (hwh.symm.trans hw2) (by decide)
                | (rw [oL]; exact aB.dY dI bM H65.f11.f11.f11.f11.f11.f11.f11.f11.f11.f11.f11)
            · (try simp only [aG] at h28)
              have oL := fZ jU hon hrun h28
              refine aO (aj (ay (ah (aW rfl (aA (aj (aK (aQ (.inl rfl) results37 rfl ?_))))))))
              refine ⟨rfl, ?_⟩
              first
                | exact absurd (hw2.symm.trans hwh) (by decide)
                | exact absurd (hwh.symm.trans hw2) (by decide)
                | (rw [oL]; exact aB.dY dI bM Ya.f11.f11.f11.f11.f11.f11.f11.f11.f11.f11.f11)
          · (try simp only [aG] at h27)
            have hrun : (s.typed && (!s.put.isEmpty || s.c.run)) = (s1.dA on).c.run := by first | exact absurd (hw2.symm.trans hwh) (by decide) | (rw [kE, decide_eq_true (show s.put.length = 0 by omega), hty, vN, hr1]; rfl)
            refine aY (aI rfl (aY (bQ rfl (aY (bC 0 underlying69 rfl sizeOf64 rfl (aY (bC 10 underlying64 rfl sizeOf4 rfl (aY (eu underlying4 rfl (eH).get.2 rfl (aY (fC rfl rfl (fK rfl rfl (bQ rfl (bC 0 underlying69 rfl sizeOf64 rfl (bC 10 underlying64 rfl sizeOf4 rfl (aJ (aS 10 (l' := [_, _, _, _, _, _, _, _, _, _, _, _, _, _, _, _, _, _, _, _, _, _, _, _, _, _, _, _, _, _, _, _, _, _]) eH sizeOf4 rfl rfl (by first | rfl | assumption) rfl rfl) ?_))))))))))))))))
            rintro _ w66 H66
            refine aA (aj (ay (ah (aI rfl (aI rfl (bQ rfl (bC 28 underlying69 rfl sizeOf3 rfl (eu underlying3 rfl (H66).get.2 rfl (bQ rfl (bC 0 underlying69 rfl sizeOf64 rfl (bC 6 underlying64 rfl sizeOf3 rfl (aJ (aS 6 (l' := [_, _, _, _, _, _, _, _, _, _, _, _, _, _, _, _, _, _, _, _, _, _, _, _, _, _, _, _, _, _, _, _, _, _]) H66 sizeOf3 rfl rfl (by first | rfl | assumption) rfl rfl) ?_))))))))))))
            rintro _ w67 H67
            refine aA (aj (ay (ay (ah (aI rfl (bQ rfl (bC 28 underlying69 rfl sizeOf3 rfl (eu underlying3 rfl (H67).get.2 rfl (aU (gy rfl rfl) (aA (aj (aP rfl (fun h29 => ?_) (fun h29 => ?_)))))))))))))
            · (try simp only [aG] at h29)
              have oL := iq jU hon hrun h29
              refine ah (aI rfl (aI rfl (bQ rfl (bC 0 underlying69 rfl sizeOf64 rfl (bC 7 underlying64 rfl sizeOf3 rfl (aJ (aS 7 (l' := [_, _, _, _, _, _, _, _, _, _, _, _, _, _, _, _, _, _, _, _, _, _, _, _, _, _, _, _, _, _, _, _, _, _]) H67 sizeOf3 rfl rfl (by first | rfl | assumption) rfl rfl) ?_))))))
              rintro _ w68 Y7
              refine bQ rfl (bC 0 underlying69 rfl sizeOf64 rfl (bC 8 underlying64 rfl sizeOf3 rfl (aJ (aS 8 (l' := [_, _, _, _, _, _, _, _, _, _, _, _, _, _, _, _, _, _, _, _, _, _, _, _, _, _, _, _, _, _, _, _, _, _]) Y7 sizeOf3 rfl rfl (by first | rfl | assumption) rfl rfl) ?_)))
              rintro _ w69 Y8
              refine aA (aj (ay (ah (aW rfl (aA (aj (aK (aQ (.inl rfl) results37 rfl ?_))))))))
              refine ⟨rfl, ?_⟩
              first
                | exact absurd (hw2.symm.trans hwh) (by decide)
                | exact absurd (hwh.symm.trans hw2) (by decide)
                | (rw [oL]; exact aB.dY dI bM Y8.f11.f11.f11.f11.f11.f11.f11.f11.f11.f11.f11)
            · (try simp only [aG] at h29)
              have oL := fZ jU hon hrun h29
              refine aO (aj (ay (ah (aW rfl (aA (aj (aK (aQ (.inl rfl) results37 rfl ?_))))))))
              refine ⟨rfl, ?_⟩
              first
                | exact absurd (hw2.symm.trans hwh) (by decide)
                | exact absurd (hwh.symm.trans hw2) (by decide)
                | (rw [oL]; exact aB.dY dI bM H67.f11.f11.f11.f11.f11.f11.f11.f11.f11.f11.f11)
        · (try simp only [aG] at h26)
          have hw2 : s.whole = false := by simpa using h26
          have hrun : (s.typed && (!s.put.isEmpty || s.c.run)) = false := by first | exact absurd (hwh.symm.trans hw2) (by decide) | (rw [hty]; rfl)
          refine aZ (aZ (bT (bT (bT (bT (bT (aZ (fC rfl rfl (bQ rfl (bC 0 underlying69 rfl sizeOf64 rfl (bC 10 underlying64 rfl sizeOf4 rfl (aJ (aS 10 (l' := [_, _, _, _, _, _, _, _, _, _, _, _, _, _, _, _, _, _, _, _, _, _, _, _, _, _, _, _, _, _, _, _, _, _]) eH sizeOf4 rfl rfl (by first | rfl | assumption) rfl rfl) ?_))))))))))))
          rintro _ w70 Yd
          refine aA (aj (ay (ah (aI rfl (aI rfl (bQ rfl (bC 28 underlying69 rfl sizeOf3 rfl (eu underlying3 rfl (Yd).get.2 rfl (bQ rfl (bC 0 underlying69 rfl sizeOf64 rfl (bC 6 underlying64 rfl sizeOf3 rfl (aJ (aS 6 (l' := [_, _, _, _, _, _, _, _, _, _, _, _, _, _, _, _, _, _, _, _, _, _, _, _, _, _, _, _, _, _, _, _, _, _]) Yd sizeOf3 rfl rfl (by first | rfl | assumption) rfl rfl) ?_))))))))))))
          rintro _ w71 WJ
          refine aA (aj (ay (ay (ah (aI rfl (bQ rfl (bC 28 underlying69 rfl sizeOf3 rfl (eu underlying3 rfl (WJ).get.2 rfl (aU (gy rfl rfl) (aA (aj (aP rfl (fun h30 => ?_) (fun h30 => ?_)))))))))))))
          · (try simp only [aG] at h30)
            have oL := iq jU hon hrun h30
            refine ah (aI rfl (aI rfl (bQ rfl (bC 0 underlying69 rfl sizeOf64 rfl (bC 7 underlying64 rfl sizeOf3 rfl (aJ (aS 7 (l' := [_, _, _, _, _, _, _, _, _, _, _, _, _, _, _, _, _, _, _, _, _, _, _, _, _, _, _, _, _, _, _, _, _, _]) WJ sizeOf3 rfl rfl (by first | rfl | assumption) rfl rfl) ?_))))))
            rintro _ w72 H72
            refine bQ rfl (bC 0 underlying69 rfl sizeOf64 rfl (bC 8 underlying64 rfl sizeOf3 rfl (aJ (aS 8 (l' := [_, _, _, _, _, _, _, _, _, _, _, _, _, _, _, _, _, _, _, _, _, _, _, _, _, _, _, _, _, _, _, _, _, _]) H72 sizeOf3 rfl rfl (by first | rfl | assumption) rfl rfl) ?_)))
            rintro _ w73 H73
            refine aA (aj (ay (ah (aW rfl (aA (aj (aK (aQ (.inl rfl) results37 rfl ?_))))))))
            refine ⟨rfl, ?_⟩
            first
              | exact absurd (hw2.symm.trans hwh) (by decide)
              | exact absurd (hwh.symm.trans hw2) (by decide)
              | (rw [oL]; exact aB.dY dI bM H73.f11.f11.f11.f11.f11.f11.f11.f11.f11.f11.f11)
          · (try simp only [aG] at h30)
            have oL := fZ jU hon hrun h30
            refine aO (aj (ay (ah (aW rfl (aA (aj (aK (aQ (.inl rfl) results37 rfl ?_))))))))
            refine ⟨rfl, ?_⟩
            first
              | exact absurd (hw2.symm.trans hwh) (by decide)
              | exact absurd (hwh.symm.trans hw2) (by decide)
              | (rw [oL]; exact aB.dY dI bM WJ.f11.f11.f11.f11.f11.f11.f11.f11.f11.f11.f11)
    · (try simp only [aG] at h19)
      have hty : s.typed = false := by unfold bH.typed; rw [beq_false_of_ne h19]; rfl
      have hrun : (s.typed && (!s.put.isEmpty || s.c.run)) = false := by rw [hty]; rfl
      refine AP 6 rfl rfl rfl rfl (by kernel_rfl) (by kernel_rfl) dP (lY rfl) ?_
      refine AP 7 rfl rfl rfl rfl (by kernel_rfl) (by kernel_rfl) dP (lY rfl) ?_
      refine AP 8 rfl rfl rfl rfl (by kernel_rfl) (by kernel_rfl) dP (lY rfl) ?_
      refine AP 9 rfl rfl rfl rfl (by kernel_rfl) (by kernel_rfl) dP (lY rfl) ?_
      refine iR 10 rfl dP (fun _ => Dc rfl rfl) (gV 11 rfl dP rfl (iZ 12 rfl dP rfl (dV 13 rfl dP 33 underlying69 rfl sizeOf67 rfl (iy 14 rfl dP (fun W hW => iQ underlying67 rfl ((Kp.h hW)).get.2 rfl) (iR 15 rfl dP (fun _ => eX ((yH.f9).aT) underlying67 rfl) (iR 16 rfl dP (fun _ => fB rfl rfl) (iR 17 rfl dP (fun _ => fA rfl) (iR 18 rfl dP (fun _ => fA rfl) (nJ (aj (ay (ah (aI rfl (aI rfl (aI rfl (aZ (aZ (aZ (aZ (aZ (fC rfl rfl ?_)))))))))))))))))))))
      have aaL := yH.f11.right
      have HW0 := aB.yD (c := s.was) (u := [mM, mO, mP, mQ, mV, mW, mX, mY, mZ, ng, ni]) aaL
      obtain ⟨s1, jU, Rn⟩ : ∃ s1, s1 = s.gJ ∧ aB w0 (w3.drew) (dO e s1 • F) := ⟨_, hs1, aB.dY (hs1 ▸ qM dI) bM HW0.f11.f11.f11.f11.f11.f11.f11.f11.f11.f11⟩
      have hr1 : s1.c.run = s.c.run := by rw [jU]; unfold bH.gJ; split <;> rfl
      refine dH rfl func83 (jT Rn) ?_
      rintro _ w75 H75
      obtain ⟨on, hon, HZ⟩ : ∃ on, (s.typed && s.c.run) = on ∧ aB w0 w75 (dO e (s1.dA on) • F) := ⟨_, by rw [hty]; rfl, H75⟩
      refine aA (aj (ay ?_))
      obtain ⟨qy, qA, qB, qC, qE, qF, qG, qH, oq, mM, mO, mP, mQ, mV, mW, mX, mY, mZ, ng, ni, dI, bM, ig, eH⟩ := (HZ).D9
      refine ah (aI rfl (aI rfl (aI rfl (aZ (aZ (bT (bT (bT (bT (bT (aZ (fC rfl rfl (bQ rfl (bC 0 underlying69 rfl sizeOf64 rfl (bC 10 underlying64 rfl sizeOf4 rfl (aJ (aS 10 (l' := [_, _, _, _, _, _, _, _, _, _, _, _, _, _, _, _, _, _, _, _, _, _, _, _, _, _, _, _, _, _, _, _, _, _]) eH sizeOf4 rfl rfl (by first | rfl | assumption) rfl rfl) ?_))))))))))))))))
      rintro _ w77 H77
      refine aA (aj (ay (ah (aI rfl (aI rfl (bQ rfl (bC 28 underlying69 rfl sizeOf3 rfl (eu underlying3 rfl (H77).get.2 rfl (bQ rfl (bC 0 underlying69 rfl sizeOf64 rfl (bC 6 underlying64 rfl sizeOf3 rfl (aJ (aS 6 (l' := [_, _, _, _, _, _, _, _, _, _, _, _, _, _, _, _, _, _, _, _, _, _, _, _, _, _, _, _, _, _, _, _, _, _]) H77 sizeOf3 rfl rfl (by first | rfl | assumption) rfl rfl) ?_))))))))))))
      rintro _ w78 H78
      refine aA (aj (ay (ay (ah (aI rfl (bQ rfl (bC 28 underlying69 rfl sizeOf3 rfl (eu underlying3 rfl (H78).get.2 rfl (aU (gy rfl rfl) (aA (aj (aP rfl (fun h31 => ?_) (fun h31 => ?_)))))))))))))
      · (try simp only [aG] at h31)
        have oL := iq jU hon hrun h31
        refine ah (aI rfl (aI rfl (bQ rfl (bC 0 underlying69 rfl sizeOf64 rfl (bC 7 underlying64 rfl sizeOf3 rfl (aJ (aS 7 (l' := [_, _, _, _, _, _, _, _, _, _, _, _, _, _, _, _, _, _, _, _, _, _, _, _, _, _, _, _, _, _, _, _, _, _]) H78 sizeOf3 rfl rfl (by first | rfl | assumption) rfl rfl) ?_))))))
        rintro _ w79 H79
        refine bQ rfl (bC 0 underlying69 rfl sizeOf64 rfl (bC 8 underlying64 rfl sizeOf3 rfl (aJ (aS 8 (l' := [_, _, _, _, _, _, _, _, _, _, _, _, _, _, _, _, _, _, _, _, _, _, _, _, _, _, _, _, _, _, _, _, _, _]) H79 sizeOf3 rfl rfl (by first | rfl | assumption) rfl rfl) ?_)))
        rintro _ w80 H80
        refine aA (aj (ay (ah (aW rfl (aA (aj (aK (aQ (.inl rfl) results37 rfl ?_))))))))
        refine ⟨rfl, ?_⟩
        first
          | exact absurd (hw2.symm.trans hwh) (by decide)
          | exact absurd (hwh.symm.trans hw2) (by decide)
          | (rw [oL]; exact aB.dY dI bM H80.f11.f11.f11.f11.f11.f11.f11.f11.f11.f11.f11)
      · (try simp only [aG] at h31)
        have oL := fZ jU hon hrun h31
        refine aO (aj (ay (ah (aW rfl (aA (aj (aK (aQ (.inl rfl) results37 rfl ?_))))))))
        refine ⟨rfl, ?_⟩
        first
          | exact absurd (hw2.symm.trans hwh) (by decide)
          | exact absurd (hwh.symm.trans hw2) (by decide)
          | (rw [oL]; exact aB.dY dI bM H78.f11.f11.f11.f11.f11.f11.f11.f11.f11.f11.f11)
theorem FQ {s : bH} {x : Int} (hin : s.inn = true) (hx : x ≠ 0) : s.nV x = s.yB ∧ s.Aj x = x := by
  unfold bH.nV bH.Aj
  rw [if_pos hin, if_neg hx, if_pos hin]; exact ⟨rfl, rfl⟩
theorem Ro {s : bH} (h : jY s) (hin : s.inn = true) : jY s.yB := by
  obtain ⟨h1, h2, h3⟩ := h.2.1 hin
  exact ⟨h1, fun h => Bool.noConfusion h, ⟨by show (-1 : Int) ≤ -1; decide, by show (-1 : Int) ≤ 1000000; decide⟩, by simp [bH.yB], h2, h3⟩
theorem LD (hin : s.inn = true) (hx : x ≠ 0) (H : aB w0 w (dO e s • F)) : gG prog 37 #[.pointer (some ⟨e, 0, none⟩), .int .i64 x] w fun v w' => v = .int .i64 x ∧ aB w0 w' (dO e s.yB • F) := by
 have hpe : s.uJ = 0 := by unfold bH.uJ; rw [if_pos hin]
 refine iF func37 ntmps37 ?_
 dsimp only [bg, Nat.reduceAdd]
 refine ay (ah (aW rfl (aA (aj (ay (ay (ah (aI rfl (dH rfl func81 (kR H) ?_)))))))))
 rintro _ _ ⟨rfl, rfl⟩
 refine aW rfl (aA (aj (ay (ah (aI rfl (aU (gy rfl rfl) (aA (aj (aP rfl (fun h => by exfalso; (try simp only [aG] at h); exact h hpe) (fun h1 => ?_))))))))))
 (try simp only [aG] at h1)
 refine aO (aj (ay ?_))
 obtain ⟨qy, qA, qB, qC, qE, qF, qG, qH, oq, mM, mO, mP, mQ, mV, mW, mX, mY, mZ, ng, ni, dI, bM, ig, eH⟩ := (H).D9
 have HI := eH
 rw [hin] at HI
 obtain ⟨qb, qr, qw, qt, qm, hu, HW⟩ := (HI.f11).was
 simp only [Ju, List.cons.injEq, and_true] at hu
 obtain ⟨rfl, rfl, rfl, rfl, rfl, rfl, rfl, rfl, rfl, rfl, rfl⟩ := hu
 refine ah (aI rfl (bQ rfl (bC 16 underlying69 rfl sizeOf4 rfl (aJ (aS 16 (l' := [_, _, _, _, _, _, _, _, _, _, _, _, _, _, _, _, _, _, _, _, _, _, _, _, _, _, _, _, _, _, _, _, _, _]) HW.f6 sizeOf4 rfl rfl (by first | rfl | assumption) rfl rfl) ?_))))
 rintro _ w3 H3
 refine aA (aj (ay (ay (ah (aI rfl (bQ rfl (bC 31 underlying69 rfl sizeOf4 rfl (eu underlying4 rfl (H3).get.2 rfl (aU (gQ rfl) (iM rfl (fun h2 => ?_) (fun h2 => ?_)))))))))))
 ·(try simp only [aG] at h2)
  refine aZ (aZ (fK rfl rfl (aA (aj (zM (ah (aI rfl (aI rfl (aI rfl (bQ rfl (bC 13 underlying69 rfl sizeOf4 rfl (aJ (aS 13 (l' := [_, _, _, _, _, _, _, _, _, _, _, _, _, _, _, _, _, _, _, _, _, _, _, _, _, _, _, _, _, _, _, _, _, _]) H3 sizeOf4 rfl rfl (by first | rfl | assumption) rfl rfl) ?_))))))))))))
  rintro _ w4 H4
  refine bQ rfl (bC 14 underlying69 rfl sizeOf4 rfl (aJ (aS 14 (l' := [_, _, _, _, _, _, _, _, _, _, _, _, _, _, _, _, _, _, _, _, _, _, _, _, _, _, _, _, _, _, _, _, _, _]) H4 sizeOf4 rfl rfl (by first | rfl | assumption) rfl rfl) ?_))
  rintro _ w5 H5
  refine bQ rfl (bC 15 underlying69 rfl sizeOf3 rfl (aJ (aS 15 (l' := [_, _, _, _, _, _, _, _, _, _, _, _, _, _, _, _, _, _, _, _, _, _, _, _, _, _, _, _, _, _, _, _, _, _]) H5 sizeOf3 rfl rfl (by first | rfl | assumption) rfl rfl) ?_))
  rintro _ w6 H6
  refine aA (aj (ay (ay (ah (aI rfl (aU (gy rfl rfl) (aA (aj (aP rfl (fun h3 => ?_) (fun h => by exfalso; (try simp only [aG] at h); exact hx h))))))))))
  (try simp only [aG] at h3)
  refine ay (ah (aI rfl (aI rfl (bQ rfl (bC 17 underlying69 rfl sizeOf64 rfl (aU (pq 17 (xs := [_, _, _, _, _, _, _, _, _, _, _]) underlying64 rfl sizeOf64 rfl rfl (H6).get.2 rfl) (bQ rfl (bC 0 underlying69 rfl sizeOf64 rfl (aJ (bG 0 (l' := [_, _, _, _, _, _, _, _, _, _, _, _, _, _, _, _, _, _, _, _, _, _, _, _, _, _, _, _, _, _, _, _, _, _]) (us := [_, _, _, _, _, _, _, _, _, _, _]) H6 sizeOf64 rfl rfl rfl (aC (by first | rfl | assumption) (aC (by first | rfl | assumption) (aC (by first | rfl | assumption) (aC (by first | rfl | assumption) (aC (by first | rfl | assumption) (aC (by first | rfl | assumption) (aC (by first | rfl | assumption) (aC (by first | rfl | assumption) (aC (by first | rfl | assumption) (aC (by first | rfl | assumption) (aC (by first | rfl | assumption) bn))))))))))) rfl rfl) ?_)))))))))
  rintro _ w7 H7
  refine aA (aj (ay (ah (aI rfl (bQ rfl (bC 12 underlying69 rfl sizeOf66 rfl (eu underlying66 rfl (H7).get.2 rfl (dH rfl func82 (zG H7.f13) ?_))))))))
  rintro _ w8 ⟨rfl, H8⟩
  refine aA (aj (ay (ah (aI rfl (aI rfl (aI rfl (aI rfl (bQ rfl (bC 0 underlying69 rfl sizeOf64 rfl (bC 6 underlying64 rfl sizeOf3 rfl (aJ (aS 6 (l' := [_, _, _, _, _, _, _, _, _, _, _, _, _, _, _, _, _, _, _, _, _, _, _, _, _, _, _, _, _, _, _, _, _, _]) H8.f2 sizeOf3 rfl rfl (by first | rfl | assumption) rfl rfl) ?_)))))))))))
  rintro _ w9 H9
  refine bQ rfl (bC 0 underlying69 rfl sizeOf64 rfl (bC 7 underlying64 rfl sizeOf3 rfl (aJ (aS 7 (l' := [_, _, _, _, _, _, _, _, _, _, _, _, _, _, _, _, _, _, _, _, _, _, _, _, _, _, _, _, _, _, _, _, _, _]) H9 sizeOf3 rfl rfl (by first | rfl | assumption) rfl rfl) ?_)))
  rintro _ w10 qL
  refine bQ rfl (bC 0 underlying69 rfl sizeOf64 rfl (bC 8 underlying64 rfl sizeOf3 rfl (aJ (aS 8 (l' := [_, _, _, _, _, _, _, _, _, _, _, _, _, _, _, _, _, _, _, _, _, _, _, _, _, _, _, _, _, _, _, _, _, _]) qL sizeOf3 rfl rfl (by first | rfl | assumption) rfl rfl) ?_)))
  rintro _ Gq sD
  refine bQ rfl (bC 33 underlying69 rfl sizeOf67 rfl (aJ (aS 33 (l' := [_, _, _, _, _, _, _, _, _, _, _, _, _, _, _, _, _, _, _, _, _, _, _, _, _, _, _, _, _, _, _, _, _, _]) sD sizeOf67 rfl rfl (by first | rfl | assumption) rfl rfl) ?_))
  rintro _ w12 vV
  refine aA (aj (ay (ah (aI rfl (aW rfl (aA (aj (aK (aN (aQ (.inl rfl) results37 rfl ?_))))))))))
  exact ⟨rfl, aB.Lp (s := s.yB) (Ro dI hin) rfl rfl vV.f8.right.f8.right.f8.right.f8.right.f8.right.f9.right.f9.right.f2.f8.f8.f8.f8.f8.f8.f8⟩
 ·(try simp only [aG] at h2)
  refine aY (aI rfl (aY (aU (gy rfl rfl) (fC rfl rfl (aA (aj (aP rfl (fun h4 => ?_) (fun h => by exfalso; (try simp only [aG] at h); exact hx h))))))))
  (try simp only [aG] at h4)
  refine ah (aI rfl (aI rfl (aI rfl (bQ rfl (bC 13 underlying69 rfl sizeOf4 rfl (aJ (aS 13 (l' := [_, _, _, _, _, _, _, _, _, _, _, _, _, _, _, _, _, _, _, _, _, _, _, _, _, _, _, _, _, _, _, _, _, _]) H3 sizeOf4 rfl rfl (by first | rfl | assumption) rfl rfl) ?_))))))
  rintro _ O7 xQ
  refine bQ rfl (bC 14 underlying69 rfl sizeOf4 rfl (aJ (aS 14 (l' := [_, _, _, _, _, _, _, _, _, _, _, _, _, _, _, _, _, _, _, _, _, _, _, _, _, _, _, _, _, _, _, _, _, _]) xQ sizeOf4 rfl rfl (by first | rfl | assumption) rfl rfl) ?_))
  rintro _ O8 zN
  refine bQ rfl (bC 15 underlying69 rfl sizeOf3 rfl (aJ (aS 15 (l' := [_, _, _, _, _, _, _, _, _, _, _, _, _, _, _, _, _, _, _, _, _, _, _, _, _, _, _, _, _, _, _, _, _, _]) zN sizeOf3 rfl rfl (by first | rfl | assumption) rfl rfl) ?_))
  rintro _ Sv xE
  refine aA (aj (ay (ay (ah (aI rfl (aU (gy rfl rfl) (aA (aj (aP rfl (fun h5 => ?_) (fun h => by exfalso; (try simp only [aG] at h); exact hx h))))))))))
  (try simp only [aG] at h5)
  refine ay (ah (aI rfl (aI rfl (bQ rfl (bC 17 underlying69 rfl sizeOf64 rfl (aU (pq 17 (xs := [_, _, _, _, _, _, _, _, _, _, _]) underlying64 rfl sizeOf64 rfl rfl (xE).get.2 rfl) (bQ rfl (bC 0 underlying69 rfl sizeOf64 rfl (aJ (bG 0 (l' := [_, _, _, _, _, _, _, _, _, _, _, _, _, _, _, _, _, _, _, _, _, _, _, _, _, _, _, _, _, _, _, _, _, _]) (us := [_, _, _, _, _, _, _, _, _, _, _]) xE sizeOf64 rfl rfl rfl (aC (by first | rfl | assumption) (aC (by first | rfl | assumption) (aC (by first | rfl | assumption) (aC (by first | rfl | assumption) (aC (by first | rfl | assumption) (aC (by first | rfl | assumption) (aC (by first | rfl | assumption) (aC (by first | rfl | assumption) (aC (by first | rfl | assumption) (aC (by first | rfl | assumption) (aC (by first | rfl | assumption) bn))))))))))) rfl rfl) ?_)))))))))
  rintro _ w16 rV
  refine aA (aj (ay (ah (aI rfl (bQ rfl (bC 12 underlying69 rfl sizeOf66 rfl (eu underlying66 rfl (rV).get.2 rfl (dH rfl func82 (zG rV.f13) ?_))))))))
  rintro _ UF ⟨rfl, zO⟩
  refine aA (aj (ay (ah (aI rfl (aI rfl (aI rfl (aI rfl (bQ rfl (bC 0 underlying69 rfl sizeOf64 rfl (bC 6 underlying64 rfl sizeOf3 rfl (aJ (aS 6 (l' := [_, _, _, _, _, _, _, _, _, _, _, _, _, _, _, _, _, _, _, _, _, _, _, _, _, _, _, _, _, _, _, _, _, _]) zO.f2 sizeOf3 rfl rfl (by first | rfl | assumption) rfl rfl) ?_)))))))))))
  rintro _ Tz Bd
  refine bQ rfl (bC 0 underlying69 rfl sizeOf64 rfl (bC 7 underlying64 rfl sizeOf3 rfl (aJ (aS 7 (l' := [_, _, _, _, _, _, _, _, _, _, _, _, _, _, _, _, _, _, _, _, _, _, _, _, _, _, _, _, _, _, _, _, _, _]) Bd sizeOf3 rfl rfl (by first | rfl | assumption) rfl rfl) ?_)))
  rintro _ Sz xk
  refine bQ rfl (bC 0 underlying69 rfl sizeOf64 rfl (bC 8 underlying64 rfl sizeOf3 rfl (aJ (aS 8 (l' := [_, _, _, _, _, _, _, _, _, _, _, _, _, _, _, _, _, _, _, _, _, _, _, _, _, _, _, _, _, _, _, _, _, _]) xk sizeOf3 rfl rfl (by first | rfl | assumption) rfl rfl) ?_)))
  rintro _ SA yJ
  refine bQ rfl (bC 33 underlying69 rfl sizeOf67 rfl (aJ (aS 33 (l' := [_, _, _, _, _, _, _, _, _, _, _, _, _, _, _, _, _, _, _, _, _, _, _, _, _, _, _, _, _, _, _, _, _, _]) yJ sizeOf67 rfl rfl (by first | rfl | assumption) rfl rfl) ?_))
  rintro _ TA pF
  refine aA (aj (ay (ah (aI rfl (aW rfl (aA (aj (aK (aN (aQ (.inl rfl) results37 rfl ?_))))))))))
  exact ⟨rfl, aB.Lp (s := s.yB) (Ro dI hin) rfl rfl pF.f8.right.f8.right.f8.right.f8.right.f8.right.f9.right.f9.right.f2.f8.f8.f8.f8.f8.f8.f8⟩
theorem vO (H : aB w0 w (dO e s • F)) : gG prog 37 #[.pointer (some ⟨e, 0, none⟩), .int .i64 x] w fun v w' => v = .int .i64 (s.Aj x) ∧ aB w0 w' (dO e (s.nV x) • F) := by
 by_cases hin : s.inn = true
 ·by_cases hx : x = 0
  ·subst hx
   rw [show s.nV 0 = s.kZ from by unfold bH.nV; rw [if_pos hin, if_pos rfl], show s.Aj 0 = 0 from by unfold bH.Aj; rw [if_pos hin]]
   exact JF hin H
  ·rw [(FQ hin hx).1, (FQ hin hx).2]
   exact LD hin hx H
 ·have hin' : s.inn = false := by simpa using hin
  have hpe : s.uJ = 1 := by unfold bH.uJ; rw [if_neg hin]
  rw [show s.nV x = s from by unfold bH.nV; rw [if_neg hin], show s.Aj x = 1 from by unfold bH.Aj; rw [if_neg hin]]
  refine iF func37 ntmps37 ?_
  dsimp only [bg, Nat.reduceAdd]
  refine ay (ah (aW rfl (aA (aj (ay (ay (ah (aI rfl (dH rfl func81 (kR H) ?_)))))))))
  rintro _ _ ⟨rfl, rfl⟩
  refine aW rfl (aA (aj (ay (ah (aI rfl (aU (gy rfl rfl) (aA (aj (aP rfl (fun h1 => ?_) (fun h => by exfalso; (try simp only [aG] at h); rw [hpe] at h; exact absurd h (by decide)))))))))))
  (try simp only [aG] at h1)
  refine ay (ah (aI rfl (aW rfl (aA (aj (aK (aN (aQ (.inl rfl) results37 rfl ?_))))))))
  rw [hpe]
  exact ⟨rfl, H⟩
end
end Go.Proofs.YtddekefihgejoaaGreatDoor
end
