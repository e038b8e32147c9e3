import Derived.Test.YtgndbccogcofjaaGreatDoorZ2
import Derived.Test.YtgndbccogcofjaaGreatDoorZ16
set_option linter.unusedSimpArgs false
set_option linter.unusedVariables false
/- Texts of mine, joined, their names in short: EdE. -/
section
namespace Go.Proofs.YtgndbccogcofjaaGreatDoor
open Go.RowKit
open _root_.Go.Proofs.Tryz
theorem vY (s : bC) (on : Bool) : (s.dQ on).c.run = s.c.run := by unfold bC.dQ; split <;> rfl
theorem Eo (s : bC) (on : Bool) : (s.dQ on).cls = s.cls := by unfold bC.dQ; split <;> rfl
theorem ig {s s1 : bC} {on run : Bool} (h1 : s1 = s.fK) (hon : (s.typed && s.c.run) = on) (hrun : (s.typed && (!s.put.isEmpty || s.c.run)) = run) (h2 : (s1.dQ on).cls ≠ 2) :
    s.jJ = { s1.dQ on with c := { (s1.dQ on).c with run := run, last := (s1.dQ on).cls, fr := 0, to := 0 } } := by
  subst h1 hon hrun
  have hc : (s.fK.dQ (s.typed && s.c.run)).cls = s.cls := by rw [Eo]; unfold bC.fK; split <;> rfl
  unfold bC.jJ
  rw [hc] at h2 ⊢
  dsimp only
  rw [if_pos h2]
theorem fZ {s s1 : bC} {on run : Bool} (h1 : s1 = s.fK) (hon : (s.typed && s.c.run) = on) (hrun : (s.typed && (!s.put.isEmpty || s.c.run)) = run) (h2 : (s1.dQ on).cls = 2) :
    s.jJ = { s1.dQ on with c := { (s1.dQ on).c with run := run, last := (s1.dQ on).cls } } := by
  subst h1 hon hrun
  have hc : (s.fK.dQ (s.typed && s.c.run)).cls = s.cls := by rw [Eo]; unfold bC.fK; split <;> rfl
  unfold bC.jJ
  rw [hc] at h2 ⊢
  dsimp only
  rw [if_neg (by omega)]
theorem rH {s : bC} (h : kP s) : kP s.fK := by
  obtain ⟨h1, h2, h3, h4, h5, h6⟩ := h
  unfold bC.fK
  split
  · exact ⟨h1, fun h => Bool.noConfusion h, h3, h4, h5, h6⟩
  · exact ⟨h1, fun h => Bool.noConfusion h, ⟨by show (-1 : Int) ≤ -1; decide, by show (-1 : Int) ≤ 1000000; decide⟩, h4, h5, h6⟩
theorem nM {l : List fB} : l.isEmpty = decide (l.length = 0) := by cases l <;> rfl
section
variable {w0 w : World} {F : HP} {e p : Nat} {s : bC} {x : Int}
theorem J8 (hin : s.dU = true) (H : aB w0 w (dA e s • F)) : fG prog 27 #[.pointer (some ⟨e, 0, none⟩), .int .i64 0] w fun v w' => v = .int .i64 0 ∧ aB w0 w' (dA e s.jJ • F) := by
  have hpe : s.uS = 0 := by unfold bC.uS; rw [if_pos hin]
  refine gG func27 ntmps27 ?_
  dsimp only [bf, Nat.reduceAdd]
  refine ay (ah (aV rfl (aA (aj (ay (ay (ah (aN rfl (bW rfl func94 (kD H) ?_)))))))))
  rintro _ _ ⟨rfl, rfl⟩
  refine aV rfl (aA (aj (ay (ah (aN rfl (aU (bY rfl rfl) (aA (aj (aP rfl (fun h => by exfalso; (try simp only [aF] at h); exact h hpe) (fun h1 => ?_))))))))))
  (try simp only [aF] at h1)
  refine aO (aj (ay ?_))
  obtain ⟨su, sD, sF, sG, sH, sJ, sK, sN, qI, oI, oJ, oK, oL, oM, oN, oO, oP, oQ, oU, oV, dK, bH, gZ, dO⟩ := (H).BQ
  refine ah (aN rfl (bM rfl (bG 16 underlying37 rfl sizeOf4 rfl (aJ (aT 16 (l' := [_, _, _, _, _, _, _, _, _, _, _, _, _, _, _, _, _, _, _, _, _, _, _, _, _, _, _, _, _, _, _, _, _, _]) dO sizeOf4 rfl rfl (by first | rfl | assumption) rfl rfl) ?_))))
  rintro _ w3 H3
  refine aA (aj (ay (ay (ah (aN rfl (bM rfl (bG 31 underlying37 rfl sizeOf4 rfl (dX underlying4 rfl (H3).get.2 rfl (aU (jY rfl) (eP rfl (fun h2 => ?_) (fun h2 => ?_)))))))))))
  · (try simp only [aF] at h2)
    have har : s.argues = false := by simpa using h2
    have hs1 : ({ s.uT with dU := false } : bC) = s.fK := by unfold bC.fK; rw [if_neg (by simp [har])]
    refine bD (bD (fP rfl rfl (aA (aj (wK (ah (aN rfl (aN rfl (aN rfl (bM rfl (bG 13 underlying37 rfl sizeOf4 rfl (aJ (aT 13 (l' := [_, _, _, _, _, _, _, _, _, _, _, _, _, _, _, _, _, _, _, _, _, _, _, _, _, _, _, _, _, _, _, _, _, _]) H3 sizeOf4 rfl rfl (by first | rfl | assumption) rfl rfl) ?_))))))))))))
    rintro _ w4 H4
    refine bM rfl (bG 14 underlying37 rfl sizeOf4 rfl (aJ (aT 14 (l' := [_, _, _, _, _, _, _, _, _, _, _, _, _, _, _, _, _, _, _, _, _, _, _, _, _, _, _, _, _, _, _, _, _, _]) H4 sizeOf4 rfl rfl (by first | rfl | assumption) rfl rfl) ?_))
    rintro _ w5 H5
    refine bM rfl (bG 15 underlying37 rfl sizeOf3 rfl (aJ (aT 15 (l' := [_, _, _, _, _, _, _, _, _, _, _, _, _, _, _, _, _, _, _, _, _, _, _, _, _, _, _, _, _, _, _, _, _, _]) H5 sizeOf3 rfl rfl (by first | rfl | assumption) rfl rfl) ?_))
    rintro _ w6 H6
    refine aA (aj (ay (ay (ah (aN rfl (aU (bY rfl rfl) (aA (aj (aP rfl (fun h => by exfalso; (try simp only [aF] at h); simp at h) (fun h3 => ?_))))))))))
    (try simp only [aF] at h3)
    refine aO (aj (ay ?_))
    have yF := H6.drew
    have fV := aB.kp (yF.f11.f11.f11.f11.f11.f11.f11.f11.f11.f11.f11)
    refine yI [3, 9, 14] fV rfl (iD 0 rfl fV rfl (jS 1 rfl fV rfl (gV 2 rfl fV 28 underlying37 rfl sizeOf3 rfl (jB 3 rfl fV (fun W hW => jR underlying3 rfl ((Kp.h hW)).get.2 rfl) (jr 4 rfl fV (fun _ => fE rfl rfl) ?_)))))
    refine I9 5 rfl rfl (by kernel_rfl) (by kernel_rfl) fV (qN rfl) (fun h4 => ?_) (fun h4 => ?_)
    · (try simp only [aF] at h4)
      have hc3 : s.cls = 3 := h4
      refine lK 6 rfl rfl rfl (by kernel_rfl) (by kernel_rfl) fV (fun _ => CP rfl) (qN rfl) ?_
      refine lK 7 rfl rfl rfl (by kernel_rfl) (by kernel_rfl) fV (fun _ => MQ rfl) (qN rfl) ?_
      refine lK 8 rfl rfl rfl (by kernel_rfl) (by kernel_rfl) fV (fun _ => CU 32 underlying37 rfl rfl sizeOf4 (by decide) rfl rfl) (qN rfl) ?_
      refine AX 9 rfl rfl rfl (by kernel_rfl) (by kernel_rfl) fV (by decide) (fun W hW => kU (dB underlying4 rfl) rfl (gK ((Kp.h hW)).get.2 rfl)) (qN rfl) ?_
      refine jr 10 rfl fV (fun _ => CQ rfl rfl) (iD 11 rfl fV rfl (jS 12 rfl fV rfl (gV 13 rfl fV 33 underlying37 rfl sizeOf35 rfl (jB 14 rfl fV (fun W hW => jR underlying35 rfl ((Kp.h hW)).get.2 rfl) (jr 15 rfl fV (fun _ => jg ((yF.f9).aS) underlying35 rfl) (jr 16 rfl fV (fun _ => dF rfl rfl) (jr 17 rfl fV (fun _ => eH rfl) (jr 18 rfl fV (fun _ => eH rfl) (qQ (aj (ay (ah (aN rfl (aN rfl (eP rfl (fun h5 => ?_) (fun h5 => ?_))))))))))))))))
      · (try simp only [aF] at h5)
        have hwh : s.whole = true := h5
        have hty : s.typed = true := by unfold bC.typed; rw [hc3, hwh]; rfl
        refine aX (aN rfl (aX (bM rfl (aX (bG 0 underlying37 rfl sizeOf32 rfl (aX (bG 10 underlying32 rfl sizeOf4 rfl (aX (dX underlying4 rfl (yF).get.2 rfl (fP rfl rfl ?_))))))))))
        have hwo := rW (yF.f11)
        have Yg := yF.f11.right
        have HW0 := aB.yS (c := s.was) (u := [oI, oJ, oK, oL, oM, oN, oO, oP, oQ, oU, oV]) Yg hwo
        obtain ⟨s1, kK, Rh⟩ : ∃ s1, s1 = s.fK ∧ aB w0 (w6.drew) (dA e s1 • F) := ⟨_, hs1, aB.dM (hs1 ▸ rH dK) bH HW0.f11.f11.f11.f11.f11.f11.f11.f11.f11.f11⟩
        have hr1 : s1.c.run = s.c.run := by rw [kK]; unfold bC.fK; split <;> rfl
        refine bW rfl func96 (lT Rh) ?_
        rintro _ w8 H8
        obtain ⟨on, hon, HZ⟩ : ∃ on, (s.typed && s.c.run) = on ∧ aB w0 w8 (dA e (s1.dQ on) • F) := ⟨_, by rw [hty]; rfl, H8⟩
        refine aA (aj (ay ?_))
        obtain ⟨su, sD, sF, sG, sH, sJ, sK, sN, qI, oI, oJ, oK, oL, oM, oN, oO, oP, oQ, oU, oV, dK, bH, gZ, dO⟩ := (HZ).BQ
        refine ah (aN rfl (aN rfl (eP rfl (fun h6 => ?_) (fun h6 => ?_))))
        · (try simp only [aF] at h6)
          have hw2 : s.whole = true := h6
          refine aX (aN rfl (aX (eP rfl (fun h7 => ?_) (fun h7 => ?_))))
          · (try simp only [aF] at h7)
            have hrun : (s.typed && (!s.put.isEmpty || s.c.run)) = true := by first | exact absurd (hw2.symm.trans hwh) (by decide) | (rw [nM, decide_eq_false (show ¬ s.put.length = 0 by omega), hty]; rfl)
            refine bD (bD (bD (bD (bD (aX (fP rfl rfl (fP rfl rfl (bM rfl (bG 0 underlying37 rfl sizeOf32 rfl (bG 10 underlying32 rfl sizeOf4 rfl (aJ (aT 10 (l' := [_, _, _, _, _, _, _, _, _, _, _, _, _, _, _, _, _, _, _, _, _, _, _, _, _, _, _, _, _, _, _, _, _, _]) dO sizeOf4 rfl rfl (by first | rfl | assumption) rfl rfl) ?_)))))))))))
            rintro _ w10 oZ
            refine aA (aj (ay (ah (aN rfl (aN rfl (bM rfl (bG 28 underlying37 rfl sizeOf3 rfl (dX underlying3 rfl (oZ).get.2 rfl (bM rfl (bG 0 underlying37 rfl sizeOf32 rfl (bG 6 underlying32 rfl sizeOf3 rfl (aJ (aT 6 (l' := [_, _, _, _, _, _, _, _, _, _, _, _, _, _, _, _, _, _, _, _, _, _, _, _, _, _, _, _, _, _, _, _, _, _]) oZ sizeOf3 rfl rfl (by first | rfl | assumption) rfl rfl) ?_))))))))))))
            rintro _ KG yt
            refine aA (aj (ay (ay (ah (aN rfl (bM rfl (bG 28 underlying37 rfl sizeOf3 rfl (dX underlying3 rfl (yt).get.2 rfl (aU (bY rfl rfl) (aA (aj (aP rfl (fun h8 => ?_) (fun h8 => ?_)))))))))))))
            · (try simp only [aF] at h8)
              have pY := ig kK hon hrun h8
              refine ah (aN rfl (aN rfl (bM rfl (bG 0 underlying37 rfl sizeOf32 rfl (bG 7 underlying32 rfl sizeOf3 rfl (aJ (aT 7 (l' := [_, _, _, _, _, _, _, _, _, _, _, _, _, _, _, _, _, _, _, _, _, _, _, _, _, _, _, _, _, _, _, _, _, _]) yt sizeOf3 rfl rfl (by first | rfl | assumption) rfl rfl) ?_))))))
              rintro _ w12 xR
              refine bM rfl (bG 0 underlying37 rfl sizeOf32 rfl (bG 8 underlying32 rfl sizeOf3 rfl (aJ (aT 8 (l' := [_, _, _, _, _, _, _, _, _, _, _, _, _, _, _, _, _, _, _, _, _, _, _, _, _, _, _, _, _, _, _, _, _, _]) xR sizeOf3 rfl rfl (by first | rfl | assumption) rfl rfl) ?_)))
              rintro _ Po xE
              refine aA (aj (ay (ah (aV rfl (aA (aj (aI (aH (.inl rfl) results27 rfl ?_))))))))
              refine ⟨rfl, ?_⟩
              first
                | exact absurd (hw2.symm.trans hwh) (by decide)
                | exact absurd (hwh.symm.trans hw2) (by decide)
                | (rw [pY]; exact aB.dM dK bH xE.f11.f11.f11.f11.f11.f11.f11.f11.f11.f11.f11)
            · (try simp only [aF] at h8)
              have pY := fZ kK hon hrun h8
              refine aO (aj (ay (ah (aV rfl (aA (aj (aI (aH (.inl rfl) results27 rfl ?_))))))))
              refine ⟨rfl, ?_⟩
              first
                | exact absurd (hw2.symm.trans hwh) (by decide)
                | exact absurd (hwh.symm.trans hw2) (by decide)
                | (rw [pY]; exact aB.dM dK bH yt.f11.f11.f11.f11.f11.f11.f11.f11.f11.f11.f11)
          · (try simp only [aF] at h7)
            have hrun : (s.typed && (!s.put.isEmpty || s.c.run)) = (s1.dQ on).c.run := by first | exact absurd (hw2.symm.trans hwh) (by decide) | (rw [nM, decide_eq_true (show s.put.length = 0 by omega), hty, vY, hr1]; rfl)
            refine aX (aN rfl (aX (bM rfl (aX (bG 0 underlying37 rfl sizeOf32 rfl (aX (bG 10 underlying32 rfl sizeOf4 rfl (aX (dX underlying4 rfl (dO).get.2 rfl (aX (dL rfl rfl (fP rfl rfl (bM rfl (bG 0 underlying37 rfl sizeOf32 rfl (bG 10 underlying32 rfl sizeOf4 rfl (aJ (aT 10 (l' := [_, _, _, _, _, _, _, _, _, _, _, _, _, _, _, _, _, _, _, _, _, _, _, _, _, _, _, _, _, _, _, _, _, _]) dO sizeOf4 rfl rfl (by first | rfl | assumption) rfl rfl) ?_))))))))))))))))
            rintro _ MX yK
            refine aA (aj (ay (ah (aN rfl (aN rfl (bM rfl (bG 28 underlying37 rfl sizeOf3 rfl (dX underlying3 rfl (yK).get.2 rfl (bM rfl (bG 0 underlying37 rfl sizeOf32 rfl (bG 6 underlying32 rfl sizeOf3 rfl (aJ (aT 6 (l' := [_, _, _, _, _, _, _, _, _, _, _, _, _, _, _, _, _, _, _, _, _, _, _, _, _, _, _, _, _, _, _, _, _, _]) yK sizeOf3 rfl rfl (by first | rfl | assumption) rfl rfl) ?_))))))))))))
            rintro _ Pq yu
            refine aA (aj (ay (ay (ah (aN rfl (bM rfl (bG 28 underlying37 rfl sizeOf3 rfl (dX underlying3 rfl (yu).get.2 rfl (aU (bY rfl rfl) (aA (aj (aP rfl (fun h9 => ?_) (fun h9 => ?_)))))))))))))
            · (try simp only [aF] at h9)
              have pY := ig kK hon hrun h9
              refine ah (aN rfl (aN rfl (bM rfl (bG 0 underlying37 rfl sizeOf32 rfl (bG 7 underlying32 rfl sizeOf3 rfl (aJ (aT 7 (l' := [_, _, _, _, _, _, _, _, _, _, _, _, _, _, _, _, _, _, _, _, _, _, _, _, _, _, _, _, _, _, _, _, _, _]) yu sizeOf3 rfl rfl (by first | rfl | assumption) rfl rfl) ?_))))))
              rintro _ w16 tX
              refine bM rfl (bG 0 underlying37 rfl sizeOf32 rfl (bG 8 underlying32 rfl sizeOf3 rfl (aJ (aT 8 (l' := [_, _, _, _, _, _, _, _, _, _, _, _, _, _, _, _, _, _, _, _, _, _, _, _, _, _, _, _, _, _, _, _, _, _]) tX sizeOf3 rfl rfl (by first | rfl | assumption) rfl rfl) ?_)))
              rintro _ VF Hg
              refine aA (aj (ay (ah (aV rfl (aA (aj (aI (aH (.inl rfl) results27 rfl ?_))))))))
              refine ⟨rfl, ?_⟩
              first
                | exact absurd (hw2.symm.trans hwh) (by decide)
                | exact absurd (hwh.symm.trans hw2) (by decide)
                | (rw [pY]; exact aB.dM dK bH Hg.f11.f11.f11.f11.f11.f11.f11.f11.f11.f11.f11)
            · (try simp only [aF] at h9)
              have pY := fZ kK hon hrun h9
              refine aO (aj (ay (ah (aV rfl (aA (aj (aI (aH (.inl rfl) results27 rfl ?_))))))))
              refine ⟨rfl, ?_⟩
              first
                | exact absurd (hw2.symm.trans hwh) (by decide)
                | exact absurd (hwh.symm.trans hw2) (by decide)
                | (rw [pY]; exact aB.dM dK bH yu.f11.f11.f11.f11.f11.f11.f11.f11.f11.f11.f11)
        · (try simp only [aF] at h6)
          have hw2 : s.whole = false := by simpa using h6
          have hrun : (s.typed && (!s.put.isEmpty || s.c.run)) = false := by first | exact absurd (hwh.symm.trans hw2) (by decide) | (rw [hty]; rfl)
          refine bD (bD (iQ (iQ (iQ (iQ (iQ (bD (dL rfl rfl (bM rfl (bG 0 underlying37 rfl sizeOf32 rfl (bG 10 underlying32 rfl sizeOf4 rfl (aJ (aT 10 (l' := [_, _, _, _, _, _, _, _, _, _, _, _, _, _, _, _, _, _, _, _, _, _, _, _, _, _, _, _, _, _, _, _, _, _]) dO sizeOf4 rfl rfl (by first | rfl | assumption) rfl rfl) ?_))))))))))))
          rintro _ SL ER
          refine aA (aj (ay (ah (aN rfl (aN rfl (bM rfl (bG 28 underlying37 rfl sizeOf3 rfl (dX underlying3 rfl (ER).get.2 rfl (bM rfl (bG 0 underlying37 rfl sizeOf32 rfl (bG 6 underlying32 rfl sizeOf3 rfl (aJ (aT 6 (l' := [_, _, _, _, _, _, _, _, _, _, _, _, _, _, _, _, _, _, _, _, _, _, _, _, _, _, _, _, _, _, _, _, _, _]) ER sizeOf3 rfl rfl (by first | rfl | assumption) rfl rfl) ?_))))))))))))
          rintro _ Tc BJ
          refine aA (aj (ay (ay (ah (aN rfl (bM rfl (bG 28 underlying37 rfl sizeOf3 rfl (dX underlying3 rfl (BJ).get.2 rfl (aU (bY rfl rfl) (aA (aj (aP rfl (fun h10 => ?_) (fun h10 => ?_)))))))))))))
          · (try simp only [aF] at h10)
            have pY := ig kK hon hrun h10
            refine ah (aN rfl (aN rfl (bM rfl (bG 0 underlying37 rfl sizeOf32 rfl (bG 7 underlying32 rfl sizeOf3 rfl (aJ (aT 7 (l' := [_, _, _, _, _, _, _, _, _, _, _, _, _, _, _, _, _, _, _, _, _, _, _, _, _, _, _, _, _, _, _, _, _, _]) BJ sizeOf3 rfl rfl (by first | rfl | assumption) rfl rfl) ?_))))))
            rintro _ SN yh
            refine bM rfl (bG 0 underlying37 rfl sizeOf32 rfl (bG 8 underlying32 rfl sizeOf3 rfl (aJ (aT 8 (l' := [_, _, _, _, _, _, _, _, _, _, _, _, _, _, _, _, _, _, _, _, _, _, _, _, _, _, _, _, _, _, _, _, _, _]) yh sizeOf3 rfl rfl (by first | rfl | assumption) rfl rfl) ?_)))
            rintro _ UG qF
            refine aA (aj (ay (ah (aV rfl (aA (aj (aI (aH (.inl rfl) results27 rfl ?_))))))))
            refine ⟨rfl, ?_⟩
            first
              | exact absurd (hw2.symm.trans hwh) (by decide)
              | exact absurd (hwh.symm.trans hw2) (by decide)
              | (rw [pY]; exact aB.dM dK bH qF.f11.f11.f11.f11.f11.f11.f11.f11.f11.f11.f11)
          · (try simp only [aF] at h10)
            have pY := fZ kK hon hrun h10
            refine aO (aj (ay (ah (aV rfl (aA (aj (aI (aH (.inl rfl) results27 rfl ?_))))))))
            refine ⟨rfl, ?_⟩
            first
              | exact absurd (hw2.symm.trans hwh) (by decide)
              | exact absurd (hwh.symm.trans hw2) (by decide)
              | (rw [pY]; exact aB.dM dK bH BJ.f11.f11.f11.f11.f11.f11.f11.f11.f11.f11.f11)
      · (try simp only [aF] at h5)
        have hwh : s.whole = false := by simpa using h5
        have hty : s.typed = false := by unfold bC.typed; rw [hc3, hwh]; rfl
        have hrun : (s.typed && (!s.put.isEmpty || s.c.run)) = false := by rw [hty]; rfl
        refine bD (bD (bD (bD (bD (dL rfl rfl ?_)))))
        have hwo := rW (yF.f11)
        have Iq := yF.f11.right
        have HW0 := aB.yS (c := s.was) (u := [oI, oJ, oK, oL, oM, oN, oO, oP, oQ, oU, oV]) Iq hwo
        obtain ⟨s1, kK, Rh⟩ : ∃ s1, s1 = s.fK ∧ aB w0 (w6.drew) (dA e s1 • F) := ⟨_, hs1, aB.dM (hs1 ▸ rH dK) bH HW0.f11.f11.f11.f11.f11.f11.f11.f11.f11.f11⟩
        have hr1 : s1.c.run = s.c.run := by rw [kK]; unfold bC.fK; split <;> rfl
        refine bW rfl func96 (lT Rh) ?_
        rintro _ Td y5
        obtain ⟨on, hon, HZ⟩ : ∃ on, (s.typed && s.c.run) = on ∧ aB w0 Td (dA e (s1.dQ on) • F) := ⟨_, by rw [hty]; rfl, y5⟩
        refine aA (aj (ay ?_))
        obtain ⟨su, sD, sF, sG, sH, sJ, sK, sN, qI, oI, oJ, oK, oL, oM, oN, oO, oP, oQ, oU, oV, dK, bH, gZ, dO⟩ := (HZ).BQ
        refine ah (aN rfl (aN rfl (eP rfl (fun h11 => ?_) (fun h11 => ?_))))
        · (try simp only [aF] at h11)
          have hw2 : s.whole = true := h11
          refine aX (aN rfl (aX (eP rfl (fun h12 => ?_) (fun h12 => ?_))))
          · (try simp only [aF] at h12)
            have hrun : (s.typed && (!s.put.isEmpty || s.c.run)) = true := by first | exact absurd (hw2.symm.trans hwh) (by decide) | (rw [nM, decide_eq_false (show ¬ s.put.length = 0 by omega), hty]; rfl)
            refine bD (bD (bD (bD (bD (aX (fP rfl rfl (fP rfl rfl (bM rfl (bG 0 underlying37 rfl sizeOf32 rfl (bG 10 underlying32 rfl sizeOf4 rfl (aJ (aT 10 (l' := [_, _, _, _, _, _, _, _, _, _, _, _, _, _, _, _, _, _, _, _, _, _, _, _, _, _, _, _, _, _, _, _, _, _]) dO sizeOf4 rfl rfl (by first | rfl | assumption) rfl rfl) ?_)))))))))))
            rintro _ XT Nh
            refine aA (aj (ay (ah (aN rfl (aN rfl (bM rfl (bG 28 underlying37 rfl sizeOf3 rfl (dX underlying3 rfl (Nh).get.2 rfl (bM rfl (bG 0 underlying37 rfl sizeOf32 rfl (bG 6 underlying32 rfl sizeOf3 rfl (aJ (aT 6 (l' := [_, _, _, _, _, _, _, _, _, _, _, _, _, _, _, _, _, _, _, _, _, _, _, _, _, _, _, _, _, _, _, _, _, _]) Nh sizeOf3 rfl rfl (by first | rfl | assumption) rfl rfl) ?_))))))))))))
            rintro _ Xa KX
            refine aA (aj (ay (ay (ah (aN rfl (bM rfl (bG 28 underlying37 rfl sizeOf3 rfl (dX underlying3 rfl (KX).get.2 rfl (aU (bY rfl rfl) (aA (aj (aP rfl (fun h13 => ?_) (fun h13 => ?_)))))))))))))
            · (try simp only [aF] at h13)
              have pY := ig kK hon hrun h13
              refine ah (aN rfl (aN rfl (bM rfl (bG 0 underlying37 rfl sizeOf32 rfl (bG 7 underlying32 rfl sizeOf3 rfl (aJ (aT 7 (l' := [_, _, _, _, _, _, _, _, _, _, _, _, _, _, _, _, _, _, _, _, _, _, _, _, _, _, _, _, _, _, _, _, _, _]) KX sizeOf3 rfl rfl (by first | rfl | assumption) rfl rfl) ?_))))))
              rintro _ Xb Pv
              refine bM rfl (bG 0 underlying37 rfl sizeOf32 rfl (bG 8 underlying32 rfl sizeOf3 rfl (aJ (aT 8 (l' := [_, _, _, _, _, _, _, _, _, _, _, _, _, _, _, _, _, _, _, _, _, _, _, _, _, _, _, _, _, _, _, _, _, _]) Pv sizeOf3 rfl rfl (by first | rfl | assumption) rfl rfl) ?_)))
              rintro _ XU Px
              refine aA (aj (ay (ah (aV rfl (aA (aj (aI (aH (.inl rfl) results27 rfl ?_))))))))
              refine ⟨rfl, ?_⟩
              first
                | exact absurd (hw2.symm.trans hwh) (by decide)
                | exact absurd (hwh.symm.trans hw2) (by decide)
                | (rw [pY]; exact aB.dM dK bH Px.f11.f11.f11.f11.f11.f11.f11.f11.f11.f11.f11)
            · (try simp only [aF] at h13)
              have pY := fZ kK hon hrun h13
              refine aO (aj (ay (ah (aV rfl (aA (aj (aI (aH (.inl rfl) results27 rfl ?_))))))))
              refine ⟨rfl, ?_⟩
              first
                | exact absurd (hw2.symm.trans hwh) (by decide)
                | exact absurd (hwh.symm.trans hw2) (by decide)
                | (rw [pY]; exact aB.dM dK bH KX.f11.f11.f11.f11.f11.f11.f11.f11.f11.f11.f11)
          · (try simp only [aF] at h12)
            have hrun : (s.typed && (!s.put.isEmpty || s.c.run)) = (s1.dQ on).c.run := by first | exact absurd (hw2.symm.trans hwh) (by decide) | (rw [nM, decide_eq_true (show s.put.length = 0 by omega), hty, vY, hr1]; rfl)
            refine aX (aN rfl (aX (bM rfl (aX (bG 0 underlying37 rfl sizeOf32 rfl (aX (bG 10 underlying32 rfl sizeOf4 rfl (aX (dX underlying4 rfl (dO).get.2 rfl (aX (dL rfl rfl (fP rfl rfl (bM rfl (bG 0 underlying37 rfl sizeOf32 rfl (bG 10 underlying32 rfl sizeOf4 rfl (aJ (aT 10 (l' := [_, _, _, _, _, _, _, _, _, _, _, _, _, _, _, _, _, _, _, _, _, _, _, _, _, _, _, _, _, _, _, _, _, _]) dO sizeOf4 rfl rfl (by first | rfl | assumption) rfl rfl) ?_))))))))))))))))
            rintro _ Zt Qa
            refine aA (aj (ay (ah (aN rfl (aN rfl (bM rfl (bG 28 underlying37 rfl sizeOf3 rfl (dX underlying3 rfl (Qa).get.2 rfl (bM rfl (bG 0 underlying37 rfl sizeOf32 rfl (bG 6 underlying32 rfl sizeOf3 rfl (aJ (aT 6 (l' := [_, _, _, _, _, _, _, _, _, _, _, _, _, _, _, _, _, _, _, _, _, _, _, _, _, _, _, _, _, _, _, _, _, _]) Qa sizeOf3 rfl rfl (by first | rfl | assumption) rfl rfl) ?_))))))))))))
            rintro _ Y6 Ov
            refine aA (aj (ay (ay (ah (aN rfl (bM rfl (bG 28 underlying37 rfl sizeOf3 rfl (dX underlying3 rfl (Ov).get.2 rfl (aU (bY rfl rfl) (aA (aj (aP rfl (fun h14 => ?_) (fun h14 => ?_)))))))))))))
            · (try simp only [aF] at h14)
              have pY := ig kK hon hrun h14
              refine ah (aN rfl (aN rfl (bM rfl (bG 0 underlying37 rfl sizeOf32 rfl (bG 7 underlying32 rfl sizeOf3 rfl (aJ (aT 7 (l' := [_, _, _, _, _, _, _, _, _, _, _, _, _, _, _, _, _, _, _, _, _, _, _, _, _, _, _, _, _, _, _, _, _, _]) Ov sizeOf3 rfl rfl (by first | rfl | assumption) rfl rfl) ?_))))))
              rintro _ Xc Jk
              refine bM rfl (bG 0 underlying37 rfl sizeOf32 rfl (bG 8 underlying32 rfl sizeOf3 rfl (aJ (aT 8 (l' := [_, _, _, _, _, _, _, _, _, _, _, _, _, _, _, _, _, _, _, _, _, _, _, _, _, _, _, _, _, _, _, _, _, _]) Jk sizeOf3 rfl rfl (by first | rfl | assumption) rfl rfl) ?_)))
              rintro _ w32 Nj
              refine aA (aj (ay (ah (aV rfl (aA (aj (aI (aH (.inl rfl) results27 rfl ?_))))))))
              refine ⟨rfl, ?_⟩
              first
                | exact absurd (hw2.symm.trans hwh) (by decide)
                | exact absurd (hwh.symm.trans hw2) (by decide)
                | (rw [pY]; exact aB.dM dK bH Nj.f11.f11.f11.f11.f11.f11.f11.f11.f11.f11.f11)
            · (try simp only [aF] at h14)
              have pY := fZ kK hon hrun h14
              refine aO (aj (ay (ah (aV rfl (aA (aj (aI (aH (.inl rfl) results27 rfl ?_))))))))
              refine ⟨rfl, ?_⟩
              first
                | exact absurd (hw2.symm.trans hwh) (by decide)
                | exact absurd (hwh.symm.trans hw2) (by decide)
                | (rw [pY]; exact aB.dM dK bH Ov.f11.f11.f11.f11.f11.f11.f11.f11.f11.f11.f11)
        · (try simp only [aF] at h11)
          have hw2 : s.whole = false := by simpa using h11
          have hrun : (s.typed && (!s.put.isEmpty || s.c.run)) = false := by first | exact absurd (hwh.symm.trans hw2) (by decide) | (rw [hty]; rfl)
          refine bD (bD (iQ (iQ (iQ (iQ (iQ (bD (dL rfl rfl (bM rfl (bG 0 underlying37 rfl sizeOf32 rfl (bG 10 underlying32 rfl sizeOf4 rfl (aJ (aT 10 (l' := [_, _, _, _, _, _, _, _, _, _, _, _, _, _, _, _, _, _, _, _, _, _, _, _, _, _, _, _, _, _, _, _, _, _]) dO sizeOf4 rfl rfl (by first | rfl | assumption) rfl rfl) ?_))))))))))))
          rintro _ XV Jl
          refine aA (aj (ay (ah (aN rfl (aN rfl (bM rfl (bG 28 underlying37 rfl sizeOf3 rfl (dX underlying3 rfl (Jl).get.2 rfl (bM rfl (bG 0 underlying37 rfl sizeOf32 rfl (bG 6 underlying32 rfl sizeOf3 rfl (aJ (aT 6 (l' := [_, _, _, _, _, _, _, _, _, _, _, _, _, _, _, _, _, _, _, _, _, _, _, _, _, _, _, _, _, _, _, _, _, _]) Jl sizeOf3 rfl rfl (by first | rfl | assumption) rfl rfl) ?_))))))))))))
          rintro _ Y7 Py
          refine aA (aj (ay (ay (ah (aN rfl (bM rfl (bG 28 underlying37 rfl sizeOf3 rfl (dX underlying3 rfl (Py).get.2 rfl (aU (bY rfl rfl) (aA (aj (aP rfl (fun h15 => ?_) (fun h15 => ?_)))))))))))))
          · (try simp only [aF] at h15)
            have pY := ig kK hon hrun h15
            refine ah (aN rfl (aN rfl (bM rfl (bG 0 underlying37 rfl sizeOf32 rfl (bG 7 underlying32 rfl sizeOf3 rfl (aJ (aT 7 (l' := [_, _, _, _, _, _, _, _, _, _, _, _, _, _, _, _, _, _, _, _, _, _, _, _, _, _, _, _, _, _, _, _, _, _]) Py sizeOf3 rfl rfl (by first | rfl | assumption) rfl rfl) ?_))))))
            rintro _ Zu UH
            refine bM rfl (bG 0 underlying37 rfl sizeOf32 rfl (bG 8 underlying32 rfl sizeOf3 rfl (aJ (aT 8 (l' := [_, _, _, _, _, _, _, _, _, _, _, _, _, _, _, _, _, _, _, _, _, _, _, _, _, _, _, _, _, _, _, _, _, _]) UH sizeOf3 rfl rfl (by first | rfl | assumption) rfl rfl) ?_)))
            rintro _ Zv VG
            refine aA (aj (ay (ah (aV rfl (aA (aj (aI (aH (.inl rfl) results27 rfl ?_))))))))
            refine ⟨rfl, ?_⟩
            first
              | exact absurd (hw2.symm.trans hwh) (by decide)
              | exact absurd (hwh.symm.trans hw2) (by decide)
              | (rw [pY]; exact aB.dM dK bH VG.f11.f11.f11.f11.f11.f11.f11.f11.f11.f11.f11)
          · (try simp only [aF] at h15)
            have pY := fZ kK hon hrun h15
            refine aO (aj (ay (ah (aV rfl (aA (aj (aI (aH (.inl rfl) results27 rfl ?_))))))))
            refine ⟨rfl, ?_⟩
            first
              | exact absurd (hw2.symm.trans hwh) (by decide)
              | exact absurd (hwh.symm.trans hw2) (by decide)
              | (rw [pY]; exact aB.dM dK bH Py.f11.f11.f11.f11.f11.f11.f11.f11.f11.f11.f11)
    · (try simp only [aF] at h4)
      have hty : s.typed = false := by unfold bC.typed; rw [beq_false_of_ne h4]; rfl
      have hrun : (s.typed && (!s.put.isEmpty || s.c.run)) = false := by rw [hty]; rfl
      refine AY 6 rfl rfl rfl rfl (by kernel_rfl) (by kernel_rfl) fV (qN rfl) ?_
      refine AY 7 rfl rfl rfl rfl (by kernel_rfl) (by kernel_rfl) fV (qN rfl) ?_
      refine AY 8 rfl rfl rfl rfl (by kernel_rfl) (by kernel_rfl) fV (qN rfl) ?_
      refine AY 9 rfl rfl rfl rfl (by kernel_rfl) (by kernel_rfl) fV (qN rfl) ?_
      refine jr 10 rfl fV (fun _ => CS rfl rfl) (iD 11 rfl fV rfl (jS 12 rfl fV rfl (gV 13 rfl fV 33 underlying37 rfl sizeOf35 rfl (jB 14 rfl fV (fun W hW => jR underlying35 rfl ((Kp.h hW)).get.2 rfl) (jr 15 rfl fV (fun _ => jg ((yF.f9).aS) underlying35 rfl) (jr 16 rfl fV (fun _ => dF rfl rfl) (jr 17 rfl fV (fun _ => eH rfl) (jr 18 rfl fV (fun _ => eH rfl) (qQ (aj (ay (ah (aN rfl (aN rfl (aN rfl (bD (bD (bD (bD (bD (dL rfl rfl ?_)))))))))))))))))))))
      have hwo := rW (yF.f11)
      have WB := yF.f11.right
      have HW0 := aB.yS (c := s.was) (u := [oI, oJ, oK, oL, oM, oN, oO, oP, oQ, oU, oV]) WB hwo
      obtain ⟨s1, kK, Rh⟩ : ∃ s1, s1 = s.fK ∧ aB w0 (w6.drew) (dA e s1 • F) := ⟨_, hs1, aB.dM (hs1 ▸ rH dK) bH HW0.f11.f11.f11.f11.f11.f11.f11.f11.f11.f11⟩
      have hr1 : s1.c.run = s.c.run := by rw [kK]; unfold bC.fK; split <;> rfl
      refine bW rfl func96 (lT Rh) ?_
      rintro _ Xd Tf
      obtain ⟨on, hon, HZ⟩ : ∃ on, (s.typed && s.c.run) = on ∧ aB w0 Xd (dA e (s1.dQ on) • F) := ⟨_, by rw [hty]; rfl, Tf⟩
      refine aA (aj (ay ?_))
      obtain ⟨su, sD, sF, sG, sH, sJ, sK, sN, qI, oI, oJ, oK, oL, oM, oN, oO, oP, oQ, oU, oV, dK, bH, gZ, dO⟩ := (HZ).BQ
      refine ah (aN rfl (aN rfl (aN rfl (bD (bD (iQ (iQ (iQ (iQ (iQ (bD (dL rfl rfl (bM rfl (bG 0 underlying37 rfl sizeOf32 rfl (bG 10 underlying32 rfl sizeOf4 rfl (aJ (aT 10 (l' := [_, _, _, _, _, _, _, _, _, _, _, _, _, _, _, _, _, _, _, _, _, _, _, _, _, _, _, _, _, _, _, _, _, _]) dO sizeOf4 rfl rfl (by first | rfl | assumption) rfl rfl) ?_))))))))))))))))
      rintro _ w40 UJ
      refine aA (aj (ay (ah (aN rfl (aN rfl (bM rfl (bG 28 underlying37 rfl sizeOf3 rfl (dX underlying3 rfl (UJ).get.2 rfl (bM rfl (bG 0 underlying37 rfl sizeOf32 rfl (bG 6 underlying32 rfl sizeOf3 rfl (aJ (aT 6 (l' := [_, _, _, _, _, _, _, _, _, _, _, _, _, _, _, _, _, _, _, _, _, _, _, _, _, _, _, _, _, _, _, _, _, _]) UJ sizeOf3 rfl rfl (by first | rfl | assumption) rfl rfl) ?_))))))))))))
      rintro _ Zx UK
      refine aA (aj (ay (ay (ah (aN rfl (bM rfl (bG 28 underlying37 rfl sizeOf3 rfl (dX underlying3 rfl (UK).get.2 rfl (aU (bY rfl rfl) (aA (aj (aP rfl (fun h16 => ?_) (fun h16 => ?_)))))))))))))
      · (try simp only [aF] at h16)
        have pY := ig kK hon hrun h16
        refine ah (aN rfl (aN rfl (bM rfl (bG 0 underlying37 rfl sizeOf32 rfl (bG 7 underlying32 rfl sizeOf3 rfl (aJ (aT 7 (l' := [_, _, _, _, _, _, _, _, _, _, _, _, _, _, _, _, _, _, _, _, _, _, _, _, _, _, _, _, _, _, _, _, _, _]) UK sizeOf3 rfl rfl (by first | rfl | assumption) rfl rfl) ?_))))))
        rintro _ Zy UL
        refine bM rfl (bG 0 underlying37 rfl sizeOf32 rfl (bG 8 underlying32 rfl sizeOf3 rfl (aJ (aT 8 (l' := [_, _, _, _, _, _, _, _, _, _, _, _, _, _, _, _, _, _, _, _, _, _, _, _, _, _, _, _, _, _, _, _, _, _]) UL sizeOf3 rfl rfl (by first | rfl | assumption) rfl rfl) ?_)))
        rintro _ Y8 UM
        refine aA (aj (ay (ah (aV rfl (aA (aj (aI (aH (.inl rfl) results27 rfl ?_))))))))
        refine ⟨rfl, ?_⟩
        first
          | exact absurd (hw2.symm.trans hwh) (by decide)
          | exact absurd (hwh.symm.trans hw2) (by decide)
          | (rw [pY]; exact aB.dM dK bH UM.f11.f11.f11.f11.f11.f11.f11.f11.f11.f11.f11)
      · (try simp only [aF] at h16)
        have pY := fZ kK hon hrun h16
        refine aO (aj (ay (ah (aV rfl (aA (aj (aI (aH (.inl rfl) results27 rfl ?_))))))))
        refine ⟨rfl, ?_⟩
        first
          | exact absurd (hw2.symm.trans hwh) (by decide)
          | exact absurd (hwh.symm.trans hw2) (by decide)
          | (rw [pY]; exact aB.dM dK bH UK.f11.f11.f11.f11.f11.f11.f11.f11.f11.f11.f11)
  · (try simp only [aF] at h2)
    have har : s.argues = true := by simpa using h2
    have hs1 : ({ s with dU := false } : bC) = s.fK := by unfold bC.fK; rw [if_pos har]
    refine aX (aN rfl (aX (aU (bY rfl rfl) (dL rfl rfl (aA (aj (aP rfl (fun h => by exfalso; (try simp only [aF] at h); simp at h) (fun h17 => ?_))))))))
    (try simp only [aF] at h17)
    refine aO (aj (ay (ay (ah (aN rfl (aU (bY rfl rfl) (aA (aj (aP rfl (fun h => by exfalso; (try simp only [aF] at h); simp at h) (fun h18 => ?_))))))))))
    (try simp only [aF] at h18)
    refine aO (aj (ay ?_))
    have um := H3.drew
    have dY := aB.kp (um.f11.f11.f11.f11.f11.f11.f11.f11.f11.f11.f11)
    refine yI [3, 9, 14] dY rfl (iD 0 rfl dY rfl (jS 1 rfl dY rfl (gV 2 rfl dY 28 underlying37 rfl sizeOf3 rfl (jB 3 rfl dY (fun W hW => jR underlying3 rfl ((Kp.h hW)).get.2 rfl) (jr 4 rfl dY (fun _ => fE rfl rfl) ?_)))))
    refine I9 5 rfl rfl (by kernel_rfl) (by kernel_rfl) dY (qN rfl) (fun h19 => ?_) (fun h19 => ?_)
    · (try simp only [aF] at h19)
      have hc3 : s.cls = 3 := h19
      refine lK 6 rfl rfl rfl (by kernel_rfl) (by kernel_rfl) dY (fun _ => CP rfl) (qN rfl) ?_
      refine lK 7 rfl rfl rfl (by kernel_rfl) (by kernel_rfl) dY (fun _ => MQ rfl) (qN rfl) ?_
      refine lK 8 rfl rfl rfl (by kernel_rfl) (by kernel_rfl) dY (fun _ => CU 32 underlying37 rfl rfl sizeOf4 (by decide) rfl rfl) (qN rfl) ?_
      refine AX 9 rfl rfl rfl (by kernel_rfl) (by kernel_rfl) dY (by decide) (fun W hW => kU (dB underlying4 rfl) rfl (gK ((Kp.h hW)).get.2 rfl)) (qN rfl) ?_
      refine jr 10 rfl dY (fun _ => CQ rfl rfl) (iD 11 rfl dY rfl (jS 12 rfl dY rfl (gV 13 rfl dY 33 underlying37 rfl sizeOf35 rfl (jB 14 rfl dY (fun W hW => jR underlying35 rfl ((Kp.h hW)).get.2 rfl) (jr 15 rfl dY (fun _ => jg ((um.f9).aS) underlying35 rfl) (jr 16 rfl dY (fun _ => dF rfl rfl) (jr 17 rfl dY (fun _ => eH rfl) (jr 18 rfl dY (fun _ => eH rfl) (qQ (aj (ay (ah (aN rfl (aN rfl (eP rfl (fun h20 => ?_) (fun h20 => ?_))))))))))))))))
      · (try simp only [aF] at h20)
        have hwh : s.whole = true := h20
        have hty : s.typed = true := by unfold bC.typed; rw [hc3, hwh]; rfl
        refine aX (aN rfl (aX (bM rfl (aX (bG 0 underlying37 rfl sizeOf32 rfl (aX (bG 10 underlying32 rfl sizeOf4 rfl (aX (dX underlying4 rfl (um).get.2 rfl (fP rfl rfl ?_))))))))))
        have hwo := rW (um.f11)
        have abe := um.f11.right
        have HW0 := aB.yS (c := s.was) (u := [oI, oJ, oK, oL, oM, oN, oO, oP, oQ, oU, oV]) abe hwo
        obtain ⟨s1, kK, Rh⟩ : ∃ s1, s1 = s.fK ∧ aB w0 (w3.drew) (dA e s1 • F) := ⟨_, hs1, aB.dM (hs1 ▸ rH dK) bH HW0.f11.f11.f11.f11.f11.f11.f11.f11.f11.f11⟩
        have hr1 : s1.c.run = s.c.run := by rw [kK]; unfold bC.fK; split <;> rfl
        refine bW rfl func96 (lT Rh) ?_
        rintro _ XY RX
        obtain ⟨on, hon, HZ⟩ : ∃ on, (s.typed && s.c.run) = on ∧ aB w0 XY (dA e (s1.dQ on) • F) := ⟨_, by rw [hty]; rfl, RX⟩
        refine aA (aj (ay ?_))
        obtain ⟨su, sD, sF, sG, sH, sJ, sK, sN, qI, oI, oJ, oK, oL, oM, oN, oO, oP, oQ, oU, oV, dK, bH, gZ, dO⟩ := (HZ).BQ
        refine ah (aN rfl (aN rfl (eP rfl (fun h21 => ?_) (fun h21 => ?_))))
        · (try simp only [aF] at h21)
          have hw2 : s.whole = true := h21
          refine aX (aN rfl (aX (eP rfl (fun h22 => ?_) (fun h22 => ?_))))
          · (try simp only [aF] at h22)
            have hrun : (s.typed && (!s.put.isEmpty || s.c.run)) = true := by first | exact absurd (hw2.symm.trans hwh) (by decide) | (rw [nM, decide_eq_false (show ¬ s.put.length = 0 by omega), hty]; rfl)
            refine bD (bD (bD (bD (bD (aX (fP rfl rfl (fP rfl rfl (bM rfl (bG 0 underlying37 rfl sizeOf32 rfl (bG 10 underlying32 rfl sizeOf4 rfl (aJ (aT 10 (l' := [_, _, _, _, _, _, _, _, _, _, _, _, _, _, _, _, _, _, _, _, _, _, _, _, _, _, _, _, _, _, _, _, _, _]) dO sizeOf4 rfl rfl (by first | rfl | assumption) rfl rfl) ?_)))))))))))
            rintro _ ZB UN
            refine aA (aj (ay (ah (aN rfl (aN rfl (bM rfl (bG 28 underlying37 rfl sizeOf3 rfl (dX underlying3 rfl (UN).get.2 rfl (bM rfl (bG 0 underlying37 rfl sizeOf32 rfl (bG 6 underlying32 rfl sizeOf3 rfl (aJ (aT 6 (l' := [_, _, _, _, _, _, _, _, _, _, _, _, _, _, _, _, _, _, _, _, _, _, _, _, _, _, _, _, _, _, _, _, _, _]) UN sizeOf3 rfl rfl (by first | rfl | assumption) rfl rfl) ?_))))))))))))
            rintro _ w48 WE
            refine aA (aj (ay (ay (ah (aN rfl (bM rfl (bG 28 underlying37 rfl sizeOf3 rfl (dX underlying3 rfl (WE).get.2 rfl (aU (bY rfl rfl) (aA (aj (aP rfl (fun h23 => ?_) (fun h23 => ?_)))))))))))))
            · (try simp only [aF] at h23)
              have pY := ig kK hon hrun h23
              refine ah (aN rfl (aN rfl (bM rfl (bG 0 underlying37 rfl sizeOf32 rfl (bG 7 underlying32 rfl sizeOf3 rfl (aJ (aT 7 (l' := [_, _, _, _, _, _, _, _, _, _, _, _, _, _, _, _, _, _, _, _, _, _, _, _, _, _, _, _, _, _, _, _, _, _]) WE sizeOf3 rfl rfl (by first | rfl | assumption) rfl rfl) ?_))))))
              rintro _ w49 Zf
              refine bM rfl (bG 0 underlying37 rfl sizeOf32 rfl (bG 8 underlying32 rfl sizeOf3 rfl (aJ (aT 8 (l' := [_, _, _, _, _, _, _, _, _, _, _, _, _, _, _, _, _, _, _, _, _, _, _, _, _, _, _, _, _, _, _, _, _, _]) Zf sizeOf3 rfl rfl (by first | rfl | assumption) rfl rfl) ?_)))
              rintro _ w50 U2
              refine aA (aj (ay (ah (aV rfl (aA (aj (aI (aH (.inl rfl) results27 rfl ?_))))))))
              refine ⟨rfl, ?_⟩
              first
                | exact absurd (hw2.symm.trans hwh) (by decide)
                | exact absurd (hwh.symm.trans hw2) (by decide)
                | (rw [pY]; exact aB.dM dK bH U2.f11.f11.f11.f11.f11.f11.f11.f11.f11.f11.f11)
            · (try simp only [aF] at h23)
              have pY := fZ kK hon hrun h23
              refine aO (aj (ay (ah (aV rfl (aA (aj (aI (aH (.inl rfl) results27 rfl ?_))))))))
              refine ⟨rfl, ?_⟩
              first
                | exact absurd (hw2.symm.trans hwh) (by decide)
                | exact absurd (hwh.symm.trans hw2) (by decide)
                | (rw [pY]; exact aB.dM dK bH WE.f11.f11.f11.f11.f11.f11.f11.f11.f11.f11.f11)
          · (try simp only [aF] at h22)
            have hrun : (s.typed && (!s.put.isEmpty || s.c.run)) = (s1.dQ on).c.run := by first | exact absurd (hw2.symm.trans hwh) (by decide) | (rw [nM, decide_eq_true (show s.put.length = 0 by omega), hty, vY, hr1]; rfl)
            refine aX (aN rfl (aX (bM rfl (aX (bG 0 underlying37 rfl sizeOf32 rfl (aX (bG 10 underlying32 rfl sizeOf4 rfl (aX (dX underlying4 rfl (dO).get.2 rfl (aX (dL rfl rfl (fP rfl rfl (bM rfl (bG 0 underlying37 rfl sizeOf32 rfl (bG 10 underlying32 rfl sizeOf4 rfl (aJ (aT 10 (l' := [_, _, _, _, _, _, _, _, _, _, _, _, _, _, _, _, _, _, _, _, _, _, _, _, _, _, _, _, _, _, _, _, _, _]) dO sizeOf4 rfl rfl (by first | rfl | assumption) rfl rfl) ?_))))))))))))))))
            rintro _ w51 TT
            refine aA (aj (ay (ah (aN rfl (aN rfl (bM rfl (bG 28 underlying37 rfl sizeOf3 rfl (dX underlying3 rfl (TT).get.2 rfl (bM rfl (bG 0 underlying37 rfl sizeOf32 rfl (bG 6 underlying32 rfl sizeOf3 rfl (aJ (aT 6 (l' := [_, _, _, _, _, _, _, _, _, _, _, _, _, _, _, _, _, _, _, _, _, _, _, _, _, _, _, _, _, _, _, _, _, _]) TT sizeOf3 rfl rfl (by first | rfl | assumption) rfl rfl) ?_))))))))))))
            rintro _ w52 RZ
            refine aA (aj (ay (ay (ah (aN rfl (bM rfl (bG 28 underlying37 rfl sizeOf3 rfl (dX underlying3 rfl (RZ).get.2 rfl (aU (bY rfl rfl) (aA (aj (aP rfl (fun h24 => ?_) (fun h24 => ?_)))))))))))))
            · (try simp only [aF] at h24)
              have pY := ig kK hon hrun h24
              refine ah (aN rfl (aN rfl (bM rfl (bG 0 underlying37 rfl sizeOf32 rfl (bG 7 underlying32 rfl sizeOf3 rfl (aJ (aT 7 (l' := [_, _, _, _, _, _, _, _, _, _, _, _, _, _, _, _, _, _, _, _, _, _, _, _, _, _, _, _, _, _, _, _, _, _]) RZ sizeOf3 rfl rfl (by first | rfl | assumption) rfl rfl) ?_))))))
              rintro _ w53 Si
              refine bM rfl (bG 0 underlying37 rfl sizeOf32 rfl (bG 8 underlying32 rfl sizeOf3 rfl (aJ (aT 8 (l' := [_, _, _, _, _, _, _, _, _, _, _, _, _, _, _, _, _, _, _, _, _, _, _, _, _, _, _, _, _, _, _, _, _, _]) Si sizeOf3 rfl rfl (by first | rfl | assumption) rfl rfl) ?_)))
              rintro _ w54 YD
              refine aA (aj (ay (ah (aV rfl (aA (aj (aI (aH (.inl rfl) results27 rfl ?_))))))))
              refine ⟨rfl, ?_⟩
              first
                | exact absurd (hw2.symm.trans hwh) (by decide)
                | exact absurd (hwh.symm.trans hw2) (by decide)
                | (rw [pY]; exact aB.dM dK bH YD.f11.f11.f11.f11.f11.f11.f11.f11.f11.f11.f11)
            · (try simp only [aF] at h24)
              have pY := fZ kK hon hrun h24
              refine aO (aj (ay (ah (aV rfl (aA (aj (aI (aH (.inl rfl) results27 rfl ?_))))))))
              refine ⟨rfl, ?_⟩
              first
                | exact absurd (hw2.symm.trans hwh) (by decide)
                | exact absurd (hwh.symm.trans hw2) (by decide)
                | (rw [pY]; exact aB.dM dK bH RZ.f11.f11.f11.f11.f11.f11.f11.f11.f11.f11.f11)
        · (try simp only [aF] at h21)
          have hw2 : s.whole = false := by simpa using h21
          have hrun : (s.typed && (!s.put.isEmpty || s.c.run)) = false := by first | exact absurd (hwh.symm.trans hw2) (by decide) | (rw [hty]; rfl)
          refine bD (bD (iQ (iQ (iQ (iQ (iQ (bD (dL rfl rfl (bM rfl (bG 0 underlying37 rfl sizeOf32 rfl (bG 10 underlying32 rfl sizeOf4 rfl (aJ (aT 10 (l' := [_, _, _, _, _, _, _, _, _, _, _, _, _, _, _, _, _, _, _, _, _, _, _, _, _, _, _, _, _, _, _, _, _, _]) dO sizeOf4 rfl rfl (by first | rfl | assumption) rfl rfl) ?_))))))))))))
          rintro _ w55 Xl
          refine aA (aj (ay (ah (aN rfl (aN rfl (bM rfl (bG 28 underlying37 rfl sizeOf3 rfl (dX underlying3 rfl (Xl).get.2 rfl (bM rfl (bG 0 underlying37 rfl sizeOf32 rfl (bG 6 underlying32 rfl sizeOf3 rfl (aJ (aT 6 (l' := [_, _, _, _, _, _, _, _, _, _, _, _, _, _, _, _, _, _, _, _, _, _, _, _, _, _, _, _, _, _, _, _, _, _]) Xl sizeOf3 rfl rfl (by first | rfl | assumption) rfl rfl) ?_))))))))))))
          rintro _ w56 YS
          refine aA (aj (ay (ay (ah (aN rfl (bM rfl (bG 28 underlying37 rfl sizeOf3 rfl (dX underlying3 rfl (YS).get.2 rfl (aU (bY rfl rfl) (aA (aj (aP rfl (fun h25 => ?_) (fun h25 => ?_)))))))))))))
          · (try simp only [aF] at h25)
            have pY := ig kK hon hrun h25
            refine ah (aN rfl (aN rfl (bM rfl (bG 0 underlying37 rfl sizeOf32 rfl (bG 7 underlying32 rfl sizeOf3 rfl (aJ (aT 7 (l' := [_, _, _, _, _, _, _, _, _, _, _, _, _, _, _, _, _, _, _, _, _, _, _, _, _, _, _, _, _, _, _, _, _, _]) YS sizeOf3 rfl rfl (by first | rfl | assumption) rfl rfl) ?_))))))
            rintro _ w57 H57
            refine bM rfl (bG 0 underlying37 rfl sizeOf32 rfl (bG 8 underlying32 rfl sizeOf3 rfl (aJ (aT 8 (l' := [_, _, _, _, _, _, _, _, _, _, _, _, _, _, _, _, _, _, _, _, _, _, _, _, _, _, _, _, _, _, _, _, _, _]) H57 sizeOf3 rfl rfl (by first | rfl | assumption) rfl rfl) ?_)))
            rintro _ w58 QO
            refine aA (aj (ay (ah (aV rfl (aA (aj (aI (aH (.inl rfl) results27 rfl ?_))))))))
            refine ⟨rfl, ?_⟩
            first
              | exact absurd (hw2.symm.trans hwh) (by decide)
              | exact absurd (hwh.symm.trans hw2) (by decide)
              | (rw [pY]; exact aB.dM dK bH QO.f11.f11.f11.f11.f11.f11.f11.f11.f11.f11.f11)
          · (try simp only [aF] at h25)
            have pY := fZ kK hon hrun h25
            refine aO (aj (ay (ah (aV rfl (aA (aj (aI (aH (.inl rfl) results27 rfl ?_))))))))
            refine ⟨rfl, ?_⟩
            first
              | exact absurd (hw2.symm.trans hwh) (by decide)
              | exact absurd (hwh.symm.trans hw2) (by decide)
              | (rw [pY]; exact aB.dM dK bH YS.f11.f11.f11.f11.f11.f11.f11.f11.f11.f11.f11)
      · (try simp only [aF] at h20)
        have hwh : s.whole = false := by simpa using h20
        have hty : s.typed = false := by unfold bC.typed; rw [hc3, hwh]; rfl
        have hrun : (s.typed && (!s.put.isEmpty || s.c.run)) = false := by rw [hty]; rfl
        refine bD (bD (bD (bD (bD (dL rfl rfl ?_)))))
        have hwo := rW (um.f11)
        have abf := um.f11.right
        have HW0 := aB.yS (c := s.was) (u := [oI, oJ, oK, oL, oM, oN, oO, oP, oQ, oU, oV]) abf hwo
        obtain ⟨s1, kK, Rh⟩ : ∃ s1, s1 = s.fK ∧ aB w0 (w3.drew) (dA e s1 • F) := ⟨_, hs1, aB.dM (hs1 ▸ rH dK) bH HW0.f11.f11.f11.f11.f11.f11.f11.f11.f11.f11⟩
        have hr1 : s1.c.run = s.c.run := by rw [kK]; unfold bC.fK; split <;> rfl
        refine bW rfl func96 (lT Rh) ?_
        rintro _ Zg U4
        obtain ⟨on, hon, HZ⟩ : ∃ on, (s.typed && s.c.run) = on ∧ aB w0 Zg (dA e (s1.dQ on) • F) := ⟨_, by rw [hty]; rfl, U4⟩
        refine aA (aj (ay ?_))
        obtain ⟨su, sD, sF, sG, sH, sJ, sK, sN, qI, oI, oJ, oK, oL, oM, oN, oO, oP, oQ, oU, oV, dK, bH, gZ, dO⟩ := (HZ).BQ
        refine ah (aN rfl (aN rfl (eP rfl (fun h26 => ?_) (fun h26 => ?_))))
        · (try simp only [aF] at h26)
          have hw2 : s.whole = true := h26
          refine aX (aN rfl (aX (eP rfl (fun h27 => ?_) (fun h27 => ?_))))
          · (try simp only [aF] at h27)
            have hrun : (s.typed && (!s.put.isEmpty || s.c.run)) = true := by first | exact absurd (hw2.symm.trans hwh) (by decide) | (rw [nM, decide_eq_false (show ¬ s.put.length = 0 by omega), hty]; rfl)
            refine bD (bD (bD (bD (bD (aX (fP rfl rfl (fP rfl rfl (bM rfl (bG 0 underlying37 rfl sizeOf32 rfl (bG 10 underlying32 rfl sizeOf4 rfl (aJ (aT 10 (l' := [_, _, _, _, _, _, _, _, _, _, _, _, _, _, _, _, _, _, _, _, _, _, _, _, _, _, _, _, _, _, _, _, _, _]) dO sizeOf4 rfl rfl (by first | rfl | assumption) rfl rfl) ?_)))))))))))
            rintro _ w62 Wn
            refine aA (aj (ay (ah (aN rfl (aN rfl (bM rfl (bG 28 underlying37 rfl sizeOf3 rfl (dX underlying3 rfl (Wn).get.2 rfl (bM rfl (bG 0 underlying37 rfl sizeOf32 rfl (bG 6 underlying32 rfl sizeOf3 rfl (aJ (aT 6 (l' := [_, _, _, _, _, _, _, _, _, _, _, _, _, _, _, _, _, _, _, _, _, _, _, _, _, _, _, _, _, _, _, _, _, _]) Wn sizeOf3 rfl rfl (by first | rfl | assumption) rfl rfl) ?_))))))))))))
            rintro _ w63 Wp
            refine aA (aj (ay (ay (ah (aN rfl (bM rfl (bG 28 underlying37 rfl sizeOf3 rfl (dX underlying3 rfl (Wp).get.2 rfl (aU (bY rfl rfl) (aA (aj (aP rfl (fun h28 => ?_) (fun h28 => ?_)))))))))))))
            · (try simp only [aF] at h28)
              have pY := ig kK hon hrun h28
              refine ah (aN rfl (aN rfl (bM rfl (bG 0 underlying37 rfl sizeOf32 rfl (bG 7 underlying32 rfl sizeOf3 rfl (aJ (aT 7 (l' := [_, _, _, _, _, _, _, _, _, _, _, _, _, _, _, _, _, _, _, _, _, _, _, _, _, _, _, _, _, _, _, _, _, _]) Wp sizeOf3 rfl rfl (by first | rfl | assumption) rfl rfl) ?_))))))
              rintro _ w64 TU
              refine bM rfl (bG 0 underlying37 rfl sizeOf32 rfl (bG 8 underlying32 rfl sizeOf3 rfl (aJ (aT 8 (l' := [_, _, _, _, _, _, _, _, _, _, _, _, _, _, _, _, _, _, _, _, _, _, _, _, _, _, _, _, _, _, _, _, _, _]) TU sizeOf3 rfl rfl (by first | rfl | assumption) rfl rfl) ?_)))
              rintro _ w65 H65
              refine aA (aj (ay (ah (aV rfl (aA (aj (aI (aH (.inl rfl) results27 rfl ?_))))))))
              refine ⟨rfl, ?_⟩
              first
                | exact absurd (hw2.symm.trans hwh) (by decide)
                | exact absurd (hwh.symm.trans hw2) (by decide)
                | (rw [pY]; exact aB.dM dK bH H65.f11.f11.f11.f11.f11.f11.f11.f11.f11.f11.f11)
            · (try simp only [aF] at h28)
              have pY := fZ kK hon hrun h28
              refine aO (aj (ay (ah (aV rfl (aA (aj (aI (aH (.inl rfl) results27 rfl ?_))))))))
              refine ⟨rfl, ?_⟩
              first
                | exact absurd (hw2.symm.trans hwh) (by decide)
                | exact absurd (hwh.symm.trans hw2) (by decide)
                | (rw [pY]; exact aB.dM dK bH Wp.f11.f11.f11.f11.f11.f11.f11.f11.f11.f11.f11)
          · (try simp only [aF] at h27)
            have hrun : (s.typed && (!s.put.isEmpty || s.c.run)) = (s1.dQ on).c.run := by first | exact absurd (hw2.symm.trans hwh) (by decide) | (rw [nM, decide_eq_true (show s.put.length = 0 by omega), hty, vY, hr1]; rfl)
            refine aX (aN rfl (aX (bM rfl (aX (bG 0 underlying37 rfl sizeOf32 rfl (aX (bG 10 underlying32 rfl sizeOf4 rfl (aX (dX underlying4 rfl (dO).get.2 rfl (aX (dL rfl rfl (fP rfl rfl (bM rfl (bG 0 underlying37 rfl sizeOf32 rfl (bG 10 underlying32 rfl sizeOf4 rfl (aJ (aT 10 (l' := [_, _, _, _, _, _, _, _, _, _, _, _, _, _, _, _, _, _, _, _, _, _, _, _, _, _, _, _, _, _, _, _, _, _]) dO sizeOf4 rfl rfl (by first | rfl | assumption) rfl rfl) ?_))))))))))))))))
            rintro _ w66 Zh
            refine aA (aj (ay (ah (aN rfl (aN rfl (bM rfl (bG 28 underlying37 rfl sizeOf3 rfl (dX underlying3 rfl (Zh).get.2 rfl (bM rfl (bG 0 underlying37 rfl sizeOf32 rfl (bG 6 underlying32 rfl sizeOf3 rfl (aJ (aT 6 (l' := [_, _, _, _, _, _, _, _, _, _, _, _, _, _, _, _, _, _, _, _, _, _, _, _, _, _, _, _, _, _, _, _, _, _]) Zh sizeOf3 rfl rfl (by first | rfl | assumption) rfl rfl) ?_))))))))))))
            rintro _ w67 YT
            refine aA (aj (ay (ay (ah (aN rfl (bM rfl (bG 28 underlying37 rfl sizeOf3 rfl (dX underlying3 rfl (YT).get.2 rfl (aU (bY rfl rfl) (aA (aj (aP rfl (fun h29 => ?_) (fun h29 => ?_)))))))))))))
            · (try simp only [aF] at h29)
              have pY := ig kK hon hrun h29
              refine ah (aN rfl (aN rfl (bM rfl (bG 0 underlying37 rfl sizeOf32 rfl (bG 7 underlying32 rfl sizeOf3 rfl (aJ (aT 7 (l' := [_, _, _, _, _, _, _, _, _, _, _, _, _, _, _, _, _, _, _, _, _, _, _, _, _, _, _, _, _, _, _, _, _, _]) YT sizeOf3 rfl rfl (by first | rfl | assumption) rfl rfl) ?_))))))
              rintro _ w68 Xn
              refine bM rfl (bG 0 underlying37 rfl sizeOf32 rfl (bG 8 underlying32 rfl sizeOf3 rfl (aJ (aT 8 (l' := [_, _, _, _, _, _, _, _, _, _, _, _, _, _, _, _, _, _, _, _, _, _, _, _, _, _, _, _, _, _, _, _, _, _]) Xn sizeOf3 rfl rfl (by first | rfl | assumption) rfl rfl) ?_)))
              rintro _ w69 Xo
              refine aA (aj (ay (ah (aV rfl (aA (aj (aI (aH (.inl rfl) results27 rfl ?_))))))))
              refine ⟨rfl, ?_⟩
              first
                | exact absurd (hw2.symm.trans hwh) (by decide)
                | exact absurd (hwh.symm.trans hw2) (by decide)
                | (rw [pY]; exact aB.dM dK bH Xo.f11.f11.f11.f11.f11.f11.f11.f11.f11.f11.f11)
            · (try simp only [aF] at h29)
              have pY := fZ kK hon hrun h29
              refine aO (aj (ay (ah (aV rfl (aA (aj (aI (aH (.inl rfl) results27 rfl ?_))))))))
              refine ⟨rfl, ?_⟩
              first
                | exact absurd (hw2.symm.trans hwh) (by decide)
                | exact absurd (hwh.symm.trans hw2) (by decide)
                | (rw [pY]; exact aB.dM dK bH YT.f11.f11.f11.f11.f11.f11.f11.f11.f11.f11.f11)
        · (try simp only [aF] at h26)
          have hw2 : s.whole = false := by simpa using h26
          have hrun : (s.typed && (!s.put.isEmpty || s.c.run)) = false := by first | exact absurd (hwh.symm.trans hw2) (by decide) | (rw [hty]; rfl)
          refine bD (bD (iQ (iQ (iQ (iQ (iQ (bD (dL rfl rfl (bM rfl (bG 0 underlying37 rfl sizeOf32 rfl (bG 10 underlying32 rfl sizeOf4 rfl (aJ (aT 10 (l' := [_, _, _, _, _, _, _, _, _, _, _, _, _, _, _, _, _, _, _, _, _, _, _, _, _, _, _, _, _, _, _, _, _, _]) dO sizeOf4 rfl rfl (by first | rfl | assumption) rfl rfl) ?_))))))))))))
          rintro _ w70 Wq
          refine aA (aj (ay (ah (aN rfl (aN rfl (bM rfl (bG 28 underlying37 rfl sizeOf3 rfl (dX underlying3 rfl (Wq).get.2 rfl (bM rfl (bG 0 underlying37 rfl sizeOf32 rfl (bG 6 underlying32 rfl sizeOf3 rfl (aJ (aT 6 (l' := [_, _, _, _, _, _, _, _, _, _, _, _, _, _, _, _, _, _, _, _, _, _, _, _, _, _, _, _, _, _, _, _, _, _]) Wq sizeOf3 rfl rfl (by first | rfl | assumption) rfl rfl) ?_))))))))))))
          rintro _ w71 U7
          refine aA (aj (ay (ay (ah (aN rfl (bM rfl (bG 28 underlying37 rfl sizeOf3 rfl (dX underlying3 rfl (U7).get.2 rfl (aU (bY rfl rfl) (aA (aj (aP rfl (fun h30 => ?_) (fun h30 => ?_)))))))))))))
          · (try simp only [aF] at h30)
            have pY := ig kK hon hrun h30
            refine ah (aN rfl (aN rfl (bM rfl (bG 0 underlying37 rfl sizeOf32 rfl (bG 7 underlying32 rfl sizeOf3 rfl (aJ (aT 7 (l' := [_, _, _, _, _, _, _, _, _, _, _, _, _, _, _, _, _, _, _, _, _, _, _, _, _, _, _, _, _, _, _, _, _, _]) U7 sizeOf3 rfl rfl (by first | rfl | assumption) rfl rfl) ?_))))))
            rintro _ w72 Ws
            refine bM rfl (bG 0 underlying37 rfl sizeOf32 rfl (bG 8 underlying32 rfl sizeOf3 rfl (aJ (aT 8 (l' := [_, _, _, _, _, _, _, _, _, _, _, _, _, _, _, _, _, _, _, _, _, _, _, _, _, _, _, _, _, _, _, _, _, _]) Ws sizeOf3 rfl rfl (by first | rfl | assumption) rfl rfl) ?_)))
            rintro _ w73 H73
            refine aA (aj (ay (ah (aV rfl (aA (aj (aI (aH (.inl rfl) results27 rfl ?_))))))))
            refine ⟨rfl, ?_⟩
            first
              | exact absurd (hw2.symm.trans hwh) (by decide)
              | exact absurd (hwh.symm.trans hw2) (by decide)
              | (rw [pY]; exact aB.dM dK bH H73.f11.f11.f11.f11.f11.f11.f11.f11.f11.f11.f11)
          · (try simp only [aF] at h30)
            have pY := fZ kK hon hrun h30
            refine aO (aj (ay (ah (aV rfl (aA (aj (aI (aH (.inl rfl) results27 rfl ?_))))))))
            refine ⟨rfl, ?_⟩
            first
              | exact absurd (hw2.symm.trans hwh) (by decide)
              | exact absurd (hwh.symm.trans hw2) (by decide)
              | (rw [pY]; exact aB.dM dK bH U7.f11.f11.f11.f11.f11.f11.f11.f11.f11.f11.f11)
    · (try simp only [aF] at h19)
      have hty : s.typed = false := by unfold bC.typed; rw [beq_false_of_ne h19]; rfl
      have hrun : (s.typed && (!s.put.isEmpty || s.c.run)) = false := by rw [hty]; rfl
      refine AY 6 rfl rfl rfl rfl (by kernel_rfl) (by kernel_rfl) dY (qN rfl) ?_
      refine AY 7 rfl rfl rfl rfl (by kernel_rfl) (by kernel_rfl) dY (qN rfl) ?_
      refine AY 8 rfl rfl rfl rfl (by kernel_rfl) (by kernel_rfl) dY (qN rfl) ?_
      refine AY 9 rfl rfl rfl rfl (by kernel_rfl) (by kernel_rfl) dY (qN rfl) ?_
      refine jr 10 rfl dY (fun _ => CS rfl rfl) (iD 11 rfl dY rfl (jS 12 rfl dY rfl (gV 13 rfl dY 33 underlying37 rfl sizeOf35 rfl (jB 14 rfl dY (fun W hW => jR underlying35 rfl ((Kp.h hW)).get.2 rfl) (jr 15 rfl dY (fun _ => jg ((um.f9).aS) underlying35 rfl) (jr 16 rfl dY (fun _ => dF rfl rfl) (jr 17 rfl dY (fun _ => eH rfl) (jr 18 rfl dY (fun _ => eH rfl) (qQ (aj (ay (ah (aN rfl (aN rfl (aN rfl (bD (bD (bD (bD (bD (dL rfl rfl ?_)))))))))))))))))))))
      have hwo := rW (um.f11)
      have abg := um.f11.right
      have HW0 := aB.yS (c := s.was) (u := [oI, oJ, oK, oL, oM, oN, oO, oP, oQ, oU, oV]) abg hwo
      obtain ⟨s1, kK, Rh⟩ : ∃ s1, s1 = s.fK ∧ aB w0 (w3.drew) (dA e s1 • F) := ⟨_, hs1, aB.dM (hs1 ▸ rH dK) bH HW0.f11.f11.f11.f11.f11.f11.f11.f11.f11.f11⟩
      have hr1 : s1.c.run = s.c.run := by rw [kK]; unfold bC.fK; split <;> rfl
      refine bW rfl func96 (lT Rh) ?_
      rintro _ w75 H75
      obtain ⟨on, hon, HZ⟩ : ∃ on, (s.typed && s.c.run) = on ∧ aB w0 w75 (dA e (s1.dQ on) • F) := ⟨_, by rw [hty]; rfl, H75⟩
      refine aA (aj (ay ?_))
      obtain ⟨su, sD, sF, sG, sH, sJ, sK, sN, qI, oI, oJ, oK, oL, oM, oN, oO, oP, oQ, oU, oV, dK, bH, gZ, dO⟩ := (HZ).BQ
      refine ah (aN rfl (aN rfl (aN rfl (bD (bD (iQ (iQ (iQ (iQ (iQ (bD (dL rfl rfl (bM rfl (bG 0 underlying37 rfl sizeOf32 rfl (bG 10 underlying32 rfl sizeOf4 rfl (aJ (aT 10 (l' := [_, _, _, _, _, _, _, _, _, _, _, _, _, _, _, _, _, _, _, _, _, _, _, _, _, _, _, _, _, _, _, _, _, _]) dO sizeOf4 rfl rfl (by first | rfl | assumption) rfl rfl) ?_))))))))))))))))
      rintro _ w77 Xp
      refine aA (aj (ay (ah (aN rfl (aN rfl (bM rfl (bG 28 underlying37 rfl sizeOf3 rfl (dX underlying3 rfl (Xp).get.2 rfl (bM rfl (bG 0 underlying37 rfl sizeOf32 rfl (bG 6 underlying32 rfl sizeOf3 rfl (aJ (aT 6 (l' := [_, _, _, _, _, _, _, _, _, _, _, _, _, _, _, _, _, _, _, _, _, _, _, _, _, _, _, _, _, _, _, _, _, _]) Xp sizeOf3 rfl rfl (by first | rfl | assumption) rfl rfl) ?_))))))))))))
      rintro _ w78 YU
      refine aA (aj (ay (ay (ah (aN rfl (bM rfl (bG 28 underlying37 rfl sizeOf3 rfl (dX underlying3 rfl (YU).get.2 rfl (aU (bY rfl rfl) (aA (aj (aP rfl (fun h31 => ?_) (fun h31 => ?_)))))))))))))
      · (try simp only [aF] at h31)
        have pY := ig kK hon hrun h31
        refine ah (aN rfl (aN rfl (bM rfl (bG 0 underlying37 rfl sizeOf32 rfl (bG 7 underlying32 rfl sizeOf3 rfl (aJ (aT 7 (l' := [_, _, _, _, _, _, _, _, _, _, _, _, _, _, _, _, _, _, _, _, _, _, _, _, _, _, _, _, _, _, _, _, _, _]) YU sizeOf3 rfl rfl (by first | rfl | assumption) rfl rfl) ?_))))))
        rintro _ w79 H79
        refine bM rfl (bG 0 underlying37 rfl sizeOf32 rfl (bG 8 underlying32 rfl sizeOf3 rfl (aJ (aT 8 (l' := [_, _, _, _, _, _, _, _, _, _, _, _, _, _, _, _, _, _, _, _, _, _, _, _, _, _, _, _, _, _, _, _, _, _]) H79 sizeOf3 rfl rfl (by first | rfl | assumption) rfl rfl) ?_)))
        rintro _ w80 H80
        refine aA (aj (ay (ah (aV rfl (aA (aj (aI (aH (.inl rfl) results27 rfl ?_))))))))
        refine ⟨rfl, ?_⟩
        first
          | exact absurd (hw2.symm.trans hwh) (by decide)
          | exact absurd (hwh.symm.trans hw2) (by decide)
          | (rw [pY]; exact aB.dM dK bH H80.f11.f11.f11.f11.f11.f11.f11.f11.f11.f11.f11)
      · (try simp only [aF] at h31)
        have pY := fZ kK hon hrun h31
        refine aO (aj (ay (ah (aV rfl (aA (aj (aI (aH (.inl rfl) results27 rfl ?_))))))))
        refine ⟨rfl, ?_⟩
        first
          | exact absurd (hw2.symm.trans hwh) (by decide)
          | exact absurd (hwh.symm.trans hw2) (by decide)
          | (rw [pY]; exact aB.dM dK bH YU.f11.f11.f11.f11.f11.f11.f11.f11.f11.f11.f11)
theorem Gq {s : bC} {x : Int} (hin : s.dU = true) (hx : x ≠ 0) : s.iE x = s.uh ∧ s.mG x = x := by
  unfold bC.iE bC.mG
  rw [if_pos hin, if_neg hx, if_pos hin]; exact ⟨rfl, rfl⟩
theorem Ri {s : bC} (h : kP s) (hin : s.dU = true) : kP s.uh := by
  obtain ⟨h1, h2, h3⟩ := h.2.1 hin
  exact ⟨h1, fun h => Bool.noConfusion h, ⟨by show (-1 : Int) ≤ -1; decide, by show (-1 : Int) ≤ 1000000; decide⟩, by simp [bC.uh], h2, h3⟩
theorem MB (hin : s.dU = true) (hx : x ≠ 0) (H : aB w0 w (dA e s • F)) : fG prog 27 #[.pointer (some ⟨e, 0, none⟩), .int .i64 x] w fun v w' => v = .int .i64 x ∧ aB w0 w' (dA e s.uh • F) := by
 have hpe : s.uS = 0 := by unfold bC.uS; rw [if_pos hin]
 refine gG func27 ntmps27 ?_
 dsimp only [bf, Nat.reduceAdd]
 refine ay (ah (aV rfl (aA (aj (ay (ay (ah (aN rfl (bW rfl func94 (kD H) ?_)))))))))
 rintro _ _ ⟨rfl, rfl⟩
 refine aV rfl (aA (aj (ay (ah (aN rfl (aU (bY rfl rfl) (aA (aj (aP rfl (fun h => by exfalso; (try simp only [aF] at h); exact h hpe) (fun h1 => ?_))))))))))
 (try simp only [aF] at h1)
 refine aO (aj (ay ?_))
 obtain ⟨su, sD, sF, sG, sH, sJ, sK, sN, qI, oI, oJ, oK, oL, oM, oN, oO, oP, oQ, oU, oV, dK, bH, gZ, dO⟩ := (H).BQ
 have HI := dO
 rw [hin] at HI
 obtain ⟨qb, qr, qw, qt, qm, hu, HW⟩ := (HI.f11).was
 simp only [Nz, List.cons.injEq, and_true] at hu
 obtain ⟨rfl, rfl, rfl, rfl, rfl, rfl, rfl, rfl, rfl, rfl, rfl⟩ := hu
 refine ah (aN rfl (bM rfl (bG 16 underlying37 rfl sizeOf4 rfl (aJ (aT 16 (l' := [_, _, _, _, _, _, _, _, _, _, _, _, _, _, _, _, _, _, _, _, _, _, _, _, _, _, _, _, _, _, _, _, _, _]) HW.f6 sizeOf4 rfl rfl (by first | rfl | assumption) rfl rfl) ?_))))
 rintro _ w3 H3
 refine aA (aj (ay (ay (ah (aN rfl (bM rfl (bG 31 underlying37 rfl sizeOf4 rfl (dX underlying4 rfl (H3).get.2 rfl (aU (jY rfl) (eP rfl (fun h2 => ?_) (fun h2 => ?_)))))))))))
 ·(try simp only [aF] at h2)
  refine bD (bD (fP rfl rfl (aA (aj (wK (ah (aN rfl (aN rfl (aN rfl (bM rfl (bG 13 underlying37 rfl sizeOf4 rfl (aJ (aT 13 (l' := [_, _, _, _, _, _, _, _, _, _, _, _, _, _, _, _, _, _, _, _, _, _, _, _, _, _, _, _, _, _, _, _, _, _]) H3 sizeOf4 rfl rfl (by first | rfl | assumption) rfl rfl) ?_))))))))))))
  rintro _ w4 H4
  refine bM rfl (bG 14 underlying37 rfl sizeOf4 rfl (aJ (aT 14 (l' := [_, _, _, _, _, _, _, _, _, _, _, _, _, _, _, _, _, _, _, _, _, _, _, _, _, _, _, _, _, _, _, _, _, _]) H4 sizeOf4 rfl rfl (by first | rfl | assumption) rfl rfl) ?_))
  rintro _ w5 H5
  refine bM rfl (bG 15 underlying37 rfl sizeOf3 rfl (aJ (aT 15 (l' := [_, _, _, _, _, _, _, _, _, _, _, _, _, _, _, _, _, _, _, _, _, _, _, _, _, _, _, _, _, _, _, _, _, _]) H5 sizeOf3 rfl rfl (by first | rfl | assumption) rfl rfl) ?_))
  rintro _ w6 H6
  refine aA (aj (ay (ay (ah (aN rfl (aU (bY rfl rfl) (aA (aj (aP rfl (fun h3 => ?_) (fun h => by exfalso; (try simp only [aF] at h); exact hx h))))))))))
  (try simp only [aF] at h3)
  refine ay (ah (aN rfl (aN rfl (bM rfl (bG 17 underlying37 rfl sizeOf32 rfl (aU (sS 17 (xs := [_, _, _, _, _, _, _, _, _, _, _]) underlying32 rfl sizeOf32 rfl rfl (H6).get.2 rfl) (bM rfl (bG 0 underlying37 rfl sizeOf32 rfl (aJ (dG 0 (l' := [_, _, _, _, _, _, _, _, _, _, _, _, _, _, _, _, _, _, _, _, _, _, _, _, _, _, _, _, _, _, _, _, _, _]) (us := [_, _, _, _, _, _, _, _, _, _, _]) H6 sizeOf32 rfl rfl rfl (aC (by first | rfl | assumption) (aC (by first | rfl | assumption) (aC (by first | rfl | assumption) (aC (by first | rfl | assumption) (aC (by first | rfl | assumption) (aC (by first | rfl | assumption) (aC (by first | rfl | assumption) (aC (by first | rfl | assumption) (aC (by first | rfl | assumption) (aC (by first | rfl | assumption) (aC (by first | rfl | assumption) cZ))))))))))) rfl rfl) ?_)))))))))
  rintro _ w7 H7
  refine aA (aj (ay (ah (aN rfl (bM rfl (bG 12 underlying37 rfl sizeOf34 rfl (dX underlying34 rfl (H7).get.2 rfl (bW rfl func95 (zL H7.f13) ?_))))))))
  rintro _ w8 ⟨rfl, H8⟩
  refine aA (aj (ay (ah (aN rfl (aN rfl (aN rfl (aN rfl (bM rfl (bG 0 underlying37 rfl sizeOf32 rfl (bG 6 underlying32 rfl sizeOf3 rfl (aJ (aT 6 (l' := [_, _, _, _, _, _, _, _, _, _, _, _, _, _, _, _, _, _, _, _, _, _, _, _, _, _, _, _, _, _, _, _, _, _]) H8.f2 sizeOf3 rfl rfl (by first | rfl | assumption) rfl rfl) ?_)))))))))))
  rintro _ w9 H9
  refine bM rfl (bG 0 underlying37 rfl sizeOf32 rfl (bG 7 underlying32 rfl sizeOf3 rfl (aJ (aT 7 (l' := [_, _, _, _, _, _, _, _, _, _, _, _, _, _, _, _, _, _, _, _, _, _, _, _, _, _, _, _, _, _, _, _, _, _]) H9 sizeOf3 rfl rfl (by first | rfl | assumption) rfl rfl) ?_)))
  rintro _ w10 oZ
  refine bM rfl (bG 0 underlying37 rfl sizeOf32 rfl (bG 8 underlying32 rfl sizeOf3 rfl (aJ (aT 8 (l' := [_, _, _, _, _, _, _, _, _, _, _, _, _, _, _, _, _, _, _, _, _, _, _, _, _, _, _, _, _, _, _, _, _, _]) oZ sizeOf3 rfl rfl (by first | rfl | assumption) rfl rfl) ?_)))
  rintro _ KG yt
  refine bM rfl (bG 33 underlying37 rfl sizeOf35 rfl (aJ (aT 33 (l' := [_, _, _, _, _, _, _, _, _, _, _, _, _, _, _, _, _, _, _, _, _, _, _, _, _, _, _, _, _, _, _, _, _, _]) yt sizeOf35 rfl rfl (by first | rfl | assumption) rfl rfl) ?_))
  rintro _ w12 xR
  refine aA (aj (ay (ah (aN rfl (aV rfl (aA (aj (aI (aK (aH (.inl rfl) results27 rfl ?_))))))))))
  exact ⟨rfl, aB.L6 (s := s.uh) (Ri dK hin) rfl rfl xR.f8.right.f8.right.f8.right.f8.right.f8.right.f9.right.f9.right.f2.f8.f8.f8.f8.f8.f8.f8⟩
 ·(try simp only [aF] at h2)
  refine aX (aN rfl (aX (aU (bY rfl rfl) (dL rfl rfl (aA (aj (aP rfl (fun h4 => ?_) (fun h => by exfalso; (try simp only [aF] at h); exact hx h))))))))
  (try simp only [aF] at h4)
  refine ah (aN rfl (aN rfl (aN rfl (bM rfl (bG 13 underlying37 rfl sizeOf4 rfl (aJ (aT 13 (l' := [_, _, _, _, _, _, _, _, _, _, _, _, _, _, _, _, _, _, _, _, _, _, _, _, _, _, _, _, _, _, _, _, _, _]) H3 sizeOf4 rfl rfl (by first | rfl | assumption) rfl rfl) ?_))))))
  rintro _ Po xE
  refine bM rfl (bG 14 underlying37 rfl sizeOf4 rfl (aJ (aT 14 (l' := [_, _, _, _, _, _, _, _, _, _, _, _, _, _, _, _, _, _, _, _, _, _, _, _, _, _, _, _, _, _, _, _, _, _]) xE sizeOf4 rfl rfl (by first | rfl | assumption) rfl rfl) ?_))
  rintro _ MX yK
  refine bM rfl (bG 15 underlying37 rfl sizeOf3 rfl (aJ (aT 15 (l' := [_, _, _, _, _, _, _, _, _, _, _, _, _, _, _, _, _, _, _, _, _, _, _, _, _, _, _, _, _, _, _, _, _, _]) yK sizeOf3 rfl rfl (by first | rfl | assumption) rfl rfl) ?_))
  rintro _ Pq yu
  refine aA (aj (ay (ay (ah (aN rfl (aU (bY rfl rfl) (aA (aj (aP rfl (fun h5 => ?_) (fun h => by exfalso; (try simp only [aF] at h); exact hx h))))))))))
  (try simp only [aF] at h5)
  refine ay (ah (aN rfl (aN rfl (bM rfl (bG 17 underlying37 rfl sizeOf32 rfl (aU (sS 17 (xs := [_, _, _, _, _, _, _, _, _, _, _]) underlying32 rfl sizeOf32 rfl rfl (yu).get.2 rfl) (bM rfl (bG 0 underlying37 rfl sizeOf32 rfl (aJ (dG 0 (l' := [_, _, _, _, _, _, _, _, _, _, _, _, _, _, _, _, _, _, _, _, _, _, _, _, _, _, _, _, _, _, _, _, _, _]) (us := [_, _, _, _, _, _, _, _, _, _, _]) yu sizeOf32 rfl rfl rfl (aC (by first | rfl | assumption) (aC (by first | rfl | assumption) (aC (by first | rfl | assumption) (aC (by first | rfl | assumption) (aC (by first | rfl | assumption) (aC (by first | rfl | assumption) (aC (by first | rfl | assumption) (aC (by first | rfl | assumption) (aC (by first | rfl | assumption) (aC (by first | rfl | assumption) (aC (by first | rfl | assumption) cZ))))))))))) rfl rfl) ?_)))))))))
  rintro _ w16 tX
  refine aA (aj (ay (ah (aN rfl (bM rfl (bG 12 underlying37 rfl sizeOf34 rfl (dX underlying34 rfl (tX).get.2 rfl (bW rfl func95 (zL tX.f13) ?_))))))))
  rintro _ VF ⟨rfl, Hg⟩
  refine aA (aj (ay (ah (aN rfl (aN rfl (aN rfl (aN rfl (bM rfl (bG 0 underlying37 rfl sizeOf32 rfl (bG 6 underlying32 rfl sizeOf3 rfl (aJ (aT 6 (l' := [_, _, _, _, _, _, _, _, _, _, _, _, _, _, _, _, _, _, _, _, _, _, _, _, _, _, _, _, _, _, _, _, _, _]) Hg.f2 sizeOf3 rfl rfl (by first | rfl | assumption) rfl rfl) ?_)))))))))))
  rintro _ SL ER
  refine bM rfl (bG 0 underlying37 rfl sizeOf32 rfl (bG 7 underlying32 rfl sizeOf3 rfl (aJ (aT 7 (l' := [_, _, _, _, _, _, _, _, _, _, _, _, _, _, _, _, _, _, _, _, _, _, _, _, _, _, _, _, _, _, _, _, _, _]) ER sizeOf3 rfl rfl (by first | rfl | assumption) rfl rfl) ?_)))
  rintro _ Tc BJ
  refine bM rfl (bG 0 underlying37 rfl sizeOf32 rfl (bG 8 underlying32 rfl sizeOf3 rfl (aJ (aT 8 (l' := [_, _, _, _, _, _, _, _, _, _, _, _, _, _, _, _, _, _, _, _, _, _, _, _, _, _, _, _, _, _, _, _, _, _]) BJ sizeOf3 rfl rfl (by first | rfl | assumption) rfl rfl) ?_)))
  rintro _ SN yh
  refine bM rfl (bG 33 underlying37 rfl sizeOf35 rfl (aJ (aT 33 (l' := [_, _, _, _, _, _, _, _, _, _, _, _, _, _, _, _, _, _, _, _, _, _, _, _, _, _, _, _, _, _, _, _, _, _]) yh sizeOf35 rfl rfl (by first | rfl | assumption) rfl rfl) ?_))
  rintro _ UG qF
  refine aA (aj (ay (ah (aN rfl (aV rfl (aA (aj (aI (aK (aH (.inl rfl) results27 rfl ?_))))))))))
  exact ⟨rfl, aB.L6 (s := s.uh) (Ri dK hin) rfl rfl qF.f8.right.f8.right.f8.right.f8.right.f8.right.f9.right.f9.right.f2.f8.f8.f8.f8.f8.f8.f8⟩
theorem Ep (H : aB w0 w (dA e s • F)) : fG prog 27 #[.pointer (some ⟨e, 0, none⟩), .int .i64 x] w fun v w' => v = .int .i64 (s.mG x) ∧ aB w0 w' (dA e (s.iE x) • F) := by
 by_cases hin : s.dU = true
 ·by_cases hx : x = 0
  ·subst hx
   rw [show s.iE 0 = s.jJ from by unfold bC.iE; rw [if_pos hin, if_pos rfl], show s.mG 0 = 0 from by unfold bC.mG; rw [if_pos hin]]
   exact J8 hin H
  ·rw [(Gq hin hx).1, (Gq hin hx).2]
   exact MB hin hx H
 ·have hin' : s.dU = false := by simpa using hin
  have hpe : s.uS = 1 := by unfold bC.uS; rw [if_neg hin]
  rw [show s.iE x = s from by unfold bC.iE; rw [if_neg hin], show s.mG x = 1 from by unfold bC.mG; rw [if_neg hin]]
  refine gG func27 ntmps27 ?_
  dsimp only [bf, Nat.reduceAdd]
  refine ay (ah (aV rfl (aA (aj (ay (ay (ah (aN rfl (bW rfl func94 (kD H) ?_)))))))))
  rintro _ _ ⟨rfl, rfl⟩
  refine aV rfl (aA (aj (ay (ah (aN rfl (aU (bY rfl rfl) (aA (aj (aP rfl (fun h1 => ?_) (fun h => by exfalso; (try simp only [aF] at h); rw [hpe] at h; exact absurd h (by decide)))))))))))
  (try simp only [aF] at h1)
  refine ay (ah (aN rfl (aV rfl (aA (aj (aI (aK (aH (.inl rfl) results27 rfl ?_))))))))
  rw [hpe]
  exact ⟨rfl, H⟩
end
end Go.Proofs.YtgndbccogcofjaaGreatDoor
end
