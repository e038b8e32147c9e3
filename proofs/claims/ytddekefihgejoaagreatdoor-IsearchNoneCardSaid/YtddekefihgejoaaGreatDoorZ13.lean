import Derived.Test.YtddekefihgejoaaGreatDoorZ2
import Derived.Test.YtddekefihgejoaaGreatDoorZ12
set_option linter.unusedSimpArgs false
set_option linter.unusedVariables false
/- Texts of mine, joined, their names in short: EdE. -/
section
namespace Go.Proofs.YtddekefihgejoaaGreatDoor
open Go.RowKit
open _root_.Go.Proofs.Tryz
theorem vI (s : bG) (on : Bool) : (s.dB on).c.run = s.c.run := by unfold bG.dB; split <;> rfl
theorem D8 (s : bG) (on : Bool) : (s.dB on).cls = s.cls := by unfold bG.dB; split <;> rfl
theorem gW {s s1 : bG} {on run : Bool} (h1 : s1 = s.gI) (hon : (s.typed && s.c.run) = on) (hrun : (s.typed && (!s.put.isEmpty || s.c.run)) = run) (h2 : (s1.dB on).cls ≠ 2) :
    s.kV = { s1.dB on with c := { (s1.dB on).c with run := run, last := (s1.dB on).cls, fr := 0, to := 0 } } := by
  subst h1 hon hrun
  have hc : (s.gI.dB (s.typed && s.c.run)).cls = s.cls := by rw [D8]; unfold bG.gI; split <;> rfl
  unfold bG.kV
  rw [hc] at h2 ⊢
  dsimp only
  rw [if_pos h2]
theorem fP {s s1 : bG} {on run : Bool} (h1 : s1 = s.gI) (hon : (s.typed && s.c.run) = on) (hrun : (s.typed && (!s.put.isEmpty || s.c.run)) = run) (h2 : (s1.dB on).cls = 2) :
    s.kV = { s1.dB on with c := { (s1.dB on).c with run := run, last := (s1.dB on).cls } } := by
  subst h1 hon hrun
  have hc : (s.gI.dB (s.typed && s.c.run)).cls = s.cls := by rw [D8]; unfold bG.gI; split <;> rfl
  unfold bG.kV
  rw [hc] at h2 ⊢
  dsimp only
  rw [if_neg (by omega)]
theorem qI {s : bG} (h : jV s) : jV s.gI := by
  obtain ⟨h1, h2, h3, h4, h5, h6⟩ := h
  unfold bG.gI
  split
  · exact ⟨h1, fun h => Bool.noConfusion h, h3, h4, h5, h6⟩
  · exact ⟨h1, fun h => Bool.noConfusion h, ⟨by show (-1 : Int) ≤ -1; decide, by show (-1 : Int) ≤ 1000000; decide⟩, h4, h5, h6⟩
theorem ku {l : List fB} : l.isEmpty = decide (l.length = 0) := by cases l <;> rfl
section
variable {w0 w : World} {F : HP} {e p : Nat} {s : bG} {x : Int}
theorem Jr (hin : s.inn = true) (H : aB w0 w (dK e s • F)) : fE prog 37 #[.pointer (some ⟨e, 0, none⟩), .int .i64 0] w fun v w' => v = .int .i64 0 ∧ aB w0 w' (dK e s.kV • F) := by
  have hpe : s.uz = 0 := by unfold bG.uz; rw [if_pos hin]
  refine gy func37 ntmps37 ?_
  dsimp only [aY, Nat.reduceAdd]
  refine ay (ah (aV rfl (aA (aj (ay (ay (ah (aN rfl (dw rfl func81 (kM H) ?_)))))))))
  rintro _ _ ⟨rfl, rfl⟩
  refine aV rfl (aA (aj (ay (ah (aN rfl (aU (dZ rfl rfl) (aA (aj (aP rfl (fun h => by exfalso; (try simp only [aI] at h); exact h hpe) (fun h1 => ?_))))))))))
  (try simp only [aI] at h1)
  refine aT (aj (ay ?_))
  obtain ⟨qj, ql, qo, qp, qx, qy, qA, qB, nY, mD, mF, mG, mJ, mM, mO, mP, mQ, mV, mW, mX, dF, bK, gV, dY⟩ := (H).DR
  refine ah (aN rfl (bP rfl (bg 16 underlying69 rfl sizeOf4 rfl (aG (aS 16 (l' := [_, _, _, _, _, _, _, _, _, _, _, _, _, _, _, _, _, _, _, _, _, _, _, _, _, _, _, _, _, _, _, _, _, _]) dY sizeOf4 rfl rfl (by first | rfl | assumption) rfl rfl) ?_))))
  rintro _ w3 H3
  refine aA (aj (ay (ay (ah (aN rfl (bP rfl (bg 31 underlying69 rfl sizeOf4 rfl (dO underlying4 rfl (H3).get.2 rfl (aU (kJ rfl) (jy rfl (fun h2 => ?_) (fun h2 => ?_)))))))))))
  · (try simp only [aI] at h2)
    have har : s.argues = false := by simpa using h2
    have hs1 : ({ s.y9 with inn := false } : bG) = s.gI := by unfold bG.gI; rw [if_neg (by simp [har])]
    refine bF (bF (jw rfl rfl (aA (aj (xg (ah (aN rfl (aN rfl (aN rfl (bP rfl (bg 13 underlying69 rfl sizeOf4 rfl (aG (aS 13 (l' := [_, _, _, _, _, _, _, _, _, _, _, _, _, _, _, _, _, _, _, _, _, _, _, _, _, _, _, _, _, _, _, _, _, _]) H3 sizeOf4 rfl rfl (by first | rfl | assumption) rfl rfl) ?_))))))))))))
    rintro _ w4 H4
    refine bP rfl (bg 14 underlying69 rfl sizeOf4 rfl (aG (aS 14 (l' := [_, _, _, _, _, _, _, _, _, _, _, _, _, _, _, _, _, _, _, _, _, _, _, _, _, _, _, _, _, _, _, _, _, _]) H4 sizeOf4 rfl rfl (by first | rfl | assumption) rfl rfl) ?_))
    rintro _ w5 H5
    refine bP rfl (bg 15 underlying69 rfl sizeOf3 rfl (aG (aS 15 (l' := [_, _, _, _, _, _, _, _, _, _, _, _, _, _, _, _, _, _, _, _, _, _, _, _, _, _, _, _, _, _, _, _, _, _]) H5 sizeOf3 rfl rfl (by first | rfl | assumption) rfl rfl) ?_))
    rintro _ w6 H6
    refine aA (aj (ay (ay (ah (aN rfl (aU (dZ rfl rfl) (aA (aj (aP rfl (fun h => by exfalso; (try simp only [aI] at h); simp at h) (fun h3 => ?_))))))))))
    (try simp only [aI] at h3)
    refine aT (aj (ay ?_))
    have D9 := H6.drew
    have fO := aB.kp (D9.f11.f11.f11.f11.f11.f11.f11.f11.f11.f11.f11)
    refine vV [3, 9, 14] fO rfl (gQ 0 rfl fO rfl (iQ 1 rfl fO rfl (dR 2 rfl fO 28 underlying69 rfl sizeOf3 rfl (gY 3 rfl fO (fun W hW => iH underlying3 rfl ((Kp.h hW)).get.2 rfl) (iJ 4 rfl fO (fun _ => iY rfl rfl) ?_)))))
    refine Ic 5 rfl rfl (by kernel_rfl) (by kernel_rfl) fO (lT rfl) (fun h4 => ?_) (fun h4 => ?_)
    · (try simp only [aI] at h4)
      have hc3 : s.cls = 3 := h4
      refine kR 6 rfl rfl rfl (by kernel_rfl) (by kernel_rfl) fO (fun _ => CG rfl) (lT rfl) ?_
      refine kR 7 rfl rfl rfl (by kernel_rfl) (by kernel_rfl) fO (fun _ => LZ rfl) (lT rfl) ?_
      refine kR 8 rfl rfl rfl (by kernel_rfl) (by kernel_rfl) fO (fun _ => CP 32 underlying69 rfl rfl sizeOf4 (by decide) rfl rfl) (lT rfl) ?_
      refine Am 9 rfl rfl rfl (by kernel_rfl) (by kernel_rfl) fO (by decide) (fun W hW => fJ (bW underlying4 rfl) rfl (gX ((Kp.h hW)).get.2 rfl)) (lT rfl) ?_
      refine iJ 10 rfl fO (fun _ => CJ rfl rfl) (gQ 11 rfl fO rfl (iQ 12 rfl fO rfl (dR 13 rfl fO 33 underlying69 rfl sizeOf67 rfl (gY 14 rfl fO (fun W hW => iH underlying67 rfl ((Kp.h hW)).get.2 rfl) (iJ 15 rfl fO (fun _ => fM ((D9.f9).aO) underlying67 rfl) (iJ 16 rfl fO (fun _ => fZ rfl rfl) (iJ 17 rfl fO (fun _ => eP rfl) (iJ 18 rfl fO (fun _ => eP rfl) (nT (aj (ay (ah (aN rfl (aN rfl (jy rfl (fun h5 => ?_) (fun h5 => ?_))))))))))))))))
      · (try simp only [aI] at h5)
        have hwh : s.whole = true := h5
        have hty : s.typed = true := by unfold bG.typed; rw [hc3, hwh]; rfl
        refine bC (aN rfl (bC (bP rfl (bC (bg 0 underlying69 rfl sizeOf64 rfl (bC (bg 10 underlying64 rfl sizeOf4 rfl (bC (dO underlying4 rfl (D9).get.2 rfl (jw rfl rfl ?_))))))))))
        have TK := D9.f11.right
        have HW0 := aB.yc (c := s.was) (u := [mD, mF, mG, mJ, mM, mO, mP, mQ, mV, mW, mX]) TK
        obtain ⟨s1, jR, Rn⟩ : ∃ s1, s1 = s.gI ∧ aB w0 (w6.drew) (dK e s1 • F) := ⟨_, hs1, aB.dW (hs1 ▸ qI dF) bK HW0.f11.f11.f11.f11.f11.f11.f11.f11.f11.f11⟩
        have hr1 : s1.c.run = s.c.run := by rw [jR]; unfold bG.gI; split <;> rfl
        refine dw rfl func83 (jQ Rn) ?_
        rintro _ w8 H8
        obtain ⟨on, hon, HZ⟩ : ∃ on, (s.typed && s.c.run) = on ∧ aB w0 w8 (dK e (s1.dB on) • F) := ⟨_, by rw [hty]; rfl, H8⟩
        refine aA (aj (ay ?_))
        obtain ⟨qj, ql, qo, qp, qx, qy, qA, qB, nY, mD, mF, mG, mJ, mM, mO, mP, mQ, mV, mW, mX, dF, bK, gV, dY⟩ := (HZ).DR
        refine ah (aN rfl (aN rfl (jy rfl (fun h6 => ?_) (fun h6 => ?_))))
        · (try simp only [aI] at h6)
          have hw2 : s.whole = true := h6
          refine bC (aN rfl (bC (jy rfl (fun h7 => ?_) (fun h7 => ?_))))
          · (try simp only [aI] at h7)
            have hrun : (s.typed && (!s.put.isEmpty || s.c.run)) = true := by first | exact absurd (hw2.symm.trans hwh) (by decide) | (rw [ku, decide_eq_false (show ¬ s.put.length = 0 by omega), hty]; rfl)
            refine bF (bF (bF (bF (bF (bC (jw rfl rfl (jw rfl rfl (bP rfl (bg 0 underlying69 rfl sizeOf64 rfl (bg 10 underlying64 rfl sizeOf4 rfl (aG (aS 10 (l' := [_, _, _, _, _, _, _, _, _, _, _, _, _, _, _, _, _, _, _, _, _, _, _, _, _, _, _, _, _, _, _, _, _, _]) dY sizeOf4 rfl rfl (by first | rfl | assumption) rfl rfl) ?_)))))))))))
            rintro _ w10 qH
            refine aA (aj (ay (ah (aN rfl (aN rfl (bP rfl (bg 28 underlying69 rfl sizeOf3 rfl (dO underlying3 rfl (qH).get.2 rfl (bP rfl (bg 0 underlying69 rfl sizeOf64 rfl (bg 6 underlying64 rfl sizeOf3 rfl (aG (aS 6 (l' := [_, _, _, _, _, _, _, _, _, _, _, _, _, _, _, _, _, _, _, _, _, _, _, _, _, _, _, _, _, _, _, _, _, _]) qH sizeOf3 rfl rfl (by first | rfl | assumption) rfl rfl) ?_))))))))))))
            rintro _ Hr uQ
            refine aA (aj (ay (ay (ah (aN rfl (bP rfl (bg 28 underlying69 rfl sizeOf3 rfl (dO underlying3 rfl (uQ).get.2 rfl (aU (dZ rfl rfl) (aA (aj (aP rfl (fun h8 => ?_) (fun h8 => ?_)))))))))))))
            · (try simp only [aI] at h8)
              have oG := gW jR hon hrun h8
              refine ah (aN rfl (aN rfl (bP rfl (bg 0 underlying69 rfl sizeOf64 rfl (bg 7 underlying64 rfl sizeOf3 rfl (aG (aS 7 (l' := [_, _, _, _, _, _, _, _, _, _, _, _, _, _, _, _, _, _, _, _, _, _, _, _, _, _, _, _, _, _, _, _, _, _]) uQ sizeOf3 rfl rfl (by first | rfl | assumption) rfl rfl) ?_))))))
              rintro _ w12 uf
              refine bP rfl (bg 0 underlying69 rfl sizeOf64 rfl (bg 8 underlying64 rfl sizeOf3 rfl (aG (aS 8 (l' := [_, _, _, _, _, _, _, _, _, _, _, _, _, _, _, _, _, _, _, _, _, _, _, _, _, _, _, _, _, _, _, _, _, _]) uf sizeOf3 rfl rfl (by first | rfl | assumption) rfl rfl) ?_)))
              rintro _ NY xC
              refine aA (aj (ay (ah (aV rfl (aA (aj (aJ (aQ (.inl rfl) results37 rfl ?_))))))))
              refine ⟨rfl, ?_⟩
              first
                | exact absurd (hw2.symm.trans hwh) (by decide)
                | exact absurd (hwh.symm.trans hw2) (by decide)
                | (rw [oG]; exact aB.dW dF bK xC.f11.f11.f11.f11.f11.f11.f11.f11.f11.f11.f11)
            · (try simp only [aI] at h8)
              have oG := fP jR hon hrun h8
              refine aT (aj (ay (ah (aV rfl (aA (aj (aJ (aQ (.inl rfl) results37 rfl ?_))))))))
              refine ⟨rfl, ?_⟩
              first
                | exact absurd (hw2.symm.trans hwh) (by decide)
                | exact absurd (hwh.symm.trans hw2) (by decide)
                | (rw [oG]; exact aB.dW dF bK uQ.f11.f11.f11.f11.f11.f11.f11.f11.f11.f11.f11)
          · (try simp only [aI] at h7)
            have hrun : (s.typed && (!s.put.isEmpty || s.c.run)) = (s1.dB on).c.run := by first | exact absurd (hw2.symm.trans hwh) (by decide) | (rw [ku, decide_eq_true (show s.put.length = 0 by omega), hty, vI, hr1]; rfl)
            refine bC (aN rfl (bC (bP rfl (bC (bg 0 underlying69 rfl sizeOf64 rfl (bC (bg 10 underlying64 rfl sizeOf4 rfl (bC (dO underlying4 rfl (dY).get.2 rfl (bC (iU rfl rfl (jw rfl rfl (bP rfl (bg 0 underlying69 rfl sizeOf64 rfl (bg 10 underlying64 rfl sizeOf4 rfl (aG (aS 10 (l' := [_, _, _, _, _, _, _, _, _, _, _, _, _, _, _, _, _, _, _, _, _, _, _, _, _, _, _, _, _, _, _, _, _, _]) dY sizeOf4 rfl rfl (by first | rfl | assumption) rfl rfl) ?_))))))))))))))))
            rintro _ NZ yB
            refine aA (aj (ay (ah (aN rfl (aN rfl (bP rfl (bg 28 underlying69 rfl sizeOf3 rfl (dO underlying3 rfl (yB).get.2 rfl (bP rfl (bg 0 underlying69 rfl sizeOf64 rfl (bg 6 underlying64 rfl sizeOf3 rfl (aG (aS 6 (l' := [_, _, _, _, _, _, _, _, _, _, _, _, _, _, _, _, _, _, _, _, _, _, _, _, _, _, _, _, _, _, _, _, _, _]) yB sizeOf3 rfl rfl (by first | rfl | assumption) rfl rfl) ?_))))))))))))
            rintro _ PY wC
            refine aA (aj (ay (ay (ah (aN rfl (bP rfl (bg 28 underlying69 rfl sizeOf3 rfl (dO underlying3 rfl (wC).get.2 rfl (aU (dZ rfl rfl) (aA (aj (aP rfl (fun h9 => ?_) (fun h9 => ?_)))))))))))))
            · (try simp only [aI] at h9)
              have oG := gW jR hon hrun h9
              refine ah (aN rfl (aN rfl (bP rfl (bg 0 underlying69 rfl sizeOf64 rfl (bg 7 underlying64 rfl sizeOf3 rfl (aG (aS 7 (l' := [_, _, _, _, _, _, _, _, _, _, _, _, _, _, _, _, _, _, _, _, _, _, _, _, _, _, _, _, _, _, _, _, _, _]) wC sizeOf3 rfl rfl (by first | rfl | assumption) rfl rfl) ?_))))))
              rintro _ w16 qY
              refine bP rfl (bg 0 underlying69 rfl sizeOf64 rfl (bg 8 underlying64 rfl sizeOf3 rfl (aG (aS 8 (l' := [_, _, _, _, _, _, _, _, _, _, _, _, _, _, _, _, _, _, _, _, _, _, _, _, _, _, _, _, _, _, _, _, _, _]) qY sizeOf3 rfl rfl (by first | rfl | assumption) rfl rfl) ?_)))
              rintro _ Tz yC
              refine aA (aj (ay (ah (aV rfl (aA (aj (aJ (aQ (.inl rfl) results37 rfl ?_))))))))
              refine ⟨rfl, ?_⟩
              first
                | exact absurd (hw2.symm.trans hwh) (by decide)
                | exact absurd (hwh.symm.trans hw2) (by decide)
                | (rw [oG]; exact aB.dW dF bK yC.f11.f11.f11.f11.f11.f11.f11.f11.f11.f11.f11)
            · (try simp only [aI] at h9)
              have oG := fP jR hon hrun h9
              refine aT (aj (ay (ah (aV rfl (aA (aj (aJ (aQ (.inl rfl) results37 rfl ?_))))))))
              refine ⟨rfl, ?_⟩
              first
                | exact absurd (hw2.symm.trans hwh) (by decide)
                | exact absurd (hwh.symm.trans hw2) (by decide)
                | (rw [oG]; exact aB.dW dF bK wC.f11.f11.f11.f11.f11.f11.f11.f11.f11.f11.f11)
        · (try simp only [aI] at h6)
          have hw2 : s.whole = false := by simpa using h6
          have hrun : (s.typed && (!s.put.isEmpty || s.c.run)) = false := by first | exact absurd (hwh.symm.trans hw2) (by decide) | (rw [hty]; rfl)
          refine bF (bF (nU (nU (nU (nU (nU (bF (iU rfl rfl (bP rfl (bg 0 underlying69 rfl sizeOf64 rfl (bg 10 underlying64 rfl sizeOf4 rfl (aG (aS 10 (l' := [_, _, _, _, _, _, _, _, _, _, _, _, _, _, _, _, _, _, _, _, _, _, _, _, _, _, _, _, _, _, _, _, _, _]) dY sizeOf4 rfl rfl (by first | rfl | assumption) rfl rfl) ?_))))))))))))
          rintro _ Sv zB
          refine aA (aj (ay (ah (aN rfl (aN rfl (bP rfl (bg 28 underlying69 rfl sizeOf3 rfl (dO underlying3 rfl (zB).get.2 rfl (bP rfl (bg 0 underlying69 rfl sizeOf64 rfl (bg 6 underlying64 rfl sizeOf3 rfl (aG (aS 6 (l' := [_, _, _, _, _, _, _, _, _, _, _, _, _, _, _, _, _, _, _, _, _, _, _, _, _, _, _, _, _, _, _, _, _, _]) zB sizeOf3 rfl rfl (by first | rfl | assumption) rfl rfl) ?_))))))))))))
          rintro _ PZ uY
          refine aA (aj (ay (ay (ah (aN rfl (bP rfl (bg 28 underlying69 rfl sizeOf3 rfl (dO underlying3 rfl (uY).get.2 rfl (aU (dZ rfl rfl) (aA (aj (aP rfl (fun h10 => ?_) (fun h10 => ?_)))))))))))))
          · (try simp only [aI] at h10)
            have oG := gW jR hon hrun h10
            refine ah (aN rfl (aN rfl (bP rfl (bg 0 underlying69 rfl sizeOf64 rfl (bg 7 underlying64 rfl sizeOf3 rfl (aG (aS 7 (l' := [_, _, _, _, _, _, _, _, _, _, _, _, _, _, _, _, _, _, _, _, _, _, _, _, _, _, _, _, _, _, _, _, _, _]) uY sizeOf3 rfl rfl (by first | rfl | assumption) rfl rfl) ?_))))))
            rintro _ Sz yD
            refine bP rfl (bg 0 underlying69 rfl sizeOf64 rfl (bg 8 underlying64 rfl sizeOf3 rfl (aG (aS 8 (l' := [_, _, _, _, _, _, _, _, _, _, _, _, _, _, _, _, _, _, _, _, _, _, _, _, _, _, _, _, _, _, _, _, _, _]) yD sizeOf3 rfl rfl (by first | rfl | assumption) rfl rfl) ?_)))
            rintro _ TA oV
            refine aA (aj (ay (ah (aV rfl (aA (aj (aJ (aQ (.inl rfl) results37 rfl ?_))))))))
            refine ⟨rfl, ?_⟩
            first
              | exact absurd (hw2.symm.trans hwh) (by decide)
              | exact absurd (hwh.symm.trans hw2) (by decide)
              | (rw [oG]; exact aB.dW dF bK oV.f11.f11.f11.f11.f11.f11.f11.f11.f11.f11.f11)
          · (try simp only [aI] at h10)
            have oG := fP jR hon hrun h10
            refine aT (aj (ay (ah (aV rfl (aA (aj (aJ (aQ (.inl rfl) results37 rfl ?_))))))))
            refine ⟨rfl, ?_⟩
            first
              | exact absurd (hw2.symm.trans hwh) (by decide)
              | exact absurd (hwh.symm.trans hw2) (by decide)
              | (rw [oG]; exact aB.dW dF bK uY.f11.f11.f11.f11.f11.f11.f11.f11.f11.f11.f11)
      · (try simp only [aI] at h5)
        have hwh : s.whole = false := by simpa using h5
        have hty : s.typed = false := by unfold bG.typed; rw [hc3, hwh]; rfl
        have hrun : (s.typed && (!s.put.isEmpty || s.c.run)) = false := by rw [hty]; rfl
        refine bF (bF (bF (bF (bF (iU rfl rfl ?_)))))
        have BI := D9.f11.right
        have HW0 := aB.yc (c := s.was) (u := [mD, mF, mG, mJ, mM, mO, mP, mQ, mV, mW, mX]) BI
        obtain ⟨s1, jR, Rn⟩ : ∃ s1, s1 = s.gI ∧ aB w0 (w6.drew) (dK e s1 • F) := ⟨_, hs1, aB.dW (hs1 ▸ qI dF) bK HW0.f11.f11.f11.f11.f11.f11.f11.f11.f11.f11⟩
        have hr1 : s1.c.run = s.c.run := by rw [jR]; unfold bG.gI; split <;> rfl
        refine dw rfl func83 (jQ Rn) ?_
        rintro _ O7 rV
        obtain ⟨on, hon, HZ⟩ : ∃ on, (s.typed && s.c.run) = on ∧ aB w0 O7 (dK e (s1.dB on) • F) := ⟨_, by rw [hty]; rfl, rV⟩
        refine aA (aj (ay ?_))
        obtain ⟨qj, ql, qo, qp, qx, qy, qA, qB, nY, mD, mF, mG, mJ, mM, mO, mP, mQ, mV, mW, mX, dF, bK, gV, dY⟩ := (HZ).DR
        refine ah (aN rfl (aN rfl (jy rfl (fun h11 => ?_) (fun h11 => ?_))))
        · (try simp only [aI] at h11)
          have hw2 : s.whole = true := h11
          refine bC (aN rfl (bC (jy rfl (fun h12 => ?_) (fun h12 => ?_))))
          · (try simp only [aI] at h12)
            have hrun : (s.typed && (!s.put.isEmpty || s.c.run)) = true := by first | exact absurd (hw2.symm.trans hwh) (by decide) | (rw [ku, decide_eq_false (show ¬ s.put.length = 0 by omega), hty]; rfl)
            refine bF (bF (bF (bF (bF (bC (jw rfl rfl (jw rfl rfl (bP rfl (bg 0 underlying69 rfl sizeOf64 rfl (bg 10 underlying64 rfl sizeOf4 rfl (aG (aS 10 (l' := [_, _, _, _, _, _, _, _, _, _, _, _, _, _, _, _, _, _, _, _, _, _, _, _, _, _, _, _, _, _, _, _, _, _]) dY sizeOf4 rfl rfl (by first | rfl | assumption) rfl rfl) ?_)))))))))))
            rintro _ Xg IC
            refine aA (aj (ay (ah (aN rfl (aN rfl (bP rfl (bg 28 underlying69 rfl sizeOf3 rfl (dO underlying3 rfl (IC).get.2 rfl (bP rfl (bg 0 underlying69 rfl sizeOf64 rfl (bg 6 underlying64 rfl sizeOf3 rfl (aG (aS 6 (l' := [_, _, _, _, _, _, _, _, _, _, _, _, _, _, _, _, _, _, _, _, _, _, _, _, _, _, _, _, _, _, _, _, _, _]) IC sizeOf3 rfl rfl (by first | rfl | assumption) rfl rfl) ?_))))))))))))
            rintro _ YO Me
            refine aA (aj (ay (ay (ah (aN rfl (bP rfl (bg 28 underlying69 rfl sizeOf3 rfl (dO underlying3 rfl (Me).get.2 rfl (aU (dZ rfl rfl) (aA (aj (aP rfl (fun h13 => ?_) (fun h13 => ?_)))))))))))))
            · (try simp only [aI] at h13)
              have oG := gW jR hon hrun h13
              refine ah (aN rfl (aN rfl (bP rfl (bg 0 underlying69 rfl sizeOf64 rfl (bg 7 underlying64 rfl sizeOf3 rfl (aG (aS 7 (l' := [_, _, _, _, _, _, _, _, _, _, _, _, _, _, _, _, _, _, _, _, _, _, _, _, _, _, _, _, _, _, _, _, _, _]) Me sizeOf3 rfl rfl (by first | rfl | assumption) rfl rfl) ?_))))))
              rintro _ YP Ht
              refine bP rfl (bg 0 underlying69 rfl sizeOf64 rfl (bg 8 underlying64 rfl sizeOf3 rfl (aG (aS 8 (l' := [_, _, _, _, _, _, _, _, _, _, _, _, _, _, _, _, _, _, _, _, _, _, _, _, _, _, _, _, _, _, _, _, _, _]) Ht sizeOf3 rfl rfl (by first | rfl | assumption) rfl rfl) ?_)))
              rintro _ YQ SB
              refine aA (aj (ay (ah (aV rfl (aA (aj (aJ (aQ (.inl rfl) results37 rfl ?_))))))))
              refine ⟨rfl, ?_⟩
              first
                | exact absurd (hw2.symm.trans hwh) (by decide)
                | exact absurd (hwh.symm.trans hw2) (by decide)
                | (rw [oG]; exact aB.dW dF bK SB.f11.f11.f11.f11.f11.f11.f11.f11.f11.f11.f11)
            · (try simp only [aI] at h13)
              have oG := fP jR hon hrun h13
              refine aT (aj (ay (ah (aV rfl (aA (aj (aJ (aQ (.inl rfl) results37 rfl ?_))))))))
              refine ⟨rfl, ?_⟩
              first
                | exact absurd (hw2.symm.trans hwh) (by decide)
                | exact absurd (hwh.symm.trans hw2) (by decide)
                | (rw [oG]; exact aB.dW dF bK Me.f11.f11.f11.f11.f11.f11.f11.f11.f11.f11.f11)
          · (try simp only [aI] at h12)
            have hrun : (s.typed && (!s.put.isEmpty || s.c.run)) = (s1.dB on).c.run := by first | exact absurd (hw2.symm.trans hwh) (by decide) | (rw [ku, decide_eq_true (show s.put.length = 0 by omega), hty, vI, hr1]; rfl)
            refine bC (aN rfl (bC (bP rfl (bC (bg 0 underlying69 rfl sizeOf64 rfl (bC (bg 10 underlying64 rfl sizeOf4 rfl (bC (dO underlying4 rfl (dY).get.2 rfl (bC (iU rfl rfl (jw rfl rfl (bP rfl (bg 0 underlying69 rfl sizeOf64 rfl (bg 10 underlying64 rfl sizeOf4 rfl (aG (aS 10 (l' := [_, _, _, _, _, _, _, _, _, _, _, _, _, _, _, _, _, _, _, _, _, _, _, _, _, _, _, _, _, _, _, _, _, _]) dY sizeOf4 rfl rfl (by first | rfl | assumption) rfl rfl) ?_))))))))))))))))
            rintro _ Zj N7
            refine aA (aj (ay (ah (aN rfl (aN rfl (bP rfl (bg 28 underlying69 rfl sizeOf3 rfl (dO underlying3 rfl (N7).get.2 rfl (bP rfl (bg 0 underlying69 rfl sizeOf64 rfl (bg 6 underlying64 rfl sizeOf3 rfl (aG (aS 6 (l' := [_, _, _, _, _, _, _, _, _, _, _, _, _, _, _, _, _, _, _, _, _, _, _, _, _, _, _, _, _, _, _, _, _, _]) N7 sizeOf3 rfl rfl (by first | rfl | assumption) rfl rfl) ?_))))))))))))
            rintro _ YR JY
            refine aA (aj (ay (ay (ah (aN rfl (bP rfl (bg 28 underlying69 rfl sizeOf3 rfl (dO underlying3 rfl (JY).get.2 rfl (aU (dZ rfl rfl) (aA (aj (aP rfl (fun h14 => ?_) (fun h14 => ?_)))))))))))))
            · (try simp only [aI] at h14)
              have oG := gW jR hon hrun h14
              refine ah (aN rfl (aN rfl (bP rfl (bg 0 underlying69 rfl sizeOf64 rfl (bg 7 underlying64 rfl sizeOf3 rfl (aG (aS 7 (l' := [_, _, _, _, _, _, _, _, _, _, _, _, _, _, _, _, _, _, _, _, _, _, _, _, _, _, _, _, _, _, _, _, _, _]) JY sizeOf3 rfl rfl (by first | rfl | assumption) rfl rfl) ?_))))))
              rintro _ Wq JZ
              refine bP rfl (bg 0 underlying69 rfl sizeOf64 rfl (bg 8 underlying64 rfl sizeOf3 rfl (aG (aS 8 (l' := [_, _, _, _, _, _, _, _, _, _, _, _, _, _, _, _, _, _, _, _, _, _, _, _, _, _, _, _, _, _, _, _, _, _]) JZ sizeOf3 rfl rfl (by first | rfl | assumption) rfl rfl) ?_)))
              rintro _ w32 Et
              refine aA (aj (ay (ah (aV rfl (aA (aj (aJ (aQ (.inl rfl) results37 rfl ?_))))))))
              refine ⟨rfl, ?_⟩
              first
                | exact absurd (hw2.symm.trans hwh) (by decide)
                | exact absurd (hwh.symm.trans hw2) (by decide)
                | (rw [oG]; exact aB.dW dF bK Et.f11.f11.f11.f11.f11.f11.f11.f11.f11.f11.f11)
            · (try simp only [aI] at h14)
              have oG := fP jR hon hrun h14
              refine aT (aj (ay (ah (aV rfl (aA (aj (aJ (aQ (.inl rfl) results37 rfl ?_))))))))
              refine ⟨rfl, ?_⟩
              first
                | exact absurd (hw2.symm.trans hwh) (by decide)
                | exact absurd (hwh.symm.trans hw2) (by decide)
                | (rw [oG]; exact aB.dW dF bK JY.f11.f11.f11.f11.f11.f11.f11.f11.f11.f11.f11)
        · (try simp only [aI] at h11)
          have hw2 : s.whole = false := by simpa using h11
          have hrun : (s.typed && (!s.put.isEmpty || s.c.run)) = false := by first | exact absurd (hwh.symm.trans hw2) (by decide) | (rw [hty]; rfl)
          refine bF (bF (nU (nU (nU (nU (nU (bF (iU rfl rfl (bP rfl (bg 0 underlying69 rfl sizeOf64 rfl (bg 10 underlying64 rfl sizeOf4 rfl (aG (aS 10 (l' := [_, _, _, _, _, _, _, _, _, _, _, _, _, _, _, _, _, _, _, _, _, _, _, _, _, _, _, _, _, _, _, _, _, _]) dY sizeOf4 rfl rfl (by first | rfl | assumption) rfl rfl) ?_))))))))))))
          rintro _ YS Kw
          refine aA (aj (ay (ah (aN rfl (aN rfl (bP rfl (bg 28 underlying69 rfl sizeOf3 rfl (dO underlying3 rfl (Kw).get.2 rfl (bP rfl (bg 0 underlying69 rfl sizeOf64 rfl (bg 6 underlying64 rfl sizeOf3 rfl (aG (aS 6 (l' := [_, _, _, _, _, _, _, _, _, _, _, _, _, _, _, _, _, _, _, _, _, _, _, _, _, _, _, _, _, _, _, _, _, _]) Kw sizeOf3 rfl rfl (by first | rfl | assumption) rfl rfl) ?_))))))))))))
          rintro _ YX MW
          refine aA (aj (ay (ay (ah (aN rfl (bP rfl (bg 28 underlying69 rfl sizeOf3 rfl (dO underlying3 rfl (MW).get.2 rfl (aU (dZ rfl rfl) (aA (aj (aP rfl (fun h15 => ?_) (fun h15 => ?_)))))))))))))
          · (try simp only [aI] at h15)
            have oG := gW jR hon hrun h15
            refine ah (aN rfl (aN rfl (bP rfl (bg 0 underlying69 rfl sizeOf64 rfl (bg 7 underlying64 rfl sizeOf3 rfl (aG (aS 7 (l' := [_, _, _, _, _, _, _, _, _, _, _, _, _, _, _, _, _, _, _, _, _, _, _, _, _, _, _, _, _, _, _, _, _, _]) MW sizeOf3 rfl rfl (by first | rfl | assumption) rfl rfl) ?_))))))
            rintro _ Z8 TT
            refine bP rfl (bg 0 underlying69 rfl sizeOf64 rfl (bg 8 underlying64 rfl sizeOf3 rfl (aG (aS 8 (l' := [_, _, _, _, _, _, _, _, _, _, _, _, _, _, _, _, _, _, _, _, _, _, _, _, _, _, _, _, _, _, _, _, _, _]) TT sizeOf3 rfl rfl (by first | rfl | assumption) rfl rfl) ?_)))
            rintro _ w36 Wy
            refine aA (aj (ay (ah (aV rfl (aA (aj (aJ (aQ (.inl rfl) results37 rfl ?_))))))))
            refine ⟨rfl, ?_⟩
            first
              | exact absurd (hw2.symm.trans hwh) (by decide)
              | exact absurd (hwh.symm.trans hw2) (by decide)
              | (rw [oG]; exact aB.dW dF bK Wy.f11.f11.f11.f11.f11.f11.f11.f11.f11.f11.f11)
          · (try simp only [aI] at h15)
            have oG := fP jR hon hrun h15
            refine aT (aj (ay (ah (aV rfl (aA (aj (aJ (aQ (.inl rfl) results37 rfl ?_))))))))
            refine ⟨rfl, ?_⟩
            first
              | exact absurd (hw2.symm.trans hwh) (by decide)
              | exact absurd (hwh.symm.trans hw2) (by decide)
              | (rw [oG]; exact aB.dW dF bK MW.f11.f11.f11.f11.f11.f11.f11.f11.f11.f11.f11)
    · (try simp only [aI] at h4)
      have hty : s.typed = false := by unfold bG.typed; rw [beq_false_of_ne h4]; rfl
      have hrun : (s.typed && (!s.put.isEmpty || s.c.run)) = false := by rw [hty]; rfl
      refine Ap 6 rfl rfl rfl rfl (by kernel_rfl) (by kernel_rfl) fO (lT rfl) ?_
      refine Ap 7 rfl rfl rfl rfl (by kernel_rfl) (by kernel_rfl) fO (lT rfl) ?_
      refine Ap 8 rfl rfl rfl rfl (by kernel_rfl) (by kernel_rfl) fO (lT rfl) ?_
      refine Ap 9 rfl rfl rfl rfl (by kernel_rfl) (by kernel_rfl) fO (lT rfl) ?_
      refine iJ 10 rfl fO (fun _ => CO rfl rfl) (gQ 11 rfl fO rfl (iQ 12 rfl fO rfl (dR 13 rfl fO 33 underlying69 rfl sizeOf67 rfl (gY 14 rfl fO (fun W hW => iH underlying67 rfl ((Kp.h hW)).get.2 rfl) (iJ 15 rfl fO (fun _ => fM ((D9.f9).aO) underlying67 rfl) (iJ 16 rfl fO (fun _ => fZ rfl rfl) (iJ 17 rfl fO (fun _ => eP rfl) (iJ 18 rfl fO (fun _ => eP rfl) (nT (aj (ay (ah (aN rfl (aN rfl (aN rfl (bF (bF (bF (bF (bF (iU rfl rfl ?_)))))))))))))))))))))
      have VY := D9.f11.right
      have HW0 := aB.yc (c := s.was) (u := [mD, mF, mG, mJ, mM, mO, mP, mQ, mV, mW, mX]) VY
      obtain ⟨s1, jR, Rn⟩ : ∃ s1, s1 = s.gI ∧ aB w0 (w6.drew) (dK e s1 • F) := ⟨_, hs1, aB.dW (hs1 ▸ qI dF) bK HW0.f11.f11.f11.f11.f11.f11.f11.f11.f11.f11⟩
      have hr1 : s1.c.run = s.c.run := by rw [jR]; unfold bG.gI; split <;> rfl
      refine dw rfl func83 (jQ Rn) ?_
      rintro _ YZ KU
      obtain ⟨on, hon, HZ⟩ : ∃ on, (s.typed && s.c.run) = on ∧ aB w0 YZ (dK e (s1.dB on) • F) := ⟨_, by rw [hty]; rfl, KU⟩
      refine aA (aj (ay ?_))
      obtain ⟨qj, ql, qo, qp, qx, qy, qA, qB, nY, mD, mF, mG, mJ, mM, mO, mP, mQ, mV, mW, mX, dF, bK, gV, dY⟩ := (HZ).DR
      refine ah (aN rfl (aN rfl (aN rfl (bF (bF (nU (nU (nU (nU (nU (bF (iU rfl rfl (bP rfl (bg 0 underlying69 rfl sizeOf64 rfl (bg 10 underlying64 rfl sizeOf4 rfl (aG (aS 10 (l' := [_, _, _, _, _, _, _, _, _, _, _, _, _, _, _, _, _, _, _, _, _, _, _, _, _, _, _, _, _, _, _, _, _, _]) dY sizeOf4 rfl rfl (by first | rfl | assumption) rfl rfl) ?_))))))))))))))))
      rintro _ w40 Yn
      refine aA (aj (ay (ah (aN rfl (aN rfl (bP rfl (bg 28 underlying69 rfl sizeOf3 rfl (dO underlying3 rfl (Yn).get.2 rfl (bP rfl (bg 0 underlying69 rfl sizeOf64 rfl (bg 6 underlying64 rfl sizeOf3 rfl (aG (aS 6 (l' := [_, _, _, _, _, _, _, _, _, _, _, _, _, _, _, _, _, _, _, _, _, _, _, _, _, _, _, _, _, _, _, _, _, _]) Yn sizeOf3 rfl rfl (by first | rfl | assumption) rfl rfl) ?_))))))))))))
      rintro _ w41 TU
      refine aA (aj (ay (ay (ah (aN rfl (bP rfl (bg 28 underlying69 rfl sizeOf3 rfl (dO underlying3 rfl (TU).get.2 rfl (aU (dZ rfl rfl) (aA (aj (aP rfl (fun h16 => ?_) (fun h16 => ?_)))))))))))))
      · (try simp only [aI] at h16)
        have oG := gW jR hon hrun h16
        refine ah (aN rfl (aN rfl (bP rfl (bg 0 underlying69 rfl sizeOf64 rfl (bg 7 underlying64 rfl sizeOf3 rfl (aG (aS 7 (l' := [_, _, _, _, _, _, _, _, _, _, _, _, _, _, _, _, _, _, _, _, _, _, _, _, _, _, _, _, _, _, _, _, _, _]) TU sizeOf3 rfl rfl (by first | rfl | assumption) rfl rfl) ?_))))))
        rintro _ w42 SC
        refine bP rfl (bg 0 underlying69 rfl sizeOf64 rfl (bg 8 underlying64 rfl sizeOf3 rfl (aG (aS 8 (l' := [_, _, _, _, _, _, _, _, _, _, _, _, _, _, _, _, _, _, _, _, _, _, _, _, _, _, _, _, _, _, _, _, _, _]) SC sizeOf3 rfl rfl (by first | rfl | assumption) rfl rfl) ?_)))
        rintro _ Y0 SE
        refine aA (aj (ay (ah (aV rfl (aA (aj (aJ (aQ (.inl rfl) results37 rfl ?_))))))))
        refine ⟨rfl, ?_⟩
        first
          | exact absurd (hw2.symm.trans hwh) (by decide)
          | exact absurd (hwh.symm.trans hw2) (by decide)
          | (rw [oG]; exact aB.dW dF bK SE.f11.f11.f11.f11.f11.f11.f11.f11.f11.f11.f11)
      · (try simp only [aI] at h16)
        have oG := fP jR hon hrun h16
        refine aT (aj (ay (ah (aV rfl (aA (aj (aJ (aQ (.inl rfl) results37 rfl ?_))))))))
        refine ⟨rfl, ?_⟩
        first
          | exact absurd (hw2.symm.trans hwh) (by decide)
          | exact absurd (hwh.symm.trans hw2) (by decide)
          | (rw [oG]; exact aB.dW dF bK TU.f11.f11.f11.f11.f11.f11.f11.f11.f11.f11.f11)
  · (try simp only [aI] at h2)
    have har : s.argues = true := by simpa using h2
    have hs1 : ({ s with inn := false } : bG) = s.gI := by unfold bG.gI; rw [if_pos har]
    refine bC (aN rfl (bC (aU (dZ rfl rfl) (iU rfl rfl (aA (aj (aP rfl (fun h => by exfalso; (try simp only [aI] at h); simp at h) (fun h17 => ?_))))))))
    (try simp only [aI] at h17)
    refine aT (aj (ay (ay (ah (aN rfl (aU (dZ rfl rfl) (aA (aj (aP rfl (fun h => by exfalso; (try simp only [aI] at h); simp at h) (fun h18 => ?_))))))))))
    (try simp only [aI] at h18)
    refine aT (aj (ay ?_))
    have yt := H3.drew
    have dM := aB.kp (yt.f11.f11.f11.f11.f11.f11.f11.f11.f11.f11.f11)
    refine vV [3, 9, 14] dM rfl (gQ 0 rfl dM rfl (iQ 1 rfl dM rfl (dR 2 rfl dM 28 underlying69 rfl sizeOf3 rfl (gY 3 rfl dM (fun W hW => iH underlying3 rfl ((Kp.h hW)).get.2 rfl) (iJ 4 rfl dM (fun _ => iY rfl rfl) ?_)))))
    refine Ic 5 rfl rfl (by kernel_rfl) (by kernel_rfl) dM (lT rfl) (fun h19 => ?_) (fun h19 => ?_)
    · (try simp only [aI] at h19)
      have hc3 : s.cls = 3 := h19
      refine kR 6 rfl rfl rfl (by kernel_rfl) (by kernel_rfl) dM (fun _ => CG rfl) (lT rfl) ?_
      refine kR 7 rfl rfl rfl (by kernel_rfl) (by kernel_rfl) dM (fun _ => LZ rfl) (lT rfl) ?_
      refine kR 8 rfl rfl rfl (by kernel_rfl) (by kernel_rfl) dM (fun _ => CP 32 underlying69 rfl rfl sizeOf4 (by decide) rfl rfl) (lT rfl) ?_
      refine Am 9 rfl rfl rfl (by kernel_rfl) (by kernel_rfl) dM (by decide) (fun W hW => fJ (bW underlying4 rfl) rfl (gX ((Kp.h hW)).get.2 rfl)) (lT rfl) ?_
      refine iJ 10 rfl dM (fun _ => CJ rfl rfl) (gQ 11 rfl dM rfl (iQ 12 rfl dM rfl (dR 13 rfl dM 33 underlying69 rfl sizeOf67 rfl (gY 14 rfl dM (fun W hW => iH underlying67 rfl ((Kp.h hW)).get.2 rfl) (iJ 15 rfl dM (fun _ => fM ((yt.f9).aO) underlying67 rfl) (iJ 16 rfl dM (fun _ => fZ rfl rfl) (iJ 17 rfl dM (fun _ => eP rfl) (iJ 18 rfl dM (fun _ => eP rfl) (nT (aj (ay (ah (aN rfl (aN rfl (jy rfl (fun h20 => ?_) (fun h20 => ?_))))))))))))))))
      · (try simp only [aI] at h20)
        have hwh : s.whole = true := h20
        have hty : s.typed = true := by unfold bG.typed; rw [hc3, hwh]; rfl
        refine bC (aN rfl (bC (bP rfl (bC (bg 0 underlying69 rfl sizeOf64 rfl (bC (bg 10 underlying64 rfl sizeOf4 rfl (bC (dO underlying4 rfl (yt).get.2 rfl (jw rfl rfl ?_))))))))))
        have aaH := yt.f11.right
        have HW0 := aB.yc (c := s.was) (u := [mD, mF, mG, mJ, mM, mO, mP, mQ, mV, mW, mX]) aaH
        obtain ⟨s1, jR, Rn⟩ : ∃ s1, s1 = s.gI ∧ aB w0 (w3.drew) (dK e s1 • F) := ⟨_, hs1, aB.dW (hs1 ▸ qI dF) bK HW0.f11.f11.f11.f11.f11.f11.f11.f11.f11.f11⟩
        have hr1 : s1.c.run = s.c.run := by rw [jR]; unfold bG.gI; split <;> rfl
        refine dw rfl func83 (jQ Rn) ?_
        rintro _ Y1 J3
        obtain ⟨on, hon, HZ⟩ : ∃ on, (s.typed && s.c.run) = on ∧ aB w0 Y1 (dK e (s1.dB on) • F) := ⟨_, by rw [hty]; rfl, J3⟩
        refine aA (aj (ay ?_))
        obtain ⟨qj, ql, qo, qp, qx, qy, qA, qB, nY, mD, mF, mG, mJ, mM, mO, mP, mQ, mV, mW, mX, dF, bK, gV, dY⟩ := (HZ).DR
        refine ah (aN rfl (aN rfl (jy rfl (fun h21 => ?_) (fun h21 => ?_))))
        · (try simp only [aI] at h21)
          have hw2 : s.whole = true := h21
          refine bC (aN rfl (bC (jy rfl (fun h22 => ?_) (fun h22 => ?_))))
          · (try simp only [aI] at h22)
            have hrun : (s.typed && (!s.put.isEmpty || s.c.run)) = true := by first | exact absurd (hw2.symm.trans hwh) (by decide) | (rw [ku, decide_eq_false (show ¬ s.put.length = 0 by omega), hty]; rfl)
            refine bF (bF (bF (bF (bF (bC (jw rfl rfl (jw rfl rfl (bP rfl (bg 0 underlying69 rfl sizeOf64 rfl (bg 10 underlying64 rfl sizeOf4 rfl (aG (aS 10 (l' := [_, _, _, _, _, _, _, _, _, _, _, _, _, _, _, _, _, _, _, _, _, _, _, _, _, _, _, _, _, _, _, _, _, _]) dY sizeOf4 rfl rfl (by first | rfl | assumption) rfl rfl) ?_)))))))))))
            rintro _ w47 V3
            refine aA (aj (ay (ah (aN rfl (aN rfl (bP rfl (bg 28 underlying69 rfl sizeOf3 rfl (dO underlying3 rfl (V3).get.2 rfl (bP rfl (bg 0 underlying69 rfl sizeOf64 rfl (bg 6 underlying64 rfl sizeOf3 rfl (aG (aS 6 (l' := [_, _, _, _, _, _, _, _, _, _, _, _, _, _, _, _, _, _, _, _, _, _, _, _, _, _, _, _, _, _, _, _, _, _]) V3 sizeOf3 rfl rfl (by first | rfl | assumption) rfl rfl) ?_))))))))))))
            rintro _ w48 H48
            refine aA (aj (ay (ay (ah (aN rfl (bP rfl (bg 28 underlying69 rfl sizeOf3 rfl (dO underlying3 rfl (H48).get.2 rfl (aU (dZ rfl rfl) (aA (aj (aP rfl (fun h23 => ?_) (fun h23 => ?_)))))))))))))
            · (try simp only [aI] at h23)
              have oG := gW jR hon hrun h23
              refine ah (aN rfl (aN rfl (bP rfl (bg 0 underlying69 rfl sizeOf64 rfl (bg 7 underlying64 rfl sizeOf3 rfl (aG (aS 7 (l' := [_, _, _, _, _, _, _, _, _, _, _, _, _, _, _, _, _, _, _, _, _, _, _, _, _, _, _, _, _, _, _, _, _, _]) H48 sizeOf3 rfl rfl (by first | rfl | assumption) rfl rfl) ?_))))))
              rintro _ w49 Y2
              refine bP rfl (bg 0 underlying69 rfl sizeOf64 rfl (bg 8 underlying64 rfl sizeOf3 rfl (aG (aS 8 (l' := [_, _, _, _, _, _, _, _, _, _, _, _, _, _, _, _, _, _, _, _, _, _, _, _, _, _, _, _, _, _, _, _, _, _]) Y2 sizeOf3 rfl rfl (by first | rfl | assumption) rfl rfl) ?_)))
              rintro _ w50 WA
              refine aA (aj (ay (ah (aV rfl (aA (aj (aJ (aQ (.inl rfl) results37 rfl ?_))))))))
              refine ⟨rfl, ?_⟩
              first
                | exact absurd (hw2.symm.trans hwh) (by decide)
                | exact absurd (hwh.symm.trans hw2) (by decide)
                | (rw [oG]; exact aB.dW dF bK WA.f11.f11.f11.f11.f11.f11.f11.f11.f11.f11.f11)
            · (try simp only [aI] at h23)
              have oG := fP jR hon hrun h23
              refine aT (aj (ay (ah (aV rfl (aA (aj (aJ (aQ (.inl rfl) results37 rfl ?_))))))))
              refine ⟨rfl, ?_⟩
              first
                | exact absurd (hw2.symm.trans hwh) (by decide)
                | exact absurd (hwh.symm.trans hw2) (by decide)
                | (rw [oG]; exact aB.dW dF bK H48.f11.f11.f11.f11.f11.f11.f11.f11.f11.f11.f11)
          · (try simp only [aI] at h22)
            have hrun : (s.typed && (!s.put.isEmpty || s.c.run)) = (s1.dB on).c.run := by first | exact absurd (hw2.symm.trans hwh) (by decide) | (rw [ku, decide_eq_true (show s.put.length = 0 by omega), hty, vI, hr1]; rfl)
            refine bC (aN rfl (bC (bP rfl (bC (bg 0 underlying69 rfl sizeOf64 rfl (bC (bg 10 underlying64 rfl sizeOf4 rfl (bC (dO underlying4 rfl (dY).get.2 rfl (bC (iU rfl rfl (jw rfl rfl (bP rfl (bg 0 underlying69 rfl sizeOf64 rfl (bg 10 underlying64 rfl sizeOf4 rfl (aG (aS 10 (l' := [_, _, _, _, _, _, _, _, _, _, _, _, _, _, _, _, _, _, _, _, _, _, _, _, _, _, _, _, _, _, _, _, _, _]) dY sizeOf4 rfl rfl (by first | rfl | assumption) rfl rfl) ?_))))))))))))))))
            rintro _ w51 VQ
            refine aA (aj (ay (ah (aN rfl (aN rfl (bP rfl (bg 28 underlying69 rfl sizeOf3 rfl (dO underlying3 rfl (VQ).get.2 rfl (bP rfl (bg 0 underlying69 rfl sizeOf64 rfl (bg 6 underlying64 rfl sizeOf3 rfl (aG (aS 6 (l' := [_, _, _, _, _, _, _, _, _, _, _, _, _, _, _, _, _, _, _, _, _, _, _, _, _, _, _, _, _, _, _, _, _, _]) VQ sizeOf3 rfl rfl (by first | rfl | assumption) rfl rfl) ?_))))))))))))
            rintro _ w52 UZ
            refine aA (aj (ay (ay (ah (aN rfl (bP rfl (bg 28 underlying69 rfl sizeOf3 rfl (dO underlying3 rfl (UZ).get.2 rfl (aU (dZ rfl rfl) (aA (aj (aP rfl (fun h24 => ?_) (fun h24 => ?_)))))))))))))
            · (try simp only [aI] at h24)
              have oG := gW jR hon hrun h24
              refine ah (aN rfl (aN rfl (bP rfl (bg 0 underlying69 rfl sizeOf64 rfl (bg 7 underlying64 rfl sizeOf3 rfl (aG (aS 7 (l' := [_, _, _, _, _, _, _, _, _, _, _, _, _, _, _, _, _, _, _, _, _, _, _, _, _, _, _, _, _, _, _, _, _, _]) UZ sizeOf3 rfl rfl (by first | rfl | assumption) rfl rfl) ?_))))))
              rintro _ w53 WB
              refine bP rfl (bg 0 underlying69 rfl sizeOf64 rfl (bg 8 underlying64 rfl sizeOf3 rfl (aG (aS 8 (l' := [_, _, _, _, _, _, _, _, _, _, _, _, _, _, _, _, _, _, _, _, _, _, _, _, _, _, _, _, _, _, _, _, _, _]) WB sizeOf3 rfl rfl (by first | rfl | assumption) rfl rfl) ?_)))
              rintro _ w54 H54
              refine aA (aj (ay (ah (aV rfl (aA (aj (aJ (aQ (.inl rfl) results37 rfl ?_))))))))
              refine ⟨rfl, ?_⟩
              first
                | exact absurd (hw2.symm.trans hwh) (by decide)
                | exact absurd (hwh.symm.trans hw2) (by decide)
                | (rw [oG]; exact aB.dW dF bK H54.f11.f11.f11.f11.f11.f11.f11.f11.f11.f11.f11)
            · (try simp only [aI] at h24)
              have oG := fP jR hon hrun h24
              refine aT (aj (ay (ah (aV rfl (aA (aj (aJ (aQ (.inl rfl) results37 rfl ?_))))))))
              refine ⟨rfl, ?_⟩
              first
                | exact absurd (hw2.symm.trans hwh) (by decide)
                | exact absurd (hwh.symm.trans hw2) (by decide)
                | (rw [oG]; exact aB.dW dF bK UZ.f11.f11.f11.f11.f11.f11.f11.f11.f11.f11.f11)
        · (try simp only [aI] at h21)
          have hw2 : s.whole = false := by simpa using h21
          have hrun : (s.typed && (!s.put.isEmpty || s.c.run)) = false := by first | exact absurd (hwh.symm.trans hw2) (by decide) | (rw [hty]; rfl)
          refine bF (bF (nU (nU (nU (nU (nU (bF (iU rfl rfl (bP rfl (bg 0 underlying69 rfl sizeOf64 rfl (bg 10 underlying64 rfl sizeOf4 rfl (aG (aS 10 (l' := [_, _, _, _, _, _, _, _, _, _, _, _, _, _, _, _, _, _, _, _, _, _, _, _, _, _, _, _, _, _, _, _, _, _]) dY sizeOf4 rfl rfl (by first | rfl | assumption) rfl rfl) ?_))))))))))))
          rintro _ w55 Y3
          refine aA (aj (ay (ah (aN rfl (aN rfl (bP rfl (bg 28 underlying69 rfl sizeOf3 rfl (dO underlying3 rfl (Y3).get.2 rfl (bP rfl (bg 0 underlying69 rfl sizeOf64 rfl (bg 6 underlying64 rfl sizeOf3 rfl (aG (aS 6 (l' := [_, _, _, _, _, _, _, _, _, _, _, _, _, _, _, _, _, _, _, _, _, _, _, _, _, _, _, _, _, _, _, _, _, _]) Y3 sizeOf3 rfl rfl (by first | rfl | assumption) rfl rfl) ?_))))))))))))
          rintro _ w56 H56
          refine aA (aj (ay (ay (ah (aN rfl (bP rfl (bg 28 underlying69 rfl sizeOf3 rfl (dO underlying3 rfl (H56).get.2 rfl (aU (dZ rfl rfl) (aA (aj (aP rfl (fun h25 => ?_) (fun h25 => ?_)))))))))))))
          · (try simp only [aI] at h25)
            have oG := gW jR hon hrun h25
            refine ah (aN rfl (aN rfl (bP rfl (bg 0 underlying69 rfl sizeOf64 rfl (bg 7 underlying64 rfl sizeOf3 rfl (aG (aS 7 (l' := [_, _, _, _, _, _, _, _, _, _, _, _, _, _, _, _, _, _, _, _, _, _, _, _, _, _, _, _, _, _, _, _, _, _]) H56 sizeOf3 rfl rfl (by first | rfl | assumption) rfl rfl) ?_))))))
            rintro _ w57 H57
            refine bP rfl (bg 0 underlying69 rfl sizeOf64 rfl (bg 8 underlying64 rfl sizeOf3 rfl (aG (aS 8 (l' := [_, _, _, _, _, _, _, _, _, _, _, _, _, _, _, _, _, _, _, _, _, _, _, _, _, _, _, _, _, _, _, _, _, _]) H57 sizeOf3 rfl rfl (by first | rfl | assumption) rfl rfl) ?_)))
            rintro _ w58 TV
            refine aA (aj (ay (ah (aV rfl (aA (aj (aJ (aQ (.inl rfl) results37 rfl ?_))))))))
            refine ⟨rfl, ?_⟩
            first
              | exact absurd (hw2.symm.trans hwh) (by decide)
              | exact absurd (hwh.symm.trans hw2) (by decide)
              | (rw [oG]; exact aB.dW dF bK TV.f11.f11.f11.f11.f11.f11.f11.f11.f11.f11.f11)
          · (try simp only [aI] at h25)
            have oG := fP jR hon hrun h25
            refine aT (aj (ay (ah (aV rfl (aA (aj (aJ (aQ (.inl rfl) results37 rfl ?_))))))))
            refine ⟨rfl, ?_⟩
            first
              | exact absurd (hw2.symm.trans hwh) (by decide)
              | exact absurd (hwh.symm.trans hw2) (by decide)
              | (rw [oG]; exact aB.dW dF bK H56.f11.f11.f11.f11.f11.f11.f11.f11.f11.f11.f11)
      · (try simp only [aI] at h20)
        have hwh : s.whole = false := by simpa using h20
        have hty : s.typed = false := by unfold bG.typed; rw [hc3, hwh]; rfl
        have hrun : (s.typed && (!s.put.isEmpty || s.c.run)) = false := by rw [hty]; rfl
        refine bF (bF (bF (bF (bF (iU rfl rfl ?_)))))
        have aaI := yt.f11.right
        have HW0 := aB.yc (c := s.was) (u := [mD, mF, mG, mJ, mM, mO, mP, mQ, mV, mW, mX]) aaI
        obtain ⟨s1, jR, Rn⟩ : ∃ s1, s1 = s.gI ∧ aB w0 (w3.drew) (dK e s1 • F) := ⟨_, hs1, aB.dW (hs1 ▸ qI dF) bK HW0.f11.f11.f11.f11.f11.f11.f11.f11.f11.f11⟩
        have hr1 : s1.c.run = s.c.run := by rw [jR]; unfold bG.gI; split <;> rfl
        refine dw rfl func83 (jQ Rn) ?_
        rintro _ w60 WE
        obtain ⟨on, hon, HZ⟩ : ∃ on, (s.typed && s.c.run) = on ∧ aB w0 w60 (dK e (s1.dB on) • F) := ⟨_, by rw [hty]; rfl, WE⟩
        refine aA (aj (ay ?_))
        obtain ⟨qj, ql, qo, qp, qx, qy, qA, qB, nY, mD, mF, mG, mJ, mM, mO, mP, mQ, mV, mW, mX, dF, bK, gV, dY⟩ := (HZ).DR
        refine ah (aN rfl (aN rfl (jy rfl (fun h26 => ?_) (fun h26 => ?_))))
        · (try simp only [aI] at h26)
          have hw2 : s.whole = true := h26
          refine bC (aN rfl (bC (jy rfl (fun h27 => ?_) (fun h27 => ?_))))
          · (try simp only [aI] at h27)
            have hrun : (s.typed && (!s.put.isEmpty || s.c.run)) = true := by first | exact absurd (hw2.symm.trans hwh) (by decide) | (rw [ku, decide_eq_false (show ¬ s.put.length = 0 by omega), hty]; rfl)
            refine bF (bF (bF (bF (bF (bC (jw rfl rfl (jw rfl rfl (bP rfl (bg 0 underlying69 rfl sizeOf64 rfl (bg 10 underlying64 rfl sizeOf4 rfl (aG (aS 10 (l' := [_, _, _, _, _, _, _, _, _, _, _, _, _, _, _, _, _, _, _, _, _, _, _, _, _, _, _, _, _, _, _, _, _, _]) dY sizeOf4 rfl rfl (by first | rfl | assumption) rfl rfl) ?_)))))))))))
            rintro _ w62 X6
            refine aA (aj (ay (ah (aN rfl (aN rfl (bP rfl (bg 28 underlying69 rfl sizeOf3 rfl (dO underlying3 rfl (X6).get.2 rfl (bP rfl (bg 0 underlying69 rfl sizeOf64 rfl (bg 6 underlying64 rfl sizeOf3 rfl (aG (aS 6 (l' := [_, _, _, _, _, _, _, _, _, _, _, _, _, _, _, _, _, _, _, _, _, _, _, _, _, _, _, _, _, _, _, _, _, _]) X6 sizeOf3 rfl rfl (by first | rfl | assumption) rfl rfl) ?_))))))))))))
            rintro _ w63 X8
            refine aA (aj (ay (ay (ah (aN rfl (bP rfl (bg 28 underlying69 rfl sizeOf3 rfl (dO underlying3 rfl (X8).get.2 rfl (aU (dZ rfl rfl) (aA (aj (aP rfl (fun h28 => ?_) (fun h28 => ?_)))))))))))))
            · (try simp only [aI] at h28)
              have oG := gW jR hon hrun h28
              refine ah (aN rfl (aN rfl (bP rfl (bg 0 underlying69 rfl sizeOf64 rfl (bg 7 underlying64 rfl sizeOf3 rfl (aG (aS 7 (l' := [_, _, _, _, _, _, _, _, _, _, _, _, _, _, _, _, _, _, _, _, _, _, _, _, _, _, _, _, _, _, _, _, _, _]) X8 sizeOf3 rfl rfl (by first | rfl | assumption) rfl rfl) ?_))))))
              rintro _ w64 X9
              refine bP rfl (bg 0 underlying69 rfl sizeOf64 rfl (bg 8 underlying64 rfl sizeOf3 rfl (aG (aS 8 (l' := [_, _, _, _, _, _, _, _, _, _, _, _, _, _, _, _, _, _, _, _, _, _, _, _, _, _, _, _, _, _, _, _, _, _]) X9 sizeOf3 rfl rfl (by first | rfl | assumption) rfl rfl) ?_)))
              rintro _ w65 H65
              refine aA (aj (ay (ah (aV rfl (aA (aj (aJ (aQ (.inl rfl) results37 rfl ?_))))))))
              refine ⟨rfl, ?_⟩
              first
                | exact absurd (hw2.symm.trans hwh) (by decide)
                | exact absurd (hwh.symm.trans hw2) (by decide)
                | (rw [oG]; exact aB.dW dF bK H65.f11.f11.f11.f11.f11.f11.f11.f11.f11.f11.f11)
            · (try simp only [aI] at h28)
              have oG := fP jR hon hrun h28
              refine aT (aj (ay (ah (aV rfl (aA (aj (aJ (aQ (.inl rfl) results37 rfl ?_))))))))
              refine ⟨rfl, ?_⟩
              first
                | exact absurd (hw2.symm.trans hwh) (by decide)
                | exact absurd (hwh.symm.trans hw2) (by decide)
                | (rw [oG]; exact aB.dW dF bK X8.f11.f11.f11.f11.f11.f11.f11.f11.f11.f11.f11)
          · (try simp only [aI] at h27)
            have hrun : (s.typed && (!s.put.isEmpty || s.c.run)) = (s1.dB on).c.run := by first | exact absurd (hw2.symm.trans hwh) (by decide) | (rw [ku, decide_eq_true (show s.put.length = 0 by omega), hty, vI, hr1]; rfl)
            refine bC (aN rfl (bC (bP rfl (bC (bg 0 underlying69 rfl sizeOf64 rfl (bC (bg 10 underlying64 rfl sizeOf4 rfl (bC (dO underlying4 rfl (dY).get.2 rfl (bC (iU rfl rfl (jw rfl rfl (bP rfl (bg 0 underlying69 rfl sizeOf64 rfl (bg 10 underlying64 rfl sizeOf4 rfl (aG (aS 10 (l' := [_, _, _, _, _, _, _, _, _, _, _, _, _, _, _, _, _, _, _, _, _, _, _, _, _, _, _, _, _, _, _, _, _, _]) dY sizeOf4 rfl rfl (by first | rfl | assumption) rfl rfl) ?_))))))))))))))))
            rintro _ w66 H66
            refine aA (aj (ay (ah (aN rfl (aN rfl (bP rfl (bg 28 underlying69 rfl sizeOf3 rfl (dO underlying3 rfl (H66).get.2 rfl (bP rfl (bg 0 underlying69 rfl sizeOf64 rfl (bg 6 underlying64 rfl sizeOf3 rfl (aG (aS 6 (l' := [_, _, _, _, _, _, _, _, _, _, _, _, _, _, _, _, _, _, _, _, _, _, _, _, _, _, _, _, _, _, _, _, _, _]) H66 sizeOf3 rfl rfl (by first | rfl | assumption) rfl rfl) ?_))))))))))))
            rintro _ w67 H67
            refine aA (aj (ay (ay (ah (aN rfl (bP rfl (bg 28 underlying69 rfl sizeOf3 rfl (dO underlying3 rfl (H67).get.2 rfl (aU (dZ rfl rfl) (aA (aj (aP rfl (fun h29 => ?_) (fun h29 => ?_)))))))))))))
            · (try simp only [aI] at h29)
              have oG := gW jR hon hrun h29
              refine ah (aN rfl (aN rfl (bP rfl (bg 0 underlying69 rfl sizeOf64 rfl (bg 7 underlying64 rfl sizeOf3 rfl (aG (aS 7 (l' := [_, _, _, _, _, _, _, _, _, _, _, _, _, _, _, _, _, _, _, _, _, _, _, _, _, _, _, _, _, _, _, _, _, _]) H67 sizeOf3 rfl rfl (by first | rfl | assumption) rfl rfl) ?_))))))
              rintro _ w68 Y5
              refine bP rfl (bg 0 underlying69 rfl sizeOf64 rfl (bg 8 underlying64 rfl sizeOf3 rfl (aG (aS 8 (l' := [_, _, _, _, _, _, _, _, _, _, _, _, _, _, _, _, _, _, _, _, _, _, _, _, _, _, _, _, _, _, _, _, _, _]) Y5 sizeOf3 rfl rfl (by first | rfl | assumption) rfl rfl) ?_)))
              rintro _ w69 Y6
              refine aA (aj (ay (ah (aV rfl (aA (aj (aJ (aQ (.inl rfl) results37 rfl ?_))))))))
              refine ⟨rfl, ?_⟩
              first
                | exact absurd (hw2.symm.trans hwh) (by decide)
                | exact absurd (hwh.symm.trans hw2) (by decide)
                | (rw [oG]; exact aB.dW dF bK Y6.f11.f11.f11.f11.f11.f11.f11.f11.f11.f11.f11)
            · (try simp only [aI] at h29)
              have oG := fP jR hon hrun h29
              refine aT (aj (ay (ah (aV rfl (aA (aj (aJ (aQ (.inl rfl) results37 rfl ?_))))))))
              refine ⟨rfl, ?_⟩
              first
                | exact absurd (hw2.symm.trans hwh) (by decide)
                | exact absurd (hwh.symm.trans hw2) (by decide)
                | (rw [oG]; exact aB.dW dF bK H67.f11.f11.f11.f11.f11.f11.f11.f11.f11.f11.f11)
        · (try simp only [aI] at h26)
          have hw2 : s.whole = false := by simpa using h26
          have hrun : (s.typed && (!s.put.isEmpty || s.c.run)) = false := by first | exact absurd (hwh.symm.trans hw2) (by decide) | (rw [hty]; rfl)
          refine bF (bF (nU (nU (nU (nU (nU (bF (iU rfl rfl (bP rfl (bg 0 underlying69 rfl sizeOf64 rfl (bg 10 underlying64 rfl sizeOf4 rfl (aG (aS 10 (l' := [_, _, _, _, _, _, _, _, _, _, _, _, _, _, _, _, _, _, _, _, _, _, _, _, _, _, _, _, _, _, _, _, _, _]) dY sizeOf4 rfl rfl (by first | rfl | assumption) rfl rfl) ?_))))))))))))
          rintro _ w70 Yb
          refine aA (aj (ay (ah (aN rfl (aN rfl (bP rfl (bg 28 underlying69 rfl sizeOf3 rfl (dO underlying3 rfl (Yb).get.2 rfl (bP rfl (bg 0 underlying69 rfl sizeOf64 rfl (bg 6 underlying64 rfl sizeOf3 rfl (aG (aS 6 (l' := [_, _, _, _, _, _, _, _, _, _, _, _, _, _, _, _, _, _, _, _, _, _, _, _, _, _, _, _, _, _, _, _, _, _]) Yb sizeOf3 rfl rfl (by first | rfl | assumption) rfl rfl) ?_))))))))))))
          rintro _ w71 WG
          refine aA (aj (ay (ay (ah (aN rfl (bP rfl (bg 28 underlying69 rfl sizeOf3 rfl (dO underlying3 rfl (WG).get.2 rfl (aU (dZ rfl rfl) (aA (aj (aP rfl (fun h30 => ?_) (fun h30 => ?_)))))))))))))
          · (try simp only [aI] at h30)
            have oG := gW jR hon hrun h30
            refine ah (aN rfl (aN rfl (bP rfl (bg 0 underlying69 rfl sizeOf64 rfl (bg 7 underlying64 rfl sizeOf3 rfl (aG (aS 7 (l' := [_, _, _, _, _, _, _, _, _, _, _, _, _, _, _, _, _, _, _, _, _, _, _, _, _, _, _, _, _, _, _, _, _, _]) WG sizeOf3 rfl rfl (by first | rfl | assumption) rfl rfl) ?_))))))
            rintro _ w72 H72
            refine bP rfl (bg 0 underlying69 rfl sizeOf64 rfl (bg 8 underlying64 rfl sizeOf3 rfl (aG (aS 8 (l' := [_, _, _, _, _, _, _, _, _, _, _, _, _, _, _, _, _, _, _, _, _, _, _, _, _, _, _, _, _, _, _, _, _, _]) H72 sizeOf3 rfl rfl (by first | rfl | assumption) rfl rfl) ?_)))
            rintro _ w73 H73
            refine aA (aj (ay (ah (aV rfl (aA (aj (aJ (aQ (.inl rfl) results37 rfl ?_))))))))
            refine ⟨rfl, ?_⟩
            first
              | exact absurd (hw2.symm.trans hwh) (by decide)
              | exact absurd (hwh.symm.trans hw2) (by decide)
              | (rw [oG]; exact aB.dW dF bK H73.f11.f11.f11.f11.f11.f11.f11.f11.f11.f11.f11)
          · (try simp only [aI] at h30)
            have oG := fP jR hon hrun h30
            refine aT (aj (ay (ah (aV rfl (aA (aj (aJ (aQ (.inl rfl) results37 rfl ?_))))))))
            refine ⟨rfl, ?_⟩
            first
              | exact absurd (hw2.symm.trans hwh) (by decide)
              | exact absurd (hwh.symm.trans hw2) (by decide)
              | (rw [oG]; exact aB.dW dF bK WG.f11.f11.f11.f11.f11.f11.f11.f11.f11.f11.f11)
    · (try simp only [aI] at h19)
      have hty : s.typed = false := by unfold bG.typed; rw [beq_false_of_ne h19]; rfl
      have hrun : (s.typed && (!s.put.isEmpty || s.c.run)) = false := by rw [hty]; rfl
      refine Ap 6 rfl rfl rfl rfl (by kernel_rfl) (by kernel_rfl) dM (lT rfl) ?_
      refine Ap 7 rfl rfl rfl rfl (by kernel_rfl) (by kernel_rfl) dM (lT rfl) ?_
      refine Ap 8 rfl rfl rfl rfl (by kernel_rfl) (by kernel_rfl) dM (lT rfl) ?_
      refine Ap 9 rfl rfl rfl rfl (by kernel_rfl) (by kernel_rfl) dM (lT rfl) ?_
      refine iJ 10 rfl dM (fun _ => CO rfl rfl) (gQ 11 rfl dM rfl (iQ 12 rfl dM rfl (dR 13 rfl dM 33 underlying69 rfl sizeOf67 rfl (gY 14 rfl dM (fun W hW => iH underlying67 rfl ((Kp.h hW)).get.2 rfl) (iJ 15 rfl dM (fun _ => fM ((yt.f9).aO) underlying67 rfl) (iJ 16 rfl dM (fun _ => fZ rfl rfl) (iJ 17 rfl dM (fun _ => eP rfl) (iJ 18 rfl dM (fun _ => eP rfl) (nT (aj (ay (ah (aN rfl (aN rfl (aN rfl (bF (bF (bF (bF (bF (iU rfl rfl ?_)))))))))))))))))))))
      have aaJ := yt.f11.right
      have HW0 := aB.yc (c := s.was) (u := [mD, mF, mG, mJ, mM, mO, mP, mQ, mV, mW, mX]) aaJ
      obtain ⟨s1, jR, Rn⟩ : ∃ s1, s1 = s.gI ∧ aB w0 (w3.drew) (dK e s1 • F) := ⟨_, hs1, aB.dW (hs1 ▸ qI dF) bK HW0.f11.f11.f11.f11.f11.f11.f11.f11.f11.f11⟩
      have hr1 : s1.c.run = s.c.run := by rw [jR]; unfold bG.gI; split <;> rfl
      refine dw rfl func83 (jQ Rn) ?_
      rintro _ w75 H75
      obtain ⟨on, hon, HZ⟩ : ∃ on, (s.typed && s.c.run) = on ∧ aB w0 w75 (dK e (s1.dB on) • F) := ⟨_, by rw [hty]; rfl, H75⟩
      refine aA (aj (ay ?_))
      obtain ⟨qj, ql, qo, qp, qx, qy, qA, qB, nY, mD, mF, mG, mJ, mM, mO, mP, mQ, mV, mW, mX, dF, bK, gV, dY⟩ := (HZ).DR
      refine ah (aN rfl (aN rfl (aN rfl (bF (bF (nU (nU (nU (nU (nU (bF (iU rfl rfl (bP rfl (bg 0 underlying69 rfl sizeOf64 rfl (bg 10 underlying64 rfl sizeOf4 rfl (aG (aS 10 (l' := [_, _, _, _, _, _, _, _, _, _, _, _, _, _, _, _, _, _, _, _, _, _, _, _, _, _, _, _, _, _, _, _, _, _]) dY sizeOf4 rfl rfl (by first | rfl | assumption) rfl rfl) ?_))))))))))))))))
      rintro _ w77 H77
      refine aA (aj (ay (ah (aN rfl (aN rfl (bP rfl (bg 28 underlying69 rfl sizeOf3 rfl (dO underlying3 rfl (H77).get.2 rfl (bP rfl (bg 0 underlying69 rfl sizeOf64 rfl (bg 6 underlying64 rfl sizeOf3 rfl (aG (aS 6 (l' := [_, _, _, _, _, _, _, _, _, _, _, _, _, _, _, _, _, _, _, _, _, _, _, _, _, _, _, _, _, _, _, _, _, _]) H77 sizeOf3 rfl rfl (by first | rfl | assumption) rfl rfl) ?_))))))))))))
      rintro _ w78 H78
      refine aA (aj (ay (ay (ah (aN rfl (bP rfl (bg 28 underlying69 rfl sizeOf3 rfl (dO underlying3 rfl (H78).get.2 rfl (aU (dZ rfl rfl) (aA (aj (aP rfl (fun h31 => ?_) (fun h31 => ?_)))))))))))))
      · (try simp only [aI] at h31)
        have oG := gW jR hon hrun h31
        refine ah (aN rfl (aN rfl (bP rfl (bg 0 underlying69 rfl sizeOf64 rfl (bg 7 underlying64 rfl sizeOf3 rfl (aG (aS 7 (l' := [_, _, _, _, _, _, _, _, _, _, _, _, _, _, _, _, _, _, _, _, _, _, _, _, _, _, _, _, _, _, _, _, _, _]) H78 sizeOf3 rfl rfl (by first | rfl | assumption) rfl rfl) ?_))))))
        rintro _ w79 H79
        refine bP rfl (bg 0 underlying69 rfl sizeOf64 rfl (bg 8 underlying64 rfl sizeOf3 rfl (aG (aS 8 (l' := [_, _, _, _, _, _, _, _, _, _, _, _, _, _, _, _, _, _, _, _, _, _, _, _, _, _, _, _, _, _, _, _, _, _]) H79 sizeOf3 rfl rfl (by first | rfl | assumption) rfl rfl) ?_)))
        rintro _ w80 H80
        refine aA (aj (ay (ah (aV rfl (aA (aj (aJ (aQ (.inl rfl) results37 rfl ?_))))))))
        refine ⟨rfl, ?_⟩
        first
          | exact absurd (hw2.symm.trans hwh) (by decide)
          | exact absurd (hwh.symm.trans hw2) (by decide)
          | (rw [oG]; exact aB.dW dF bK H80.f11.f11.f11.f11.f11.f11.f11.f11.f11.f11.f11)
      · (try simp only [aI] at h31)
        have oG := fP jR hon hrun h31
        refine aT (aj (ay (ah (aV rfl (aA (aj (aJ (aQ (.inl rfl) results37 rfl ?_))))))))
        refine ⟨rfl, ?_⟩
        first
          | exact absurd (hw2.symm.trans hwh) (by decide)
          | exact absurd (hwh.symm.trans hw2) (by decide)
          | (rw [oG]; exact aB.dW dF bK H78.f11.f11.f11.f11.f11.f11.f11.f11.f11.f11.f11)
theorem Fq {s : bG} {x : Int} (hin : s.inn = true) (hx : x ≠ 0) : s.nR x = s.xY ∧ s.zW x = x := by
  unfold bG.nR bG.zW
  rw [if_pos hin, if_neg hx, if_pos hin]; exact ⟨rfl, rfl⟩
theorem Ro {s : bG} (h : jV s) (hin : s.inn = true) : jV s.xY := by
  obtain ⟨h1, h2, h3⟩ := h.2.1 hin
  exact ⟨h1, fun h => Bool.noConfusion h, ⟨by show (-1 : Int) ≤ -1; decide, by show (-1 : Int) ≤ 1000000; decide⟩, by simp [bG.xY], h2, h3⟩
theorem Lc (hin : s.inn = true) (hx : x ≠ 0) (H : aB w0 w (dK e s • F)) : fE prog 37 #[.pointer (some ⟨e, 0, none⟩), .int .i64 x] w fun v w' => v = .int .i64 x ∧ aB w0 w' (dK e s.xY • F) := by
 have hpe : s.uz = 0 := by unfold bG.uz; rw [if_pos hin]
 refine gy func37 ntmps37 ?_
 dsimp only [aY, Nat.reduceAdd]
 refine ay (ah (aV rfl (aA (aj (ay (ay (ah (aN rfl (dw rfl func81 (kM H) ?_)))))))))
 rintro _ _ ⟨rfl, rfl⟩
 refine aV rfl (aA (aj (ay (ah (aN rfl (aU (dZ rfl rfl) (aA (aj (aP rfl (fun h => by exfalso; (try simp only [aI] at h); exact h hpe) (fun h1 => ?_))))))))))
 (try simp only [aI] at h1)
 refine aT (aj (ay ?_))
 obtain ⟨qj, ql, qo, qp, qx, qy, qA, qB, nY, mD, mF, mG, mJ, mM, mO, mP, mQ, mV, mW, mX, dF, bK, gV, dY⟩ := (H).DR
 have HI := dY
 rw [hin] at HI
 obtain ⟨qb, qr, qw, qt, qm, hu, HW⟩ := (HI.f11).was
 simp only [Jg, List.cons.injEq, and_true] at hu
 obtain ⟨rfl, rfl, rfl, rfl, rfl, rfl, rfl, rfl, rfl, rfl, rfl⟩ := hu
 refine ah (aN rfl (bP rfl (bg 16 underlying69 rfl sizeOf4 rfl (aG (aS 16 (l' := [_, _, _, _, _, _, _, _, _, _, _, _, _, _, _, _, _, _, _, _, _, _, _, _, _, _, _, _, _, _, _, _, _, _]) HW.f6 sizeOf4 rfl rfl (by first | rfl | assumption) rfl rfl) ?_))))
 rintro _ w3 H3
 refine aA (aj (ay (ay (ah (aN rfl (bP rfl (bg 31 underlying69 rfl sizeOf4 rfl (dO underlying4 rfl (H3).get.2 rfl (aU (kJ rfl) (jy rfl (fun h2 => ?_) (fun h2 => ?_)))))))))))
 ·(try simp only [aI] at h2)
  refine bF (bF (jw rfl rfl (aA (aj (xg (ah (aN rfl (aN rfl (aN rfl (bP rfl (bg 13 underlying69 rfl sizeOf4 rfl (aG (aS 13 (l' := [_, _, _, _, _, _, _, _, _, _, _, _, _, _, _, _, _, _, _, _, _, _, _, _, _, _, _, _, _, _, _, _, _, _]) H3 sizeOf4 rfl rfl (by first | rfl | assumption) rfl rfl) ?_))))))))))))
  rintro _ w4 H4
  refine bP rfl (bg 14 underlying69 rfl sizeOf4 rfl (aG (aS 14 (l' := [_, _, _, _, _, _, _, _, _, _, _, _, _, _, _, _, _, _, _, _, _, _, _, _, _, _, _, _, _, _, _, _, _, _]) H4 sizeOf4 rfl rfl (by first | rfl | assumption) rfl rfl) ?_))
  rintro _ w5 H5
  refine bP rfl (bg 15 underlying69 rfl sizeOf3 rfl (aG (aS 15 (l' := [_, _, _, _, _, _, _, _, _, _, _, _, _, _, _, _, _, _, _, _, _, _, _, _, _, _, _, _, _, _, _, _, _, _]) H5 sizeOf3 rfl rfl (by first | rfl | assumption) rfl rfl) ?_))
  rintro _ w6 H6
  refine aA (aj (ay (ay (ah (aN rfl (aU (dZ rfl rfl) (aA (aj (aP rfl (fun h3 => ?_) (fun h => by exfalso; (try simp only [aI] at h); exact hx h))))))))))
  (try simp only [aI] at h3)
  refine ay (ah (aN rfl (aN rfl (bP rfl (bg 17 underlying69 rfl sizeOf64 rfl (aU (oQ 17 (xs := [_, _, _, _, _, _, _, _, _, _, _]) underlying64 rfl sizeOf64 rfl rfl (H6).get.2 rfl) (bP rfl (bg 0 underlying69 rfl sizeOf64 rfl (aG (bn 0 (l' := [_, _, _, _, _, _, _, _, _, _, _, _, _, _, _, _, _, _, _, _, _, _, _, _, _, _, _, _, _, _, _, _, _, _]) (us := [_, _, _, _, _, _, _, _, _, _, _]) H6 sizeOf64 rfl rfl rfl (aC (by first | rfl | assumption) (aC (by first | rfl | assumption) (aC (by first | rfl | assumption) (aC (by first | rfl | assumption) (aC (by first | rfl | assumption) (aC (by first | rfl | assumption) (aC (by first | rfl | assumption) (aC (by first | rfl | assumption) (aC (by first | rfl | assumption) (aC (by first | rfl | assumption) (aC (by first | rfl | assumption) aZ))))))))))) rfl rfl) ?_)))))))))
  rintro _ w7 H7
  refine aA (aj (ay (ah (aN rfl (bP rfl (bg 12 underlying69 rfl sizeOf66 rfl (dO underlying66 rfl (H7).get.2 rfl (dw rfl func82 (zo H7.f13) ?_))))))))
  rintro _ w8 ⟨rfl, H8⟩
  refine aA (aj (ay (ah (aN rfl (aN rfl (aN rfl (aN rfl (bP rfl (bg 0 underlying69 rfl sizeOf64 rfl (bg 6 underlying64 rfl sizeOf3 rfl (aG (aS 6 (l' := [_, _, _, _, _, _, _, _, _, _, _, _, _, _, _, _, _, _, _, _, _, _, _, _, _, _, _, _, _, _, _, _, _, _]) H8.f2 sizeOf3 rfl rfl (by first | rfl | assumption) rfl rfl) ?_)))))))))))
  rintro _ w9 H9
  refine bP rfl (bg 0 underlying69 rfl sizeOf64 rfl (bg 7 underlying64 rfl sizeOf3 rfl (aG (aS 7 (l' := [_, _, _, _, _, _, _, _, _, _, _, _, _, _, _, _, _, _, _, _, _, _, _, _, _, _, _, _, _, _, _, _, _, _]) H9 sizeOf3 rfl rfl (by first | rfl | assumption) rfl rfl) ?_)))
  rintro _ w10 qH
  refine bP rfl (bg 0 underlying69 rfl sizeOf64 rfl (bg 8 underlying64 rfl sizeOf3 rfl (aG (aS 8 (l' := [_, _, _, _, _, _, _, _, _, _, _, _, _, _, _, _, _, _, _, _, _, _, _, _, _, _, _, _, _, _, _, _, _, _]) qH sizeOf3 rfl rfl (by first | rfl | assumption) rfl rfl) ?_)))
  rintro _ Hr uQ
  refine bP rfl (bg 33 underlying69 rfl sizeOf67 rfl (aG (aS 33 (l' := [_, _, _, _, _, _, _, _, _, _, _, _, _, _, _, _, _, _, _, _, _, _, _, _, _, _, _, _, _, _, _, _, _, _]) uQ sizeOf67 rfl rfl (by first | rfl | assumption) rfl rfl) ?_))
  rintro _ w12 uf
  refine aA (aj (ay (ah (aN rfl (aV rfl (aA (aj (aJ (aK (aQ (.inl rfl) results37 rfl ?_))))))))))
  exact ⟨rfl, aB.KW (s := s.xY) (Ro dF hin) rfl rfl uf.f8.right.f8.right.f8.right.f8.right.f8.right.f9.right.f9.right.f2.f8.f8.f8.f8.f8.f8.f8⟩
 ·(try simp only [aI] at h2)
  refine bC (aN rfl (bC (aU (dZ rfl rfl) (iU rfl rfl (aA (aj (aP rfl (fun h4 => ?_) (fun h => by exfalso; (try simp only [aI] at h); exact hx h))))))))
  (try simp only [aI] at h4)
  refine ah (aN rfl (aN rfl (aN rfl (bP rfl (bg 13 underlying69 rfl sizeOf4 rfl (aG (aS 13 (l' := [_, _, _, _, _, _, _, _, _, _, _, _, _, _, _, _, _, _, _, _, _, _, _, _, _, _, _, _, _, _, _, _, _, _]) H3 sizeOf4 rfl rfl (by first | rfl | assumption) rfl rfl) ?_))))))
  rintro _ NY xC
  refine bP rfl (bg 14 underlying69 rfl sizeOf4 rfl (aG (aS 14 (l' := [_, _, _, _, _, _, _, _, _, _, _, _, _, _, _, _, _, _, _, _, _, _, _, _, _, _, _, _, _, _, _, _, _, _]) xC sizeOf4 rfl rfl (by first | rfl | assumption) rfl rfl) ?_))
  rintro _ NZ yB
  refine bP rfl (bg 15 underlying69 rfl sizeOf3 rfl (aG (aS 15 (l' := [_, _, _, _, _, _, _, _, _, _, _, _, _, _, _, _, _, _, _, _, _, _, _, _, _, _, _, _, _, _, _, _, _, _]) yB sizeOf3 rfl rfl (by first | rfl | assumption) rfl rfl) ?_))
  rintro _ PY wC
  refine aA (aj (ay (ay (ah (aN rfl (aU (dZ rfl rfl) (aA (aj (aP rfl (fun h5 => ?_) (fun h => by exfalso; (try simp only [aI] at h); exact hx h))))))))))
  (try simp only [aI] at h5)
  refine ay (ah (aN rfl (aN rfl (bP rfl (bg 17 underlying69 rfl sizeOf64 rfl (aU (oQ 17 (xs := [_, _, _, _, _, _, _, _, _, _, _]) underlying64 rfl sizeOf64 rfl rfl (wC).get.2 rfl) (bP rfl (bg 0 underlying69 rfl sizeOf64 rfl (aG (bn 0 (l' := [_, _, _, _, _, _, _, _, _, _, _, _, _, _, _, _, _, _, _, _, _, _, _, _, _, _, _, _, _, _, _, _, _, _]) (us := [_, _, _, _, _, _, _, _, _, _, _]) wC sizeOf64 rfl rfl rfl (aC (by first | rfl | assumption) (aC (by first | rfl | assumption) (aC (by first | rfl | assumption) (aC (by first | rfl | assumption) (aC (by first | rfl | assumption) (aC (by first | rfl | assumption) (aC (by first | rfl | assumption) (aC (by first | rfl | assumption) (aC (by first | rfl | assumption) (aC (by first | rfl | assumption) (aC (by first | rfl | assumption) aZ))))))))))) rfl rfl) ?_)))))))))
  rintro _ w16 qY
  refine aA (aj (ay (ah (aN rfl (bP rfl (bg 12 underlying69 rfl sizeOf66 rfl (dO underlying66 rfl (qY).get.2 rfl (dw rfl func82 (zo qY.f13) ?_))))))))
  rintro _ Tz ⟨rfl, yC⟩
  refine aA (aj (ay (ah (aN rfl (aN rfl (aN rfl (aN rfl (bP rfl (bg 0 underlying69 rfl sizeOf64 rfl (bg 6 underlying64 rfl sizeOf3 rfl (aG (aS 6 (l' := [_, _, _, _, _, _, _, _, _, _, _, _, _, _, _, _, _, _, _, _, _, _, _, _, _, _, _, _, _, _, _, _, _, _]) yC.f2 sizeOf3 rfl rfl (by first | rfl | assumption) rfl rfl) ?_)))))))))))
  rintro _ Sv zB
  refine bP rfl (bg 0 underlying69 rfl sizeOf64 rfl (bg 7 underlying64 rfl sizeOf3 rfl (aG (aS 7 (l' := [_, _, _, _, _, _, _, _, _, _, _, _, _, _, _, _, _, _, _, _, _, _, _, _, _, _, _, _, _, _, _, _, _, _]) zB sizeOf3 rfl rfl (by first | rfl | assumption) rfl rfl) ?_)))
  rintro _ PZ uY
  refine bP rfl (bg 0 underlying69 rfl sizeOf64 rfl (bg 8 underlying64 rfl sizeOf3 rfl (aG (aS 8 (l' := [_, _, _, _, _, _, _, _, _, _, _, _, _, _, _, _, _, _, _, _, _, _, _, _, _, _, _, _, _, _, _, _, _, _]) uY sizeOf3 rfl rfl (by first | rfl | assumption) rfl rfl) ?_)))
  rintro _ Sz yD
  refine bP rfl (bg 33 underlying69 rfl sizeOf67 rfl (aG (aS 33 (l' := [_, _, _, _, _, _, _, _, _, _, _, _, _, _, _, _, _, _, _, _, _, _, _, _, _, _, _, _, _, _, _, _, _, _]) yD sizeOf67 rfl rfl (by first | rfl | assumption) rfl rfl) ?_))
  rintro _ TA oV
  refine aA (aj (ay (ah (aN rfl (aV rfl (aA (aj (aJ (aK (aQ (.inl rfl) results37 rfl ?_))))))))))
  exact ⟨rfl, aB.KW (s := s.xY) (Ro dF hin) rfl rfl oV.f8.right.f8.right.f8.right.f8.right.f8.right.f9.right.f9.right.f2.f8.f8.f8.f8.f8.f8.f8⟩
theorem vJ (H : aB w0 w (dK e s • F)) : fE prog 37 #[.pointer (some ⟨e, 0, none⟩), .int .i64 x] w fun v w' => v = .int .i64 (s.zW x) ∧ aB w0 w' (dK e (s.nR x) • F) := by
 by_cases hin : s.inn = true
 ·by_cases hx : x = 0
  ·subst hx
   rw [show s.nR 0 = s.kV from by unfold bG.nR; rw [if_pos hin, if_pos rfl], show s.zW 0 = 0 from by unfold bG.zW; rw [if_pos hin]]
   exact Jr hin H
  ·rw [(Fq hin hx).1, (Fq hin hx).2]
   exact Lc hin hx H
 ·have hin' : s.inn = false := by simpa using hin
  have hpe : s.uz = 1 := by unfold bG.uz; rw [if_neg hin]
  rw [show s.nR x = s from by unfold bG.nR; rw [if_neg hin], show s.zW x = 1 from by unfold bG.zW; rw [if_neg hin]]
  refine gy func37 ntmps37 ?_
  dsimp only [aY, Nat.reduceAdd]
  refine ay (ah (aV rfl (aA (aj (ay (ay (ah (aN rfl (dw rfl func81 (kM H) ?_)))))))))
  rintro _ _ ⟨rfl, rfl⟩
  refine aV rfl (aA (aj (ay (ah (aN rfl (aU (dZ rfl rfl) (aA (aj (aP rfl (fun h1 => ?_) (fun h => by exfalso; (try simp only [aI] at h); rw [hpe] at h; exact absurd h (by decide)))))))))))
  (try simp only [aI] at h1)
  refine ay (ah (aN rfl (aV rfl (aA (aj (aJ (aK (aQ (.inl rfl) results37 rfl ?_))))))))
  rw [hpe]
  exact ⟨rfl, H⟩
end
end Go.Proofs.YtddekefihgejoaaGreatDoor
end
