import Derived.Test.YtgofgnlkpeghcaaGreatDoorZ4
import Derived.Test.YtgofgnlkpeghcaaGreatDoorZ12
import Derived.Test.YtgofgnlkpeghcaaGreatDoorZ5
set_option linter.unusedSimpArgs false
set_option linter.unusedVariables false
/- Texts of mine, joined, their names in short: EdE EdU Owns EdS. -/
section
namespace Go.Proofs.YtgofgnlkpeghcaaGreatDoor
open Go.RowKit
open _root_.Go.Proofs.Tryz
theorem Ej (s : dw) (on : Bool) : (s.fM on).c.run = s.c.run := by unfold dw.fM; split <;> rfl
theorem OL (s : dw) (on : Bool) : (s.fM on).cls = s.cls := by unfold dw.fM; split <;> rfl
theorem nI {s s1 : dw} {on run : Bool} (h1 : s1 = s.lG) (hon : (s.typed && s.c.run) = on) (hrun : (s.typed && (!s.put.isEmpty || s.c.run)) = run) (h2 : (s1.fM on).cls ≠ 2) :
    s.oJ = { s1.fM on with c := { (s1.fM on).c with run := run, last := (s1.fM on).cls, fr := 0, to := 0 } } := by
  subst h1 hon hrun
  have hc : (s.lG.fM (s.typed && s.c.run)).cls = s.cls := by rw [OL]; unfold dw.lG; split <;> rfl
  unfold dw.oJ
  rw [hc] at h2 ⊢
  dsimp only
  rw [if_pos h2]
theorem lT {s s1 : dw} {on run : Bool} (h1 : s1 = s.lG) (hon : (s.typed && s.c.run) = on) (hrun : (s.typed && (!s.put.isEmpty || s.c.run)) = run) (h2 : (s1.fM on).cls = 2) :
    s.oJ = { s1.fM on with c := { (s1.fM on).c with run := run, last := (s1.fM on).cls } } := by
  subst h1 hon hrun
  have hc : (s.lG.fM (s.typed && s.c.run)).cls = s.cls := by rw [OL]; unfold dw.lG; split <;> rfl
  unfold dw.oJ
  rw [hc] at h2 ⊢
  dsimp only
  rw [if_neg (by omega)]
theorem zk {s : dw} (h : pz s) : pz s.lG := by
  obtain ⟨h1, h2, h3, h4, h5, h6⟩ := h
  unfold dw.lG
  split
  · exact ⟨h1, fun h => Bool.noConfusion h, h3, h4, h5, h6⟩
  · exact ⟨h1, fun h => Bool.noConfusion h, ⟨by show (-1 : Int) ≤ -1; decide, by show (-1 : Int) ≤ 1000000; decide⟩, h4, h5, h6⟩
theorem tX {l : List kC} : l.isEmpty = decide (l.length = 0) := by cases l <;> rfl
section
variable {w0 w : World} {F : HP} {e p : Nat} {s : dw} {x : Int}
theorem U6 (hin : s.inn = true) (H : V w0 w (jq e s • F)) : iM prog 23 #[.pointer (some ⟨e, 0, none⟩), .int .i64 0] w fun v w' => v = .int .i64 0 ∧ V w0 w' (jq e s.oJ • F) := by
  have hpe : s.DI = 0 := by unfold dw.DI; rw [if_pos hin]
  refine qI func23 ntmps23 ?_
  refine kQ O (aO (bY O (fE O func57 (uN H) ?_)))
  rintro _ _ ⟨rfl, rfl⟩
  refine iP O (bY O (aW (gy O O) (jv O (fun h => by exfalso; (try simp only [aF] at h); exact h hpe) (fun h1 => ?_))))
  (try simp only [aF] at h1)
  refine iy (aO ?_)
  obtain ⟨Ap, Aq, Ar, Au, Aw, Az, AA, AB, yE, xk, xq, xu, xw, xA, xB, xC, xE, xG, xH, xI, jf, dX, nG, kF⟩ := (H).Ox
  refine aA (mJ O O (bn 16 ah O aQ O (aI (gV 16 kF aQ) ?_)))
  rintro _ w3 H3
  refine rV (bY O (dO O (bn 31 ah O aQ O (fB cZ O (H3).get.2 O (aW (mG O) (mX O (fun h2 => ?_) (fun h2 => ?_)))))))
  · (try simp only [aF] at h2)
    have har : s.argues = false := by simpa using h2
    have hs1 : ({ s.zU with inn := false } : dw) = s.lG := by unfold dw.lG; rw [if_neg (by simp [har])]
    refine dF (dF (nZ O O (jd (GV (aA (jy O O (mJ O O (bn 13 ah O aQ O (aI (gV 13 H3 aQ) ?_)))))))))
    rintro _ w4 H4
    refine dO O (bn 14 ah O aQ O (aI (gV 14 H4 aQ) ?_))
    rintro _ w5 H5
    refine dO O (bn 15 ah O aj O (aI (gV 15 H5 aj) ?_))
    rintro _ w6 H6
    refine rV (bY O (aW (gy O O) (jd (Ip O (fun h3 => ?_)))))
    (try simp only [aF] at h3)
    refine iy (aO ?_)
    have GH := H6.drew
    have lM := V.kp (GH.f11.f11.f11.f11.f11.f11.f11.f11.f11.f11.f11)
    refine uU [3, 9, 14] lM O (gQ 0 O lM O (jQ 1 O lM O (fQ 2 O lM 28 ah O aj O (iO 3 O lM (fun W hW => jT aB O ((Kp.h hW)).get.2 O) (iL 4 O lM (fun _ => kP O O) ?_)))))
    refine Dv 5 O O (by kernel_rfl) (by kernel_rfl) lM (lI O) (fun h4 => ?_) (fun h4 => ?_)
    · (try simp only [aF] at h4)
      have hc3 : s.cls = 3 := h4
      refine fC 6 O O O (by kernel_rfl) (by kernel_rfl) lM (fun _ => wI O) (lI O) ?_
      refine fC 7 O O O (by kernel_rfl) (by kernel_rfl) lM (fun _ => XH O) (lI O) ?_
      refine fC 8 O O O (by kernel_rfl) (by kernel_rfl) lM (fun _ => Nu 32 ah O O aQ (by decide) O rfl) (lI O) ?_
      refine sH 9 O O O (by kernel_rfl) (by kernel_rfl) lM (by decide) (fun W hW => eG (dn cZ O) O (nN ((Kp.h hW)).get.2 O)) (lI O) ?_
      refine iL 10 O lM (fun _ => zK O O) (gQ 11 O lM O (jQ 12 O lM O (fQ 13 O lM 33 ah O bG O (iO 14 O lM (fun W hW => jT aV O ((Kp.h hW)).get.2 O) (iL 15 O lM (fun _ => fV ((GH.f9).aN) aV O) (iL 16 O lM (fun _ => iT O O) (iL 17 O lM (fun _ => fU O) (iL 18 O lM (fun _ => fU O) (qj (aZ (bY O (bT O (mX O (fun h5 => ?_) (fun h5 => ?_))))))))))))))
      · (try simp only [aF] at h5)
        have hwh : s.whole = true := h5
        have hty : s.typed = true := by unfold dw.typed; rw [hc3, hwh]; rfl
        refine bW (bT O (bW (dO O (bW (bn 0 ah O aS O (bW (bn 10 aK O aQ O (bW (fB cZ O (GH).get.2 O (nZ O O ?_))))))))))
        have hwo := DL (GH.f11)
        have LQ := GH.f11.right
        have HW0 := V.Ht (c := s.was) (u := [xk, xq, xu, xw, xA, xB, xC, xE, xG, xH, xI]) LQ hwo
        obtain ⟨s1, sZ, HS1⟩ : ∃ s1, s1 = s.lG ∧ V w0 (w6.drew) (jq e s1 • F) := ⟨_, hs1, V.jX (hs1 ▸ zk jf) dX HW0.f11.f11.f11.f11.f11.f11.f11.f11.f11.f11⟩
        have hr1 : s1.c.run = s.c.run := by rw [sZ]; unfold dw.lG; split <;> rfl
        refine fE O func59 (sW HS1) ?_
        rintro _ w8 H8
        obtain ⟨on, hon, HZ⟩ : ∃ on, (s.typed && s.c.run) = on ∧ V w0 w8 (jq e (s1.fM on) • F) := ⟨_, by rw [hty]; rfl, H8⟩
        refine rV ?_
        obtain ⟨Ap, Aq, Ar, Au, Aw, Az, AA, AB, yE, xk, xq, xu, xw, xA, xB, xC, xE, xG, xH, xI, jf, dX, nG, kF⟩ := (HZ).Ox
        refine aA (jy O O (mX O (fun h6 => ?_) (fun h6 => ?_)))
        · (try simp only [aF] at h6)
          have hw2 : s.whole = true := h6
          refine bW (bT O (bW (mX O (fun h7 => ?_) (fun h7 => ?_))))
          · (try simp only [aF] at h7)
            have hrun : (s.typed && (!s.put.isEmpty || s.c.run)) = true := by first | exact absurd (hw2.symm.trans hwh) (by decide) | (rw [tX, decide_eq_false (show ¬ s.put.length = 0 by omega), hty]; rfl)
            refine dF (dF (dF (dF (dF (bW (nZ O O (nZ O O (dO O (bn 0 ah O aS O (bn 10 aK O aQ O (aI (gV 10 kF aQ) ?_)))))))))))
            rintro _ w10 sF
            refine ql O (mJ O O (bn 28 ah O aj O (fB aB O (sF).get.2 O (dO O (bn 0 ah O aS O (bn 6 aK O aj O (aI (gV 6 sF aj) ?_)))))))
            rintro _ Iq sG
            refine rV (bY O (dO O (bn 28 ah O aj O (fB aB O (sG).get.2 O (aW (gy O O) (jv O (fun h8 => ?_) (fun h8 => ?_)))))))
            · (try simp only [aF] at h8)
              have zn := nI sZ hon hrun h8
              refine aA (jy O O (dO O (bn 0 ah O aS O (bn 7 aK O aj O (aI (gV 7 sG aj) ?_)))))
              rintro _ w12 tN
              refine dO O (bn 0 ah O aS O (bn 8 aK O aj O (aI (gV 8 tN aj) ?_)))
              rintro _ Qz Ak
              refine jd (mP O (fD fZ O ?_))
              refine ⟨O, ?_⟩
              first
                | exact absurd (hw2.symm.trans hwh) (by decide)
                | exact absurd (hwh.symm.trans hw2) (by decide)
                | (rw [zn]; exact V.jX jf dX Ak.f11.f11.f11.f11.f11.f11.f11.f11.f11.f11.f11)
            · (try simp only [aF] at h8)
              have zn := lT sZ hon hrun h8
              refine iy (mP O (fD fZ O ?_))
              refine ⟨O, ?_⟩
              first
                | exact absurd (hw2.symm.trans hwh) (by decide)
                | exact absurd (hwh.symm.trans hw2) (by decide)
                | (rw [zn]; exact V.jX jf dX sG.f11.f11.f11.f11.f11.f11.f11.f11.f11.f11.f11)
          · (try simp only [aF] at h7)
            have hrun : (s.typed && (!s.put.isEmpty || s.c.run)) = (s1.fM on).c.run := by first | exact absurd (hw2.symm.trans hwh) (by decide) | (rw [tX, decide_eq_true (show s.put.length = 0 by omega), hty, Ej, hr1]; rfl)
            refine bW (bT O (bW (dO O (bW (bn 0 ah O aS O (bW (bn 10 aK O aQ O (bW (fB cZ O (kF).get.2 O (bW (kX O O (nZ O O (dO O (bn 0 ah O aS O (bn 10 aK O aQ O (aI (gV 10 kF aQ) ?_))))))))))))))))
            rintro _ TL Dh
            refine ql O (mJ O O (bn 28 ah O aj O (fB aB O (Dh).get.2 O (dO O (bn 0 ah O aS O (bn 6 aK O aj O (aI (gV 6 Dh aj) ?_)))))))
            rintro _ Ws CG
            refine rV (bY O (dO O (bn 28 ah O aj O (fB aB O (CG).get.2 O (aW (gy O O) (jv O (fun h9 => ?_) (fun h9 => ?_)))))))
            · (try simp only [aF] at h9)
              have zn := nI sZ hon hrun h9
              refine aA (jy O O (dO O (bn 0 ah O aS O (bn 7 aK O aj O (aI (gV 7 CG aj) ?_)))))
              rintro _ w16 yj
              refine dO O (bn 0 ah O aS O (bn 8 aK O aj O (aI (gV 8 yj aj) ?_)))
              rintro _ w17 EH
              refine jd (mP O (fD fZ O ?_))
              refine ⟨O, ?_⟩
              first
                | exact absurd (hw2.symm.trans hwh) (by decide)
                | exact absurd (hwh.symm.trans hw2) (by decide)
                | (rw [zn]; exact V.jX jf dX EH.f11.f11.f11.f11.f11.f11.f11.f11.f11.f11.f11)
            · (try simp only [aF] at h9)
              have zn := lT sZ hon hrun h9
              refine iy (mP O (fD fZ O ?_))
              refine ⟨O, ?_⟩
              first
                | exact absurd (hw2.symm.trans hwh) (by decide)
                | exact absurd (hwh.symm.trans hw2) (by decide)
                | (rw [zn]; exact V.jX jf dX CG.f11.f11.f11.f11.f11.f11.f11.f11.f11.f11.f11)
        · (try simp only [aF] at h6)
          have hw2 : s.whole = false := by simpa using h6
          have hrun : (s.typed && (!s.put.isEmpty || s.c.run)) = false := by first | exact absurd (hwh.symm.trans hw2) (by decide) | (rw [hty]; rfl)
          refine dF (dF (uT (uT (uT (uT (uT (dF (kX O O (dO O (bn 0 ah O aS O (bn 10 aK O aQ O (aI (gV 10 kF aQ) ?_))))))))))))
          rintro _ ZN EM
          refine ql O (mJ O O (bn 28 ah O aj O (fB aB O (EM).get.2 O (dO O (bn 0 ah O aS O (bn 6 aK O aj O (aI (gV 6 EM aj) ?_)))))))
          rintro _ ZO DY
          refine rV (bY O (dO O (bn 28 ah O aj O (fB aB O (DY).get.2 O (aW (gy O O) (jv O (fun h10 => ?_) (fun h10 => ?_)))))))
          · (try simp only [aF] at h10)
            have zn := nI sZ hon hrun h10
            refine aA (jy O O (dO O (bn 0 ah O aS O (bn 7 aK O aj O (aI (gV 7 DY aj) ?_)))))
            rintro _ YT EI
            refine dO O (bn 0 ah O aS O (bn 8 aK O aj O (aI (gV 8 EI aj) ?_)))
            rintro _ YU wG
            refine jd (mP O (fD fZ O ?_))
            refine ⟨O, ?_⟩
            first
              | exact absurd (hw2.symm.trans hwh) (by decide)
              | exact absurd (hwh.symm.trans hw2) (by decide)
              | (rw [zn]; exact V.jX jf dX wG.f11.f11.f11.f11.f11.f11.f11.f11.f11.f11.f11)
          · (try simp only [aF] at h10)
            have zn := lT sZ hon hrun h10
            refine iy (mP O (fD fZ O ?_))
            refine ⟨O, ?_⟩
            first
              | exact absurd (hw2.symm.trans hwh) (by decide)
              | exact absurd (hwh.symm.trans hw2) (by decide)
              | (rw [zn]; exact V.jX jf dX DY.f11.f11.f11.f11.f11.f11.f11.f11.f11.f11.f11)
      · (try simp only [aF] at h5)
        have hwh : s.whole = false := by simpa using h5
        have hty : s.typed = false := by unfold dw.typed; rw [hc3, hwh]; rfl
        have hrun : (s.typed && (!s.put.isEmpty || s.c.run)) = false := by rw [hty]; rfl
        refine dF (dF (dF (dF (dF (kX O O ?_)))))
        have hwo := DL (GH.f11)
        have LW := GH.f11.right
        have HW0 := V.Ht (c := s.was) (u := [xk, xq, xu, xw, xA, xB, xC, xE, xG, xH, xI]) LW hwo
        obtain ⟨s1, sZ, HS1⟩ : ∃ s1, s1 = s.lG ∧ V w0 (w6.drew) (jq e s1 • F) := ⟨_, hs1, V.jX (hs1 ▸ zk jf) dX HW0.f11.f11.f11.f11.f11.f11.f11.f11.f11.f11⟩
        have hr1 : s1.c.run = s.c.run := by rw [sZ]; unfold dw.lG; split <;> rfl
        refine fE O func59 (sW HS1) ?_
        rintro _ YV DC
        obtain ⟨on, hon, HZ⟩ : ∃ on, (s.typed && s.c.run) = on ∧ V w0 YV (jq e (s1.fM on) • F) := ⟨_, by rw [hty]; rfl, DC⟩
        refine rV ?_
        obtain ⟨Ap, Aq, Ar, Au, Aw, Az, AA, AB, yE, xk, xq, xu, xw, xA, xB, xC, xE, xG, xH, xI, jf, dX, nG, kF⟩ := (HZ).Ox
        refine aA (jy O O (mX O (fun h11 => ?_) (fun h11 => ?_)))
        · (try simp only [aF] at h11)
          have hw2 : s.whole = true := h11
          refine bW (bT O (bW (mX O (fun h12 => ?_) (fun h12 => ?_))))
          · (try simp only [aF] at h12)
            have hrun : (s.typed && (!s.put.isEmpty || s.c.run)) = true := by first | exact absurd (hw2.symm.trans hwh) (by decide) | (rw [tX, decide_eq_false (show ¬ s.put.length = 0 by omega), hty]; rfl)
            refine dF (dF (dF (dF (dF (bW (nZ O O (nZ O O (dO O (bn 0 ah O aS O (bn 10 aK O aQ O (aI (gV 10 kF aQ) ?_)))))))))))
            rintro _ w25 NZ
            refine ql O (mJ O O (bn 28 ah O aj O (fB aB O (NZ).get.2 O (dO O (bn 0 ah O aS O (bn 6 aK O aj O (aI (gV 6 NZ aj) ?_)))))))
            rintro _ w26 Gh
            refine rV (bY O (dO O (bn 28 ah O aj O (fB aB O (Gh).get.2 O (aW (gy O O) (jv O (fun h13 => ?_) (fun h13 => ?_)))))))
            · (try simp only [aF] at h13)
              have zn := nI sZ hon hrun h13
              refine aA (jy O O (dO O (bn 0 ah O aS O (bn 7 aK O aj O (aI (gV 7 Gh aj) ?_)))))
              rintro _ w27 JO
              refine dO O (bn 0 ah O aS O (bn 8 aK O aj O (aI (gV 8 JO aj) ?_)))
              rintro _ w28 ZP
              refine jd (mP O (fD fZ O ?_))
              refine ⟨O, ?_⟩
              first
                | exact absurd (hw2.symm.trans hwh) (by decide)
                | exact absurd (hwh.symm.trans hw2) (by decide)
                | (rw [zn]; exact V.jX jf dX ZP.f11.f11.f11.f11.f11.f11.f11.f11.f11.f11.f11)
            · (try simp only [aF] at h13)
              have zn := lT sZ hon hrun h13
              refine iy (mP O (fD fZ O ?_))
              refine ⟨O, ?_⟩
              first
                | exact absurd (hw2.symm.trans hwh) (by decide)
                | exact absurd (hwh.symm.trans hw2) (by decide)
                | (rw [zn]; exact V.jX jf dX Gh.f11.f11.f11.f11.f11.f11.f11.f11.f11.f11.f11)
          · (try simp only [aF] at h12)
            have hrun : (s.typed && (!s.put.isEmpty || s.c.run)) = (s1.fM on).c.run := by first | exact absurd (hw2.symm.trans hwh) (by decide) | (rw [tX, decide_eq_true (show s.put.length = 0 by omega), hty, Ej, hr1]; rfl)
            refine bW (bT O (bW (dO O (bW (bn 0 ah O aS O (bW (bn 10 aK O aQ O (bW (fB cZ O (kF).get.2 O (bW (kX O O (nZ O O (dO O (bn 0 ah O aS O (bn 10 aK O aQ O (aI (gV 10 kF aQ) ?_))))))))))))))))
            rintro _ w29 JQ
            refine ql O (mJ O O (bn 28 ah O aj O (fB aB O (JQ).get.2 O (dO O (bn 0 ah O aS O (bn 6 aK O aj O (aI (gV 6 JQ aj) ?_)))))))
            rintro _ w30 PG
            refine rV (bY O (dO O (bn 28 ah O aj O (fB aB O (PG).get.2 O (aW (gy O O) (jv O (fun h14 => ?_) (fun h14 => ?_)))))))
            · (try simp only [aF] at h14)
              have zn := nI sZ hon hrun h14
              refine aA (jy O O (dO O (bn 0 ah O aS O (bn 7 aK O aj O (aI (gV 7 PG aj) ?_)))))
              rintro _ w31 Rz
              refine dO O (bn 0 ah O aS O (bn 8 aK O aj O (aI (gV 8 Rz aj) ?_)))
              rintro _ w32 Pn
              refine jd (mP O (fD fZ O ?_))
              refine ⟨O, ?_⟩
              first
                | exact absurd (hw2.symm.trans hwh) (by decide)
                | exact absurd (hwh.symm.trans hw2) (by decide)
                | (rw [zn]; exact V.jX jf dX Pn.f11.f11.f11.f11.f11.f11.f11.f11.f11.f11.f11)
            · (try simp only [aF] at h14)
              have zn := lT sZ hon hrun h14
              refine iy (mP O (fD fZ O ?_))
              refine ⟨O, ?_⟩
              first
                | exact absurd (hw2.symm.trans hwh) (by decide)
                | exact absurd (hwh.symm.trans hw2) (by decide)
                | (rw [zn]; exact V.jX jf dX PG.f11.f11.f11.f11.f11.f11.f11.f11.f11.f11.f11)
        · (try simp only [aF] at h11)
          have hw2 : s.whole = false := by simpa using h11
          have hrun : (s.typed && (!s.put.isEmpty || s.c.run)) = false := by first | exact absurd (hwh.symm.trans hw2) (by decide) | (rw [hty]; rfl)
          refine dF (dF (uT (uT (uT (uT (uT (dF (kX O O (dO O (bn 0 ah O aS O (bn 10 aK O aQ O (aI (gV 10 kF aQ) ?_))))))))))))
          rintro _ w33 TM
          refine ql O (mJ O O (bn 28 ah O aj O (fB aB O (TM).get.2 O (dO O (bn 0 ah O aS O (bn 6 aK O aj O (aI (gV 6 TM aj) ?_)))))))
          rintro _ w34 UU
          refine rV (bY O (dO O (bn 28 ah O aj O (fB aB O (UU).get.2 O (aW (gy O O) (jv O (fun h15 => ?_) (fun h15 => ?_)))))))
          · (try simp only [aF] at h15)
            have zn := nI sZ hon hrun h15
            refine aA (jy O O (dO O (bn 0 ah O aS O (bn 7 aK O aj O (aI (gV 7 UU aj) ?_)))))
            rintro _ w35 ZQ
            refine dO O (bn 0 ah O aS O (bn 8 aK O aj O (aI (gV 8 ZQ aj) ?_)))
            rintro _ w36 H36
            refine jd (mP O (fD fZ O ?_))
            refine ⟨O, ?_⟩
            first
              | exact absurd (hw2.symm.trans hwh) (by decide)
              | exact absurd (hwh.symm.trans hw2) (by decide)
              | (rw [zn]; exact V.jX jf dX H36.f11.f11.f11.f11.f11.f11.f11.f11.f11.f11.f11)
          · (try simp only [aF] at h15)
            have zn := lT sZ hon hrun h15
            refine iy (mP O (fD fZ O ?_))
            refine ⟨O, ?_⟩
            first
              | exact absurd (hw2.symm.trans hwh) (by decide)
              | exact absurd (hwh.symm.trans hw2) (by decide)
              | (rw [zn]; exact V.jX jf dX UU.f11.f11.f11.f11.f11.f11.f11.f11.f11.f11.f11)
    · (try simp only [aF] at h4)
      have hty : s.typed = false := by unfold dw.typed; rw [beq_false_of_ne h4]; rfl
      have hrun : (s.typed && (!s.put.isEmpty || s.c.run)) = false := by rw [hty]; rfl
      refine oC 6 O O O O (by kernel_rfl) (by kernel_rfl) lM (lI O) ?_
      refine oC 7 O O O O (by kernel_rfl) (by kernel_rfl) lM (lI O) ?_
      refine oC 8 O O O O (by kernel_rfl) (by kernel_rfl) lM (lI O) ?_
      refine oC 9 O O O O (by kernel_rfl) (by kernel_rfl) lM (lI O) ?_
      refine iL 10 O lM (fun _ => zL O O) (gQ 11 O lM O (jQ 12 O lM O (fQ 13 O lM 33 ah O bG O (iO 14 O lM (fun W hW => jT aV O ((Kp.h hW)).get.2 O) (iL 15 O lM (fun _ => fV ((GH.f9).aN) aV O) (iL 16 O lM (fun _ => iT O O) (iL 17 O lM (fun _ => fU O) (iL 18 O lM (fun _ => fU O) (qj (aZ (bY O (jy O O (dF (dF (dF (dF (dF (kX O O ?_))))))))))))))))))
      have hwo := DL (GH.f11)
      have aeu := GH.f11.right
      have HW0 := V.Ht (c := s.was) (u := [xk, xq, xu, xw, xA, xB, xC, xE, xG, xH, xI]) aeu hwo
      obtain ⟨s1, sZ, HS1⟩ : ∃ s1, s1 = s.lG ∧ V w0 (w6.drew) (jq e s1 • F) := ⟨_, hs1, V.jX (hs1 ▸ zk jf) dX HW0.f11.f11.f11.f11.f11.f11.f11.f11.f11.f11⟩
      have hr1 : s1.c.run = s.c.run := by rw [sZ]; unfold dw.lG; split <;> rfl
      refine fE O func59 (sW HS1) ?_
      rintro _ w38 QG
      obtain ⟨on, hon, HZ⟩ : ∃ on, (s.typed && s.c.run) = on ∧ V w0 w38 (jq e (s1.fM on) • F) := ⟨_, by rw [hty]; rfl, QG⟩
      refine rV ?_
      obtain ⟨Ap, Aq, Ar, Au, Aw, Az, AA, AB, yE, xk, xq, xu, xw, xA, xB, xC, xE, xG, xH, xI, jf, dX, nG, kF⟩ := (HZ).Ox
      refine aA (jy O O (bT O (dF (dF (uT (uT (uT (uT (uT (dF (kX O O (dO O (bn 0 ah O aS O (bn 10 aK O aQ O (aI (gV 10 kF aQ) ?_)))))))))))))))
      rintro _ w40 H40
      refine ql O (mJ O O (bn 28 ah O aj O (fB aB O (H40).get.2 O (dO O (bn 0 ah O aS O (bn 6 aK O aj O (aI (gV 6 H40 aj) ?_)))))))
      rintro _ w41 H41
      refine rV (bY O (dO O (bn 28 ah O aj O (fB aB O (H41).get.2 O (aW (gy O O) (jv O (fun h16 => ?_) (fun h16 => ?_)))))))
      · (try simp only [aF] at h16)
        have zn := nI sZ hon hrun h16
        refine aA (jy O O (dO O (bn 0 ah O aS O (bn 7 aK O aj O (aI (gV 7 H41 aj) ?_)))))
        rintro _ w42 WT
        refine dO O (bn 0 ah O aS O (bn 8 aK O aj O (aI (gV 8 WT aj) ?_)))
        rintro _ w43 WU
        refine jd (mP O (fD fZ O ?_))
        refine ⟨O, ?_⟩
        first
          | exact absurd (hw2.symm.trans hwh) (by decide)
          | exact absurd (hwh.symm.trans hw2) (by decide)
          | (rw [zn]; exact V.jX jf dX WU.f11.f11.f11.f11.f11.f11.f11.f11.f11.f11.f11)
      · (try simp only [aF] at h16)
        have zn := lT sZ hon hrun h16
        refine iy (mP O (fD fZ O ?_))
        refine ⟨O, ?_⟩
        first
          | exact absurd (hw2.symm.trans hwh) (by decide)
          | exact absurd (hwh.symm.trans hw2) (by decide)
          | (rw [zn]; exact V.jX jf dX H41.f11.f11.f11.f11.f11.f11.f11.f11.f11.f11.f11)
  · (try simp only [aF] at h2)
    have har : s.argues = true := by simpa using h2
    have hs1 : ({ s with inn := false } : dw) = s.lG := by unfold dw.lG; rw [if_pos har]
    refine bW (bT O (bW (aW (gy O O) (kX O O (jd (Ip O (fun h17 => ?_)))))))
    (try simp only [aF] at h17)
    refine iy (aO (bY O (aW (gy O O) (jd (Ip O (fun h18 => ?_))))))
    (try simp only [aF] at h18)
    refine iy (aO ?_)
    have Dn := H3.drew
    have jF := V.kp (Dn.f11.f11.f11.f11.f11.f11.f11.f11.f11.f11.f11)
    refine uU [3, 9, 14] jF O (gQ 0 O jF O (jQ 1 O jF O (fQ 2 O jF 28 ah O aj O (iO 3 O jF (fun W hW => jT aB O ((Kp.h hW)).get.2 O) (iL 4 O jF (fun _ => kP O O) ?_)))))
    refine Dv 5 O O (by kernel_rfl) (by kernel_rfl) jF (lI O) (fun h19 => ?_) (fun h19 => ?_)
    · (try simp only [aF] at h19)
      have hc3 : s.cls = 3 := h19
      refine fC 6 O O O (by kernel_rfl) (by kernel_rfl) jF (fun _ => wI O) (lI O) ?_
      refine fC 7 O O O (by kernel_rfl) (by kernel_rfl) jF (fun _ => XH O) (lI O) ?_
      refine fC 8 O O O (by kernel_rfl) (by kernel_rfl) jF (fun _ => Nu 32 ah O O aQ (by decide) O rfl) (lI O) ?_
      refine sH 9 O O O (by kernel_rfl) (by kernel_rfl) jF (by decide) (fun W hW => eG (dn cZ O) O (nN ((Kp.h hW)).get.2 O)) (lI O) ?_
      refine iL 10 O jF (fun _ => zK O O) (gQ 11 O jF O (jQ 12 O jF O (fQ 13 O jF 33 ah O bG O (iO 14 O jF (fun W hW => jT aV O ((Kp.h hW)).get.2 O) (iL 15 O jF (fun _ => fV ((Dn.f9).aN) aV O) (iL 16 O jF (fun _ => iT O O) (iL 17 O jF (fun _ => fU O) (iL 18 O jF (fun _ => fU O) (qj (aZ (bY O (bT O (mX O (fun h20 => ?_) (fun h20 => ?_))))))))))))))
      · (try simp only [aF] at h20)
        have hwh : s.whole = true := h20
        have hty : s.typed = true := by unfold dw.typed; rw [hc3, hwh]; rfl
        refine bW (bT O (bW (dO O (bW (bn 0 ah O aS O (bW (bn 10 aK O aQ O (bW (fB cZ O (Dn).get.2 O (nZ O O ?_))))))))))
        have hwo := DL (Dn.f11)
        have ahF := Dn.f11.right
        have HW0 := V.Ht (c := s.was) (u := [xk, xq, xu, xw, xA, xB, xC, xE, xG, xH, xI]) ahF hwo
        obtain ⟨s1, sZ, HS1⟩ : ∃ s1, s1 = s.lG ∧ V w0 (w3.drew) (jq e s1 • F) := ⟨_, hs1, V.jX (hs1 ▸ zk jf) dX HW0.f11.f11.f11.f11.f11.f11.f11.f11.f11.f11⟩
        have hr1 : s1.c.run = s.c.run := by rw [sZ]; unfold dw.lG; split <;> rfl
        refine fE O func59 (sW HS1) ?_
        rintro _ w45 VR
        obtain ⟨on, hon, HZ⟩ : ∃ on, (s.typed && s.c.run) = on ∧ V w0 w45 (jq e (s1.fM on) • F) := ⟨_, by rw [hty]; rfl, VR⟩
        refine rV ?_
        obtain ⟨Ap, Aq, Ar, Au, Aw, Az, AA, AB, yE, xk, xq, xu, xw, xA, xB, xC, xE, xG, xH, xI, jf, dX, nG, kF⟩ := (HZ).Ox
        refine aA (jy O O (mX O (fun h21 => ?_) (fun h21 => ?_)))
        · (try simp only [aF] at h21)
          have hw2 : s.whole = true := h21
          refine bW (bT O (bW (mX O (fun h22 => ?_) (fun h22 => ?_))))
          · (try simp only [aF] at h22)
            have hrun : (s.typed && (!s.put.isEmpty || s.c.run)) = true := by first | exact absurd (hw2.symm.trans hwh) (by decide) | (rw [tX, decide_eq_false (show ¬ s.put.length = 0 by omega), hty]; rfl)
            refine dF (dF (dF (dF (dF (bW (nZ O O (nZ O O (dO O (bn 0 ah O aS O (bn 10 aK O aQ O (aI (gV 10 kF aQ) ?_)))))))))))
            rintro _ w47 H47
            refine ql O (mJ O O (bn 28 ah O aj O (fB aB O (H47).get.2 O (dO O (bn 0 ah O aS O (bn 6 aK O aj O (aI (gV 6 H47 aj) ?_)))))))
            rintro _ w48 H48
            refine rV (bY O (dO O (bn 28 ah O aj O (fB aB O (H48).get.2 O (aW (gy O O) (jv O (fun h23 => ?_) (fun h23 => ?_)))))))
            · (try simp only [aF] at h23)
              have zn := nI sZ hon hrun h23
              refine aA (jy O O (dO O (bn 0 ah O aS O (bn 7 aK O aj O (aI (gV 7 H48 aj) ?_)))))
              rintro _ w49 H49
              refine dO O (bn 0 ah O aS O (bn 8 aK O aj O (aI (gV 8 H49 aj) ?_)))
              rintro _ w50 H50
              refine jd (mP O (fD fZ O ?_))
              refine ⟨O, ?_⟩
              first
                | exact absurd (hw2.symm.trans hwh) (by decide)
                | exact absurd (hwh.symm.trans hw2) (by decide)
                | (rw [zn]; exact V.jX jf dX H50.f11.f11.f11.f11.f11.f11.f11.f11.f11.f11.f11)
            · (try simp only [aF] at h23)
              have zn := lT sZ hon hrun h23
              refine iy (mP O (fD fZ O ?_))
              refine ⟨O, ?_⟩
              first
                | exact absurd (hw2.symm.trans hwh) (by decide)
                | exact absurd (hwh.symm.trans hw2) (by decide)
                | (rw [zn]; exact V.jX jf dX H48.f11.f11.f11.f11.f11.f11.f11.f11.f11.f11.f11)
          · (try simp only [aF] at h22)
            have hrun : (s.typed && (!s.put.isEmpty || s.c.run)) = (s1.fM on).c.run := by first | exact absurd (hw2.symm.trans hwh) (by decide) | (rw [tX, decide_eq_true (show s.put.length = 0 by omega), hty, Ej, hr1]; rfl)
            refine bW (bT O (bW (dO O (bW (bn 0 ah O aS O (bW (bn 10 aK O aQ O (bW (fB cZ O (kF).get.2 O (bW (kX O O (nZ O O (dO O (bn 0 ah O aS O (bn 10 aK O aQ O (aI (gV 10 kF aQ) ?_))))))))))))))))
            rintro _ w51 H51
            refine ql O (mJ O O (bn 28 ah O aj O (fB aB O (H51).get.2 O (dO O (bn 0 ah O aS O (bn 6 aK O aj O (aI (gV 6 H51 aj) ?_)))))))
            rintro _ w52 H52
            refine rV (bY O (dO O (bn 28 ah O aj O (fB aB O (H52).get.2 O (aW (gy O O) (jv O (fun h24 => ?_) (fun h24 => ?_)))))))
            · (try simp only [aF] at h24)
              have zn := nI sZ hon hrun h24
              refine aA (jy O O (dO O (bn 0 ah O aS O (bn 7 aK O aj O (aI (gV 7 H52 aj) ?_)))))
              rintro _ w53 H53
              refine dO O (bn 0 ah O aS O (bn 8 aK O aj O (aI (gV 8 H53 aj) ?_)))
              rintro _ w54 H54
              refine jd (mP O (fD fZ O ?_))
              refine ⟨O, ?_⟩
              first
                | exact absurd (hw2.symm.trans hwh) (by decide)
                | exact absurd (hwh.symm.trans hw2) (by decide)
                | (rw [zn]; exact V.jX jf dX H54.f11.f11.f11.f11.f11.f11.f11.f11.f11.f11.f11)
            · (try simp only [aF] at h24)
              have zn := lT sZ hon hrun h24
              refine iy (mP O (fD fZ O ?_))
              refine ⟨O, ?_⟩
              first
                | exact absurd (hw2.symm.trans hwh) (by decide)
                | exact absurd (hwh.symm.trans hw2) (by decide)
                | (rw [zn]; exact V.jX jf dX H52.f11.f11.f11.f11.f11.f11.f11.f11.f11.f11.f11)
        · (try simp only [aF] at h21)
          have hw2 : s.whole = false := by simpa using h21
          have hrun : (s.typed && (!s.put.isEmpty || s.c.run)) = false := by first | exact absurd (hwh.symm.trans hw2) (by decide) | (rw [hty]; rfl)
          refine dF (dF (uT (uT (uT (uT (uT (dF (kX O O (dO O (bn 0 ah O aS O (bn 10 aK O aQ O (aI (gV 10 kF aQ) ?_))))))))))))
          rintro _ w55 H55
          refine ql O (mJ O O (bn 28 ah O aj O (fB aB O (H55).get.2 O (dO O (bn 0 ah O aS O (bn 6 aK O aj O (aI (gV 6 H55 aj) ?_)))))))
          rintro _ w56 H56
          refine rV (bY O (dO O (bn 28 ah O aj O (fB aB O (H56).get.2 O (aW (gy O O) (jv O (fun h25 => ?_) (fun h25 => ?_)))))))
          · (try simp only [aF] at h25)
            have zn := nI sZ hon hrun h25
            refine aA (jy O O (dO O (bn 0 ah O aS O (bn 7 aK O aj O (aI (gV 7 H56 aj) ?_)))))
            rintro _ w57 H57
            refine dO O (bn 0 ah O aS O (bn 8 aK O aj O (aI (gV 8 H57 aj) ?_)))
            rintro _ w58 H58
            refine jd (mP O (fD fZ O ?_))
            refine ⟨O, ?_⟩
            first
              | exact absurd (hw2.symm.trans hwh) (by decide)
              | exact absurd (hwh.symm.trans hw2) (by decide)
              | (rw [zn]; exact V.jX jf dX H58.f11.f11.f11.f11.f11.f11.f11.f11.f11.f11.f11)
          · (try simp only [aF] at h25)
            have zn := lT sZ hon hrun h25
            refine iy (mP O (fD fZ O ?_))
            refine ⟨O, ?_⟩
            first
              | exact absurd (hw2.symm.trans hwh) (by decide)
              | exact absurd (hwh.symm.trans hw2) (by decide)
              | (rw [zn]; exact V.jX jf dX H56.f11.f11.f11.f11.f11.f11.f11.f11.f11.f11.f11)
      · (try simp only [aF] at h20)
        have hwh : s.whole = false := by simpa using h20
        have hty : s.typed = false := by unfold dw.typed; rw [hc3, hwh]; rfl
        have hrun : (s.typed && (!s.put.isEmpty || s.c.run)) = false := by rw [hty]; rfl
        refine dF (dF (dF (dF (dF (kX O O ?_)))))
        have hwo := DL (Dn.f11)
        have ahG := Dn.f11.right
        have HW0 := V.Ht (c := s.was) (u := [xk, xq, xu, xw, xA, xB, xC, xE, xG, xH, xI]) ahG hwo
        obtain ⟨s1, sZ, HS1⟩ : ∃ s1, s1 = s.lG ∧ V w0 (w3.drew) (jq e s1 • F) := ⟨_, hs1, V.jX (hs1 ▸ zk jf) dX HW0.f11.f11.f11.f11.f11.f11.f11.f11.f11.f11⟩
        have hr1 : s1.c.run = s.c.run := by rw [sZ]; unfold dw.lG; split <;> rfl
        refine fE O func59 (sW HS1) ?_
        rintro _ w60 H60
        obtain ⟨on, hon, HZ⟩ : ∃ on, (s.typed && s.c.run) = on ∧ V w0 w60 (jq e (s1.fM on) • F) := ⟨_, by rw [hty]; rfl, H60⟩
        refine rV ?_
        obtain ⟨Ap, Aq, Ar, Au, Aw, Az, AA, AB, yE, xk, xq, xu, xw, xA, xB, xC, xE, xG, xH, xI, jf, dX, nG, kF⟩ := (HZ).Ox
        refine aA (jy O O (mX O (fun h26 => ?_) (fun h26 => ?_)))
        · (try simp only [aF] at h26)
          have hw2 : s.whole = true := h26
          refine bW (bT O (bW (mX O (fun h27 => ?_) (fun h27 => ?_))))
          · (try simp only [aF] at h27)
            have hrun : (s.typed && (!s.put.isEmpty || s.c.run)) = true := by first | exact absurd (hw2.symm.trans hwh) (by decide) | (rw [tX, decide_eq_false (show ¬ s.put.length = 0 by omega), hty]; rfl)
            refine dF (dF (dF (dF (dF (bW (nZ O O (nZ O O (dO O (bn 0 ah O aS O (bn 10 aK O aQ O (aI (gV 10 kF aQ) ?_)))))))))))
            rintro _ w62 H62
            refine ql O (mJ O O (bn 28 ah O aj O (fB aB O (H62).get.2 O (dO O (bn 0 ah O aS O (bn 6 aK O aj O (aI (gV 6 H62 aj) ?_)))))))
            rintro _ w63 H63
            refine rV (bY O (dO O (bn 28 ah O aj O (fB aB O (H63).get.2 O (aW (gy O O) (jv O (fun h28 => ?_) (fun h28 => ?_)))))))
            · (try simp only [aF] at h28)
              have zn := nI sZ hon hrun h28
              refine aA (jy O O (dO O (bn 0 ah O aS O (bn 7 aK O aj O (aI (gV 7 H63 aj) ?_)))))
              rintro _ w64 H64
              refine dO O (bn 0 ah O aS O (bn 8 aK O aj O (aI (gV 8 H64 aj) ?_)))
              rintro _ w65 H65
              refine jd (mP O (fD fZ O ?_))
              refine ⟨O, ?_⟩
              first
                | exact absurd (hw2.symm.trans hwh) (by decide)
                | exact absurd (hwh.symm.trans hw2) (by decide)
                | (rw [zn]; exact V.jX jf dX H65.f11.f11.f11.f11.f11.f11.f11.f11.f11.f11.f11)
            · (try simp only [aF] at h28)
              have zn := lT sZ hon hrun h28
              refine iy (mP O (fD fZ O ?_))
              refine ⟨O, ?_⟩
              first
                | exact absurd (hw2.symm.trans hwh) (by decide)
                | exact absurd (hwh.symm.trans hw2) (by decide)
                | (rw [zn]; exact V.jX jf dX H63.f11.f11.f11.f11.f11.f11.f11.f11.f11.f11.f11)
          · (try simp only [aF] at h27)
            have hrun : (s.typed && (!s.put.isEmpty || s.c.run)) = (s1.fM on).c.run := by first | exact absurd (hw2.symm.trans hwh) (by decide) | (rw [tX, decide_eq_true (show s.put.length = 0 by omega), hty, Ej, hr1]; rfl)
            refine bW (bT O (bW (dO O (bW (bn 0 ah O aS O (bW (bn 10 aK O aQ O (bW (fB cZ O (kF).get.2 O (bW (kX O O (nZ O O (dO O (bn 0 ah O aS O (bn 10 aK O aQ O (aI (gV 10 kF aQ) ?_))))))))))))))))
            rintro _ w66 H66
            refine ql O (mJ O O (bn 28 ah O aj O (fB aB O (H66).get.2 O (dO O (bn 0 ah O aS O (bn 6 aK O aj O (aI (gV 6 H66 aj) ?_)))))))
            rintro _ w67 H67
            refine rV (bY O (dO O (bn 28 ah O aj O (fB aB O (H67).get.2 O (aW (gy O O) (jv O (fun h29 => ?_) (fun h29 => ?_)))))))
            · (try simp only [aF] at h29)
              have zn := nI sZ hon hrun h29
              refine aA (jy O O (dO O (bn 0 ah O aS O (bn 7 aK O aj O (aI (gV 7 H67 aj) ?_)))))
              rintro _ w68 H68
              refine dO O (bn 0 ah O aS O (bn 8 aK O aj O (aI (gV 8 H68 aj) ?_)))
              rintro _ w69 H69
              refine jd (mP O (fD fZ O ?_))
              refine ⟨O, ?_⟩
              first
                | exact absurd (hw2.symm.trans hwh) (by decide)
                | exact absurd (hwh.symm.trans hw2) (by decide)
                | (rw [zn]; exact V.jX jf dX H69.f11.f11.f11.f11.f11.f11.f11.f11.f11.f11.f11)
            · (try simp only [aF] at h29)
              have zn := lT sZ hon hrun h29
              refine iy (mP O (fD fZ O ?_))
              refine ⟨O, ?_⟩
              first
                | exact absurd (hw2.symm.trans hwh) (by decide)
                | exact absurd (hwh.symm.trans hw2) (by decide)
                | (rw [zn]; exact V.jX jf dX H67.f11.f11.f11.f11.f11.f11.f11.f11.f11.f11.f11)
        · (try simp only [aF] at h26)
          have hw2 : s.whole = false := by simpa using h26
          have hrun : (s.typed && (!s.put.isEmpty || s.c.run)) = false := by first | exact absurd (hwh.symm.trans hw2) (by decide) | (rw [hty]; rfl)
          refine dF (dF (uT (uT (uT (uT (uT (dF (kX O O (dO O (bn 0 ah O aS O (bn 10 aK O aQ O (aI (gV 10 kF aQ) ?_))))))))))))
          rintro _ w70 H70
          refine ql O (mJ O O (bn 28 ah O aj O (fB aB O (H70).get.2 O (dO O (bn 0 ah O aS O (bn 6 aK O aj O (aI (gV 6 H70 aj) ?_)))))))
          rintro _ w71 H71
          refine rV (bY O (dO O (bn 28 ah O aj O (fB aB O (H71).get.2 O (aW (gy O O) (jv O (fun h30 => ?_) (fun h30 => ?_)))))))
          · (try simp only [aF] at h30)
            have zn := nI sZ hon hrun h30
            refine aA (jy O O (dO O (bn 0 ah O aS O (bn 7 aK O aj O (aI (gV 7 H71 aj) ?_)))))
            rintro _ w72 H72
            refine dO O (bn 0 ah O aS O (bn 8 aK O aj O (aI (gV 8 H72 aj) ?_)))
            rintro _ w73 H73
            refine jd (mP O (fD fZ O ?_))
            refine ⟨O, ?_⟩
            first
              | exact absurd (hw2.symm.trans hwh) (by decide)
              | exact absurd (hwh.symm.trans hw2) (by decide)
              | (rw [zn]; exact V.jX jf dX H73.f11.f11.f11.f11.f11.f11.f11.f11.f11.f11.f11)
          · (try simp only [aF] at h30)
            have zn := lT sZ hon hrun h30
            refine iy (mP O (fD fZ O ?_))
            refine ⟨O, ?_⟩
            first
              | exact absurd (hw2.symm.trans hwh) (by decide)
              | exact absurd (hwh.symm.trans hw2) (by decide)
              | (rw [zn]; exact V.jX jf dX H71.f11.f11.f11.f11.f11.f11.f11.f11.f11.f11.f11)
    · (try simp only [aF] at h19)
      have hty : s.typed = false := by unfold dw.typed; rw [beq_false_of_ne h19]; rfl
      have hrun : (s.typed && (!s.put.isEmpty || s.c.run)) = false := by rw [hty]; rfl
      refine oC 6 O O O O (by kernel_rfl) (by kernel_rfl) jF (lI O) ?_
      refine oC 7 O O O O (by kernel_rfl) (by kernel_rfl) jF (lI O) ?_
      refine oC 8 O O O O (by kernel_rfl) (by kernel_rfl) jF (lI O) ?_
      refine oC 9 O O O O (by kernel_rfl) (by kernel_rfl) jF (lI O) ?_
      refine iL 10 O jF (fun _ => zL O O) (gQ 11 O jF O (jQ 12 O jF O (fQ 13 O jF 33 ah O bG O (iO 14 O jF (fun W hW => jT aV O ((Kp.h hW)).get.2 O) (iL 15 O jF (fun _ => fV ((Dn.f9).aN) aV O) (iL 16 O jF (fun _ => iT O O) (iL 17 O jF (fun _ => fU O) (iL 18 O jF (fun _ => fU O) (qj (aZ (bY O (jy O O (dF (dF (dF (dF (dF (kX O O ?_))))))))))))))))))
      have hwo := DL (Dn.f11)
      have ahH := Dn.f11.right
      have HW0 := V.Ht (c := s.was) (u := [xk, xq, xu, xw, xA, xB, xC, xE, xG, xH, xI]) ahH hwo
      obtain ⟨s1, sZ, HS1⟩ : ∃ s1, s1 = s.lG ∧ V w0 (w3.drew) (jq e s1 • F) := ⟨_, hs1, V.jX (hs1 ▸ zk jf) dX HW0.f11.f11.f11.f11.f11.f11.f11.f11.f11.f11⟩
      have hr1 : s1.c.run = s.c.run := by rw [sZ]; unfold dw.lG; split <;> rfl
      refine fE O func59 (sW HS1) ?_
      rintro _ w75 H75
      obtain ⟨on, hon, HZ⟩ : ∃ on, (s.typed && s.c.run) = on ∧ V w0 w75 (jq e (s1.fM on) • F) := ⟨_, by rw [hty]; rfl, H75⟩
      refine rV ?_
      obtain ⟨Ap, Aq, Ar, Au, Aw, Az, AA, AB, yE, xk, xq, xu, xw, xA, xB, xC, xE, xG, xH, xI, jf, dX, nG, kF⟩ := (HZ).Ox
      refine aA (jy O O (bT O (dF (dF (uT (uT (uT (uT (uT (dF (kX O O (dO O (bn 0 ah O aS O (bn 10 aK O aQ O (aI (gV 10 kF aQ) ?_)))))))))))))))
      rintro _ w77 H77
      refine ql O (mJ O O (bn 28 ah O aj O (fB aB O (H77).get.2 O (dO O (bn 0 ah O aS O (bn 6 aK O aj O (aI (gV 6 H77 aj) ?_)))))))
      rintro _ w78 H78
      refine rV (bY O (dO O (bn 28 ah O aj O (fB aB O (H78).get.2 O (aW (gy O O) (jv O (fun h31 => ?_) (fun h31 => ?_)))))))
      · (try simp only [aF] at h31)
        have zn := nI sZ hon hrun h31
        refine aA (jy O O (dO O (bn 0 ah O aS O (bn 7 aK O aj O (aI (gV 7 H78 aj) ?_)))))
        rintro _ w79 H79
        refine dO O (bn 0 ah O aS O (bn 8 aK O aj O (aI (gV 8 H79 aj) ?_)))
        rintro _ w80 H80
        refine jd (mP O (fD fZ O ?_))
        refine ⟨O, ?_⟩
        first
          | exact absurd (hw2.symm.trans hwh) (by decide)
          | exact absurd (hwh.symm.trans hw2) (by decide)
          | (rw [zn]; exact V.jX jf dX H80.f11.f11.f11.f11.f11.f11.f11.f11.f11.f11.f11)
      · (try simp only [aF] at h31)
        have zn := lT sZ hon hrun h31
        refine iy (mP O (fD fZ O ?_))
        refine ⟨O, ?_⟩
        first
          | exact absurd (hw2.symm.trans hwh) (by decide)
          | exact absurd (hwh.symm.trans hw2) (by decide)
          | (rw [zn]; exact V.jX jf dX H78.f11.f11.f11.f11.f11.f11.f11.f11.f11.f11.f11)
theorem FY {s : dw} {x : Int} (hin : s.inn = true) (hx : x ≠ 0) : s.uy x = s.Dk ∧ s.EK x = x := by
  unfold dw.uy dw.EK
  rw [if_pos hin, if_neg hx, if_pos hin]; exact ⟨rfl, rfl⟩
theorem WY {s : dw} (h : pz s) (hin : s.inn = true) : pz s.Dk := by
  obtain ⟨h1, h2, h3⟩ := h.2.1 hin
  exact ⟨h1, fun h => Bool.noConfusion h, ⟨by show (-1 : Int) ≤ -1; decide, by show (-1 : Int) ≤ 1000000; decide⟩, by simp [dw.Dk], h2, h3⟩
theorem WZ (hin : s.inn = true) (hx : x ≠ 0) (H : V w0 w (jq e s • F)) : iM prog 23 #[.pointer (some ⟨e, 0, none⟩), .int .i64 x] w fun v w' => v = .int .i64 x ∧ V w0 w' (jq e s.Dk • F) := by
 have hpe : s.DI = 0 := by unfold dw.DI; rw [if_pos hin]
 refine qI func23 ntmps23 ?_
 refine kQ O (aO (bY O (fE O func57 (uN H) ?_)))
 rintro _ _ ⟨rfl, rfl⟩
 refine iP O (bY O (aW (gy O O) (jv O (fun h => by exfalso; (try simp only [aF] at h); exact h hpe) (fun h1 => ?_))))
 (try simp only [aF] at h1)
 refine iy (aO ?_)
 obtain ⟨Ap, Aq, Ar, Au, Aw, Az, AA, AB, yE, xk, xq, xu, xw, xA, xB, xC, xE, xG, xH, xI, jf, dX, nG, kF⟩ := (H).Ox
 have HI := kF
 rw [hin] at HI
 obtain ⟨qb, qr, qw, qt, qm, hu, HW⟩ := (HI.f11).was
 simp only [UN, List.cons.injEq, and_true] at hu
 obtain ⟨rfl, rfl, rfl, rfl, rfl, rfl, rfl, rfl, rfl, rfl, rfl⟩ := hu
 refine aA (mJ O O (bn 16 ah O aQ O (aI (gV 16 HW.f6 aQ) ?_)))
 rintro _ w3 H3
 refine rV (bY O (dO O (bn 31 ah O aQ O (fB cZ O (H3).get.2 O (aW (mG O) (mX O (fun h2 => ?_) (fun h2 => ?_)))))))
 ·(try simp only [aF] at h2)
  refine dF (dF (nZ O O (jd (GV (aA (jy O O (mJ O O (bn 13 ah O aQ O (aI (gV 13 H3 aQ) ?_)))))))))
  rintro _ w4 H4
  refine dO O (bn 14 ah O aQ O (aI (gV 14 H4 aQ) ?_))
  rintro _ w5 H5
  refine dO O (bn 15 ah O aj O (aI (gV 15 H5 aj) ?_))
  rintro _ w6 H6
  refine rV (bY O (aW (gy O O) (jv O (fun h3 => ?_) (fun h => by exfalso; (try simp only [aF] at h); exact hx h))))
  (try simp only [aF] at h3)
  refine bY O (mJ O O (bn 17 ah O aS O (aW (sJ 17 (xs := [_, _, _, _, _, _, _, _, _, _, _]) aK O aS O O (H6).get.2 O) (dO O (bn 0 ah O aS O (aI (dG 0 (l' := [_, _, _, _, _, _, _, _, _, _, _, _, _, _, _, _, _, _, _, _, _, _, _, _, _, _, _, _, _, _, _, _, _, _]) (us := [_, _, _, _, _, _, _, _, _, _, _]) H6 aS O O O (aG (aG (aG (aG (aG (aG (aG (aG (aG (aG (aG bK))))))))))) O O) ?_))))))
  rintro _ w7 H7
  refine ql O (dO O (bn 12 ah O sizeOf111 O (fB underlying111 O (H7).get.2 O (fE O func58 (Ja H7.f13) ?_))))
  rintro _ w8 ⟨rfl, H8⟩
  refine ql O (jy O O (mJ O O (bn 0 ah O aS O (bn 6 aK O aj O (aI (gV 6 H8.f2 aj) ?_)))))
  rintro _ w9 H9
  refine dO O (bn 0 ah O aS O (bn 7 aK O aj O (aI (gV 7 H9 aj) ?_)))
  rintro _ w10 sF
  refine dO O (bn 0 ah O aS O (bn 8 aK O aj O (aI (gV 8 sF aj) ?_)))
  rintro _ Iq sG
  refine dO O (bn 33 ah O bG O (aI (gV 33 sG bG) ?_))
  rintro _ w12 tN
  refine ql O (ig O (aC (fD fZ O ?_)))
  exact ⟨O, V.WV (s := s.Dk) (WY jf hin) O O tN.f8.right.f8.right.f8.right.f8.right.f8.right.f9.right.f9.right.f2.f8.f8.f8.f8.f8.f8.f8⟩
 ·(try simp only [aF] at h2)
  refine bW (bT O (bW (aW (gy O O) (kX O O (jv O (fun h4 => ?_) (fun h => by exfalso; (try simp only [aF] at h); exact hx h))))))
  (try simp only [aF] at h4)
  refine aA (jy O O (mJ O O (bn 13 ah O aQ O (aI (gV 13 H3 aQ) ?_))))
  rintro _ Qz Ak
  refine dO O (bn 14 ah O aQ O (aI (gV 14 Ak aQ) ?_))
  rintro _ TL Dh
  refine dO O (bn 15 ah O aj O (aI (gV 15 Dh aj) ?_))
  rintro _ Ws CG
  refine rV (bY O (aW (gy O O) (jv O (fun h5 => ?_) (fun h => by exfalso; (try simp only [aF] at h); exact hx h))))
  (try simp only [aF] at h5)
  refine bY O (mJ O O (bn 17 ah O aS O (aW (sJ 17 (xs := [_, _, _, _, _, _, _, _, _, _, _]) aK O aS O O (CG).get.2 O) (dO O (bn 0 ah O aS O (aI (dG 0 (l' := [_, _, _, _, _, _, _, _, _, _, _, _, _, _, _, _, _, _, _, _, _, _, _, _, _, _, _, _, _, _, _, _, _, _]) (us := [_, _, _, _, _, _, _, _, _, _, _]) CG aS O O O (aG (aG (aG (aG (aG (aG (aG (aG (aG (aG (aG bK))))))))))) O O) ?_))))))
  rintro _ w16 yj
  refine ql O (dO O (bn 12 ah O sizeOf111 O (fB underlying111 O (yj).get.2 O (fE O func58 (Ja yj.f13) ?_))))
  rintro _ w17 ⟨rfl, EH⟩
  refine ql O (jy O O (mJ O O (bn 0 ah O aS O (bn 6 aK O aj O (aI (gV 6 EH.f2 aj) ?_)))))
  rintro _ ZN EM
  refine dO O (bn 0 ah O aS O (bn 7 aK O aj O (aI (gV 7 EM aj) ?_)))
  rintro _ ZO DY
  refine dO O (bn 0 ah O aS O (bn 8 aK O aj O (aI (gV 8 DY aj) ?_)))
  rintro _ YT EI
  refine dO O (bn 33 ah O bG O (aI (gV 33 EI bG) ?_))
  rintro _ YU wG
  refine ql O (ig O (aC (fD fZ O ?_)))
  exact ⟨O, V.WV (s := s.Dk) (WY jf hin) O O wG.f8.right.f8.right.f8.right.f8.right.f8.right.f9.right.f9.right.f2.f8.f8.f8.f8.f8.f8.f8⟩
theorem Em (H : V w0 w (jq e s • F)) : iM prog 23 #[.pointer (some ⟨e, 0, none⟩), .int .i64 x] w fun v w' => v = .int .i64 (s.EK x) ∧ V w0 w' (jq e (s.uy x) • F) := by
  by_cases hin : s.inn = true
  · by_cases hx : x = 0
    · subst hx
      rw [show s.uy 0 = s.oJ from by unfold dw.uy; rw [if_pos hin, if_pos rfl], show s.EK 0 = 0 from by unfold dw.EK; rw [if_pos hin]]
      exact U6 hin H
    · rw [(FY hin hx).1, (FY hin hx).2]
      exact WZ hin hx H
  · have hin' : s.inn = false := by simpa using hin
    have hpe : s.DI = 1 := by unfold dw.DI; rw [if_neg hin]
    rw [show s.uy x = s from by unfold dw.uy; rw [if_neg hin], show s.EK x = 1 from by unfold dw.EK; rw [if_neg hin]]
    refine qI func23 ntmps23 ?_
    refine kQ O (aO (bY O (fE O func57 (uN H) ?_)))
    rintro _ _ ⟨rfl, rfl⟩
    refine iP O (bY O (aW (gy O O) (jv O (fun h1 => ?_) (fun h => by exfalso; (try simp only [aF] at h); rw [hpe] at h; exact absurd h (by decide)))))
    (try simp only [aF] at h1)
    refine bY O (ig O (aC (fD fZ O ?_)))
    rw [hpe]
    exact ⟨O, H⟩
end
end Go.Proofs.YtgofgnlkpeghcaaGreatDoor
end
section
namespace Go.Proofs.YtgofgnlkpeghcaaGreatDoor
open Go.RowKit
theorem aew {s : dw} (h : pz s) {G : List (List kC)} (h1 : iD G s.put ≤ iD s.here s.put) (h2 : ∀ g ∈ G, g ∈ s.here) : pz (s.qR G) := by
  obtain ⟨a1, a2, a3, a4, a5, a6⟩ := h
  refine ⟨a1, a2, a3, a4, ?_, ?_⟩
  · show iD (sV s.c.un s.c.place G s.c.place) s.put ≤ 16384
    rw [kL]; omega
  · intro k g hg
    have hg' : g ∈ sV s.c.un s.c.place G k := hg
    by_cases hk : k = s.c.place
    · subst hk; rw [kL] at hg'; exact a6 _ g (h2 g hg')
    · rw [uK _ _ hk] at hg'; exact a6 k g hg'
section
variable {w0 w : World} {F : HP} {e p : Nat} {s : dw} {x : Int}
end
def LY (e : TypeId) (k : IntKind) : List Value → List (List Int) → HP
  | [], [] => emp
  | v :: vs, l :: ls => jR e k v l • LY e k vs ls
  | _, _ => fact False
section
variable {w0 w : World} {F : HP} {e : TypeId} {k : IntKind} {v : Value} {l : List Int}
theorem V.abn (H : V w0 w F) : V w0 w (LY e k [] [] • F) := H.MF
theorem FZ : ∀ (vs : List Value) (ls : List (List Int)), (LY e k vs ls • jR e k v l) = LY e k (vs ++ [v]) (ls ++ [l])
  | [], [] => by show (emp • jR e k v l) = (jR e k v l • emp); rw [BA]
  | u :: vs, m :: ls => by
    show ((jR e k u m • LY e k vs ls) • jR e k v l) = (jR e k u m • LY e k (vs ++ [v]) (ls ++ [l]))
    rw [dK, FZ vs ls]
  | [], m :: ls => by
    apply HP.ext; funext I h; apply propext
    constructor
    · intro hp; exact absurd ((EO _ _ _ _).1 hp).1 id
    · intro hp
      cases ls with
      | nil => exact absurd (show False by obtain ⟨_, _, _, _, _, hb⟩ := hp; exact hb.1) id
      | cons x y => exact absurd (show False by obtain ⟨_, _, _, _, _, hb⟩ := hp; exact hb.1) id
  | u :: vs, [] => by
    apply HP.ext; funext I h; apply propext
    constructor
    · intro hp; exact absurd ((EO _ _ _ _).1 hp).1 id
    · intro hp
      cases vs with
      | nil => exact absurd (show False by obtain ⟨_, _, _, _, _, hb⟩ := hp; exact hb.1) id
      | cons x y => exact absurd (show False by obtain ⟨_, _, _, _, _, hb⟩ := hp; exact hb.1) id
theorem V.FZ {vs : List Value} {ls : List (List Int)} (H : V w0 w (LY e k vs ls • jR e k v l • F)) : V w0 w (LY e k (vs ++ [v]) (ls ++ [l]) • F) := H.deep.of_eq (by rw [Go.Proofs.YtgofgnlkpeghcaaGreatDoor.FZ])
end
end Go.Proofs.YtgofgnlkpeghcaaGreatDoor
end
section
namespace Go.Proofs.YtgofgnlkpeghcaaGreatDoor
open Go.RowKit
open _root_.Go.Proofs.Tryz
section
variable {w0 w : World} {F : HP} {e p ph pw pt pr pm : Nat} {s : dw} {k x place : Int} {hl : List oH} {base most : Int} {tx : Int → Option ByteArray} {v : Value}
theorem U7 (H : V w0 w (iI p hl base most • F)) : iM prog 150 #[.pointer (some ⟨p, 0, none⟩), .int .i64 k] w fun v w' =>
  v = .tuple #[.agg #[.string (Sj hl k).1, .int .i64 (Sj hl k).2], .bool (decide (0 ≤ k ∧ k < hl.length))] ∧ V w0 w' (iI p hl base most • F) := by
 have hb : hl.length ≤ 4096 := by obtain ⟨v, h, _⟩ := H.hist; exact h.1
 refine qI func150 ntmps150 ?_
 refine jw (iY (fK (l := [_, _]) H mg O) ?_)
 rintro _ w1 ⟨b1, rfl, H1⟩
 refine sS O (bY O (aW (fG O O) (mX O (fun h1 => ?_) (fun h1 => ?_))))
 ·(try simp only [aF] at h1)
  refine dF (dF (dF (dF (nZ O O (jd (GV (jw (aW (fA (zl := [.string .empty, .int .i64 0]) (pl := [(0, 1), (1, 1)]) [_, _] gX mg O (fun w => by kernel_rfl) O (.zero (zs := [.string .empty]) O (.zero (zs := [.int .i64 0]) O .nil)) O) (aI (dG 0 (l' := [_, _]) (us := [_, _]) H1 jl O O O (aG (aG bK)) O O) ?_)))))))))
  rintro _ w2 H2
  refine ig O (aC ?_)
  refine rW (.inl O) (XJ results150 O O gX O (by rw [abo]; rfl) (H2).get.2) ?_
  exact ⟨by unfold Sj; rw [if_neg (by omega), decide_eq_false (by omega)], H2.right⟩
 ·(try simp only [aF] at h1)
  refine bW (bT O (bW (bT O (bW (fE O func60 (ru H1.f2) ?_)))))
  rintro _ w3 ⟨rfl, H3⟩
  refine bW (aW (nM O O) (kX O O (jv O (fun h2 => ?_) (fun h2 => ?_))))
  ·(try simp only [aF] at h2)
   refine jw (aW (fA (zl := [.string .empty, .int .i64 0]) (pl := [(0, 1), (1, 1)]) [_, _] gX mg O (fun w => by kernel_rfl) O (.zero (zs := [.string .empty]) O (.zero (zs := [.int .i64 0]) O .nil)) O) (aI (dG 0 (l' := [_, _]) (us := [_, _]) H3.f2 jl O O O (aG (aG bK)) O O) ?_))
   rintro _ w4 H4
   refine ig O (aC ?_)
   refine rW (.inl O) (XJ results150 O O gX O (by rw [abo]; rfl) (H4).get.2) ?_
   exact ⟨by unfold Sj; rw [if_neg (by omega), decide_eq_false (by omega)], H4.right⟩
  ·(try simp only [aF] at h2)
   refine iy (aO ?_)
   obtain ⟨m, rfl⟩ := Int.eq_ofNat_of_zero_le (show 0 ≤ k by omega)
   obtain ⟨Pz, vO, xX⟩ := (H3).hist
   refine aA (mJ O O (bn 0 iF O mO O (bn 0 iG O gW O (fB bM O (xX).get.2 O (bT O ?_)))))
   obtain ⟨afW, afX, afY, abp⟩ := Rd.nR ((xX.f2).aN) (by omega)
   cases abp
   refine aW (dD bM jl O O (by omega)) (aW (qo (ys := [_, _]) ((xX.f2).aN) (by omega) gX O jl O (o8 zf (by omega) default) O) (aI (dG 0 (l' := [_, _]) (us := [_, _]) xX.f3 jl O O O (aG (aG bK)) O O) ?_))
   rintro _ w6 H6
   refine ig O ?_
   refine rW (.inl O) (XJ results150 O O gX O (by rw [abo]; rfl) (H6).get.2) ?_
   have Ho8 := H6.f3.f3
   have VT := V.Ec vO Ho8
   exact ⟨by unfold Sj; rw [if_pos (by omega), decide_eq_true (by omega)]; rfl, VT.f2.right⟩
theorem Je {x0 x1 x2 x3 x4 x5 x6 x7 x8 x9 x10 x12 tZ x14 x15 x16 x17 x18 x19 x20 x21 uq x23 x24 x25 uz x27 x28 x29 x30 x31 x32 uX : Value} (H : V w0 w (eF e (.cells (x0 :: x1 :: x2 :: x3 :: x4 :: x5 :: x6 :: x7 :: x8 :: x9 :: x10 :: .pointer (some ⟨ph, 0, none⟩) :: x12 :: tZ :: x14 :: x15 :: x16 :: x17 :: x18 :: x19 :: x20 :: x21 :: uq :: x23 :: x24 :: x25 :: uz :: x27 :: x28 :: x29 :: x30 :: x31 :: x32 :: uX :: []).toArray 113 (0, 0)) • iI ph hl base most • F)) : iM prog 111 #[.pointer (some ⟨e, 0, none⟩), .int .i64 k] w fun v w' =>
    v = .string (vC hl k) ∧ V w0 w' (eF e (.cells (x0 :: x1 :: x2 :: x3 :: x4 :: x5 :: x6 :: x7 :: x8 :: x9 :: x10 :: .pointer (some ⟨ph, 0, none⟩) :: x12 :: tZ :: x14 :: x15 :: x16 :: x17 :: x18 :: x19 :: x20 :: x21 :: uq :: x23 :: x24 :: x25 :: uz :: x27 :: x28 :: x29 :: x30 :: x31 :: x32 :: uX :: []).toArray 113 (0, 0)) • iI ph hl base most • F) := by
  refine qI func111 ntmps111 ?_
  refine kQ O (bY O (dO O (bn 11 ah O sizeOf54 O (fB lu O (H).get.2 O (bT O (fE O func150 (U7 H.f2) ?_))))))
  rintro _ w1 ⟨rfl, H1⟩
  refine bT O (sD O O (sD O O (iY (fK (l := [_, _]) H1 mg O) ?_)))
  rintro _ w2 ⟨b2, rfl, H2⟩
  refine aI (dG 0 (l' := [_, _]) (us := [_, _]) H2 jl O O O (aG (aG bK)) O O) ?_
  rintro _ w3 H3
  refine iP O (jw (bn 0 gX O kG O (fB dU O (H3).get.2 O (ig O (fD results111 O ?_)))))
  exact ⟨O, H3.right.f2⟩
theorem Zd {t : ByteArray} (h : tx k = some t) : (vG tx k).getD (.string .empty) = .string t ∧ (vG tx k).isSome = true := by unfold vG; rw [h]; exact ⟨rfl, rfl⟩
theorem KQ : (vG tx k).isSome = (tx k).isSome := by unfold vG; cases tx k <;> rfl
theorem vZ {x0 x1 x3 x4 x5 x6 x7 x8 x9 x10 x12 tZ x14 x15 x16 x17 x18 x19 x20 x21 uq x23 x24 x25 uz x27 x28 x29 x30 x31 x32 uX : Value} (H : V w0 w (eF e (.cells (x0 :: x1 :: .pointer (some ⟨pw, 0, none⟩) :: x3 :: x4 :: x5 :: x6 :: x7 :: x8 :: x9 :: x10 :: .pointer (some ⟨ph, 0, none⟩) :: x12 :: tZ :: x14 :: x15 :: x16 :: x17 :: x18 :: x19 :: x20 :: x21 :: uq :: x23 :: x24 :: x25 :: uz :: x27 :: x28 :: x29 :: x30 :: x31 :: x32 :: uX :: []).toArray 113 (0, 0)) • eF pw (.cells #[v, .map (some pt)] 130 (0, 0)) • jM vF pt (vG tx) • iI ph hl base most • F)) :
    iM prog 62 #[.pointer (some ⟨e, 0, none⟩), .int .i64 k] w fun v' w' =>
    v' = .string (dR hl tx k) ∧ V w0 w' (eF e (.cells (x0 :: x1 :: .pointer (some ⟨pw, 0, none⟩) :: x3 :: x4 :: x5 :: x6 :: x7 :: x8 :: x9 :: x10 :: .pointer (some ⟨ph, 0, none⟩) :: x12 :: tZ :: x14 :: x15 :: x16 :: x17 :: x18 :: x19 :: x20 :: x21 :: uq :: x23 :: x24 :: x25 :: uz :: x27 :: x28 :: x29 :: x30 :: x31 :: x32 :: uX :: []).toArray 113 (0, 0)) • eF pw (.cells #[v, .map (some pt)] 130 (0, 0)) • jM vF pt (vG tx) • iI ph hl base most • F) := by
  refine qI func62 ntmps62 ?_
  refine kQ O (aO (bY O (dO O (bn 0 ah O aS O (bn 2 aK O lK O (fB jr O (H).get.2 O (dO O (bn 1 fF O sizeOf128 O (fB oV O (H.f2).get.2 O (bT O (aW (UG (H.f3) oV aB zeroValue9 O O) (bT O (sD O O (sD O O (iC O (iP O (bY O (jv O (fun h1 => ?_) (fun h1 => ?_)))))))))))))))))))
  · (try simp only [aF] at h1)
    obtain ⟨tt, htt⟩ := Option.isSome_iff_exists.1 (KQ (tx := tx) ▸ h1)
    refine bY O (ig O (aC (fD results62 O ?_)))
    exact ⟨by unfold dR; rw [htt]; show (vG tx k).getD (.string .empty) = _; rw [(Zd htt).1]; rfl, H.f4.f4.f4.f4⟩
  · (try simp only [aF] at h1)
    have htt : tx k = none := by have := KQ (tx := tx) (k := k) ▸ h1; simpa using this
    refine iy (bY O (bT O (fE O func111 (Je H.f4.f2) ?_)))
    rintro _ w1 ⟨rfl, H1⟩
    refine ig O (fD results62 O ?_)
    exact ⟨by unfold dR; rw [htt]; rfl, H1.f2.f4.f4.f4⟩
end
end Go.Proofs.YtgofgnlkpeghcaaGreatDoor
end
