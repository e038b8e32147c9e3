import Derived.Test.YtnhhmieghbfalaaGreatDoorZ4
import Derived.Test.YtnhhmieghbfalaaGreatDoorZ14
set_option linter.unusedSimpArgs false
set_option linter.unusedVariables false
/- Texts of mine, joined, their names in short: EdMv EdR. -/
section
namespace Go.Proofs.YtnhhmieghbfalaaGreatDoor
open Go.RowKit
open _root_.Go.Proofs.Tryz
section
variable {w0 w : World} {F : HP} {e p h pr : Nat} {s : aX} {x : Int} {b : Bool}
theorem AP (h : ru s) (L : List Int) (pt mk : Int) : ru (s.jw L pt mk) := h
theorem YP (H : V w0 w (gQ e s • F)) : iK prog 25 #[.pointer (some ⟨e, 0, none⟩), .int .i64 x] w fun v w' => v = .int .i64 (s.Ph x) ∧ V w0 w' (gQ e (s.Aa x) • F) := by
 refine nO func25 ntmps25 ?_
 refine kG O (aI (bT O (fH O qF (jY H) ?_)))
 rintro _ _ ⟨rfl, rfl⟩
 refine iU O (bT O (aT (fF O O) (jo O (fun h1 => ?_) (fun h1 => ?_))))
 ·(try simp only [aG] at h1)
  obtain ⟨hin, hpe⟩ := uX h1
  refine bT O (iJ O (aC (dO results25 O ?_)))
  rw [hpe]
  exact ⟨by simp [aX.Ph, aX.Aa, hin], by rw [show s.Aa x = s from by simp [aX.Ph, aX.Aa, hin]]; exact H⟩
 ·(try simp only [aG] at h1)
  have hin := qK h1
  refine gX (aI ?_)
  obtain ⟨vC, wF, wG, xC, wH, wI, wJ, wK, vF, rW, rX, rY, rZ, su, sD, sH, sJ, sK, sN, sO, gB, dF, kK, gG⟩ := (H).Gs
  refine aF (kY O O (bg 0 aj O aU O (bg 0 aK O kM O (dQ iL O (gG).get.2 O (cO O (fH O func84 (V9 gG.f2) ?_))))))
  rintro _ w3 ⟨rfl, H3⟩
  refine iJ O (dO results25 O ?_)
  exact ⟨by simp [aX.Ph, hin], by rw [show s.Aa x = s.jw s.c.L (mvP s.c.L.length s.c.pt x) s.c.mark from by simp [aX.Aa, hin]]; exact V.iC (AP gB _ _ _) dF H3.f11.f11.f11.f11.f11.f11.f11.f11.f11.f10.f11⟩
theorem YQ (H : V w0 w (gQ e s • F)) : iK prog 27 #[.pointer (some ⟨e, 0, none⟩), .int .i64 x] w fun v w' => v = .int .i64 (s.Pj x) ∧ V w0 w' (gQ e (s.BU x) • F) := by
 refine nO func27 ntmps27 ?_
 refine kG O (aI (bT O (fH O qF (jY H) ?_)))
 rintro _ _ ⟨rfl, rfl⟩
 refine iU O (bT O (aT (fF O O) (jo O (fun h1 => ?_) (fun h1 => ?_))))
 ·(try simp only [aG] at h1)
  obtain ⟨hin, hpe⟩ := uX h1
  refine bT O (iJ O (aC (dO results27 O ?_)))
  rw [hpe]
  exact ⟨by simp [aX.Pj, aX.BU, hin], by rw [show s.BU x = s from by simp [aX.Pj, aX.BU, hin]]; exact H⟩
 ·(try simp only [aG] at h1)
  have hin := qK h1
  refine gX (aI ?_)
  obtain ⟨vC, wF, wG, xC, wH, wI, wJ, wK, vF, rW, rX, rY, rZ, su, sD, sH, sJ, sK, sN, sO, gB, dF, kK, gG⟩ := (H).Gs
  refine aF (kY O O (bg 0 aj O aU O (bg 0 aK O kM O (dQ iL O (gG).get.2 O (cO O (fH O func86 (Jc gG.f2) ?_))))))
  rintro _ w3 ⟨rfl, H3⟩
  refine iJ O (dO results27 O ?_)
  exact ⟨by simp [aX.Pj, hin], by rw [show s.BU x = s.jw s.c.L s.c.pt (ZL s.c.L s.c.mark x) from by simp [aX.BU, hin]]; exact V.iC (AP gB _ _ _) dF H3.f11.f11.f11.f11.f11.f11.f11.f11.f11.f10.f11⟩
theorem YR (H : V w0 w (gQ e s • F)) : iK prog 29 #[.pointer (some ⟨e, 0, none⟩)] w fun v w' => v = .int .i64 s.Pm ∧ V w0 w' (gQ e s.BX • F) := by
 refine jl func29 ntmps29 ?_
 refine kG O (aI (bT O (fH O qF (jY H) ?_)))
 rintro _ _ ⟨rfl, rfl⟩
 refine iU O (bT O (aT (fF O O) (jo O (fun h1 => ?_) (fun h1 => ?_))))
 ·(try simp only [aG] at h1)
  obtain ⟨hin, hpe⟩ := uX h1
  refine bT O (iJ O (aC (dO results29 O ?_)))
  rw [hpe]
  exact ⟨by simp [aX.Pm, aX.BX, hin], by rw [show s.BX = s from by simp [aX.Pm, aX.BX, hin]]; exact H⟩
 ·(try simp only [aG] at h1)
  have hin := qK h1
  refine gX (aI ?_)
  obtain ⟨vC, wF, wG, xC, wH, wI, wJ, wK, vF, rW, rX, rY, rZ, su, sD, sH, sJ, sK, sN, sO, gB, dF, kK, gG⟩ := (H).Gs
  refine aF (kY O O (bg 0 aj O aU O (bg 0 aK O kM O (dQ iL O (gG).get.2 O (fH O func88 (Wh gG.f2) ?_)))))
  rintro _ w3 ⟨rfl, H3⟩
  refine iJ O (dO results29 O ?_)
  exact ⟨by simp [aX.Pm, hin], by rw [show s.BX = s.jw s.c.L (swP s.c.pt s.c.mark) (swM s.c.pt s.c.mark) from by simp [aX.BX, hin]]; exact V.iC (AP gB _ _ _) dF H3.f11.f11.f11.f11.f11.f11.f11.f11.f11.f10.f11⟩
theorem WT (H : V w0 w (gQ e s • F)) : iK prog 31 #[.pointer (some ⟨e, 0, none⟩), .int .i64 x] w fun v w' => v = .int .i64 (s.xR x) ∧ V w0 w' (gQ e (s.zS x) • F) := by
 refine nO func31 ntmps31 ?_
 refine kG O (aI (bT O (fH O qF (jY H) ?_)))
 rintro _ _ ⟨rfl, rfl⟩
 refine iU O (bT O (aT (fF O O) (jo O (fun h1 => ?_) (fun h1 => ?_))))
 ·(try simp only [aG] at h1)
  obtain ⟨hin, hpe⟩ := uX h1
  refine bT O (iJ O (aC (dO results31 O ?_)))
  rw [hpe]
  exact ⟨by simp [aX.xR, aX.zS, hin], by rw [show s.zS x = s from by simp [aX.xR, aX.zS, hin]]; exact H⟩
 ·(try simp only [aG] at h1)
  have hin := qK h1
  refine gX (aI (bT O (aT (fJ O O) (nS O (fun h2 => ?_) (fun h2 => ?_)))))
  ·(try simp only [aG] at h2)
   refine dB (dB (mQ O O (iR (DZ (jE O (aC (dO results31 O ?_)))))))
   have hd : s.xR x = 1 := by unfold aX.xR; rw [if_pos hin, if_pos (by omega)]
   exact ⟨by rw [hd], by unfold aX.zS; rw [hd, if_neg (by decide)]; exact H⟩
  ·(try simp only [aG] at h2)
   refine bJ (cO O (bJ (aT (fZ O O) (kP O O (jo O (fun h3 => ?_) (fun h3 => ?_))))))
   ·(try simp only [aG] at h3)
    refine jE O (aC (dO results31 O ?_))
    have hd : s.xR x = 1 := by unfold aX.xR; rw [if_pos hin, if_pos (by omega)]
    exact ⟨by rw [hd], by unfold aX.zS; rw [hd, if_neg (by decide)]; exact H⟩
   ·(try simp only [aG] at h3)
    refine gX (aI ?_)
    have hd : s.xR x = 0 := by unfold aX.xR; rw [if_pos hin, if_neg (by omega)]
    obtain ⟨vC, wF, wG, xC, wH, wI, wJ, wK, vF, rW, rX, rY, rZ, su, sD, sH, sJ, sK, sN, sO, gB, dF, kK, gG⟩ := (H).Gs
    have harg := gB.2.2.1
    refine aF (ku O O (dM O (bg 13 aj O aN O (aH (ig 13 gG aN) ?_))))
    rintro _ w3 H3
    refine dM O (bg 31 aj O aN O (aH (ig 31 H3 aN) ?_))
    rintro _ w4 H4
    refine qG O (kY O O (bg 15 aj O ah O (dQ ay O (H4).get.2 O (aT (abo O O) (aT (agM O O (by omega)) (cO O (aT (gY O O (by omega)) (aT (QO O O) (dM O (bg 15 aj O ah O (aH (ig 15 H4 ah) ?_)))))))))))
    rintro _ w5 H5
    refine iR (jE O (dO results31 O ?_))
    rw [hd]
    refine ⟨O, ?_⟩
    unfold aX.zS
    rw [if_pos hd]
    exact V.iC (s := { s with given := true, argues := true, arg := min (max s.arg 0 * 10 + x) 1000000 }) ⟨gB.1, gB.2.1, by dsimp only; omega, gB.2.2.2⟩ dF H5.f11.f11.f11.f11.f11.f11.f11.f11.f11.f11.f11
theorem aaD (H : V w0 w (gQ e s • F)) : iK prog 35 #[.pointer (some ⟨e, 0, none⟩)] w fun v w' => v = .int .i64 s.wB ∧ V w0 w' (gQ e s.Np • F) := by
 refine jl func35 ntmps35 ?_
 refine kG O (aI (bT O (fH O qF (jY H) ?_)))
 rintro _ _ ⟨rfl, rfl⟩
 refine iU O (bT O (aT (fF O O) (jo O (fun h1 => ?_) (fun h1 => ?_))))
 ·(try simp only [aG] at h1)
  obtain ⟨hin, hpe⟩ := uX h1
  refine bT O (iJ O (aC (dO results35 O ?_)))
  rw [hpe]
  exact ⟨by simp [aX.Np, aX.wB, hin], by rw [show s.Np = s from by simp [aX.Np, aX.wB, hin]]; exact H⟩
 ·(try simp only [aG] at h1)
  have hin := qK h1
  refine gX (aI ?_)
  obtain ⟨vC, wF, wG, xC, wH, wI, wJ, wK, vF, rW, rX, rY, rZ, su, sD, sH, sJ, sK, sN, sO, gB, dF, kK, gG⟩ := (H).Gs
  refine aF (ku O O (ku O O (dM O (bg 14 aj O aN O (dQ bn O (gG).get.2 O (aT (jG O) (dM O (bg 13 aj O aN O (aH (ig 13 gG aN) ?_)))))))))
  rintro _ w3 H3
  refine dM O (bg 31 aj O aN O (aH (ig 31 H3 aN) ?_))
  rintro _ w4 H4
  refine dM O (bg 14 aj O aN O (aH (ig 14 H4 aN) ?_))
  rintro _ w5 H5
  refine iR (jE O (dO results35 O ?_))
  exact ⟨by simp [aX.wB, hin], by unfold aX.Np; rw [if_pos hin]; exact V.iC (s := { s with given := true, argues := true, minus := !s.minus }) gB dF H5.f11.f11.f11.f11.f11.f11.f11.f11.f11.f11.f11⟩
theorem aaE (H : V w0 w (gQ e s • F)) : iK prog 37 #[.pointer (some ⟨e, 0, none⟩), .int .i64 x] w fun v w' => v = .int .i64 (s.GR x) ∧ V w0 w' (gQ e (s.KH x) • F) := by
 refine nO func37 ntmps37 ?_
 refine kG O (aI (bT O (fH O qF (jY H) ?_)))
 rintro _ _ ⟨rfl, rfl⟩
 refine iU O (bT O (aT (fF O O) (jo O (fun h1 => ?_) (fun h1 => ?_))))
 ·(try simp only [aG] at h1)
  obtain ⟨hin, hpe⟩ := uX h1
  refine bT O (iJ O (aC (dO results37 O ?_)))
  rw [hpe]
  exact ⟨by simp [aX.GR, aX.KH, hin], by rw [show s.KH x = s from by simp [aX.GR, aX.KH, hin]]; exact H⟩
 ·(try simp only [aG] at h1)
  have hin := qK h1
  refine gX (aI (bT O (aT (fZ O O) (nS O (fun h2 => ?_) (fun h2 => ?_)))))
  ·(try simp only [aG] at h2)
   refine dB (dB (mQ O O (iR (DZ (jE O (aC (dO results37 O ?_)))))))
   have hd : s.GR x = 1 := by unfold aX.GR; rw [if_pos hin, if_pos (by omega)]
   exact ⟨by rw [hd], by unfold aX.KH; rw [hd, if_neg (by decide)]; exact H⟩
  ·(try simp only [aG] at h2)
   refine bJ (cO O (bJ (aT (fJ O O) (kP O O (jo O (fun h3 => ?_) (fun h3 => ?_))))))
   ·(try simp only [aG] at h3)
    refine jE O (aC (dO results37 O ?_))
    have hd : s.GR x = 1 := by unfold aX.GR; rw [if_pos hin, if_pos (by omega)]
    exact ⟨by rw [hd], by unfold aX.KH; rw [hd, if_neg (by decide)]; exact H⟩
   ·(try simp only [aG] at h3)
    refine gX (aI ?_)
    have hd : s.GR x = 0 := by unfold aX.GR; rw [if_pos hin, if_neg (by omega)]
    obtain ⟨vC, wF, wG, xC, wH, wI, wJ, wK, vF, rW, rX, rY, rZ, su, sD, sH, sJ, sK, sN, sO, gB, dF, kK, gG⟩ := (H).Gs
    refine aF (ku O O (ku O O (aT (fJ O O) (dM O (bg 13 aj O aN O (aH (ig 13 gG aN) ?_))))))
    rintro _ w3 H3
    refine dM O (bg 31 aj O aN O (aH (ig 31 H3 aN) ?_))
    rintro _ w4 H4
    refine dM O (bg 14 aj O aN O (aH (ig 14 H4 aN) ?_))
    rintro _ w5 H5
    refine qG O (ku O O (aT (XM O (by omega)) (aT (abo O O) (dM O (bg 15 aj O ah O (aH (ig 15 H5 ah) ?_))))))
    rintro _ w6 H6
    refine iR (jE O (dO results37 O ?_))
    rw [hd]
    refine ⟨O, ?_⟩
    unfold aX.KH
    rw [if_pos hd]
    exact V.iC (s := { s with given := true, argues := true, minus := decide (x < 0), arg := max x (-x) }) ⟨gB.1, gB.2.1, by dsimp only; omega, gB.2.2.2⟩ dF H6.f11.f11.f11.f11.f11.f11.f11.f11.f11.f11.f11
theorem YS (H : V w0 w (gQ e s • F)) : iK prog 39 #[.pointer (some ⟨e, 0, none⟩), .int .i64 x] w fun v w' => v = .int .i64 (s.Ac x) ∧ V w0 w' (gQ e (s.BZ x) • F) := by
 refine nO func39 ntmps39 ?_
 refine kG O (aI (bT O (fH O qF (jY H) ?_)))
 rintro _ _ ⟨rfl, rfl⟩
 refine iU O (bT O (aT (fF O O) (jo O (fun h1 => ?_) (fun h1 => ?_))))
 ·(try simp only [aG] at h1)
  obtain ⟨hin, hpe⟩ := uX h1
  refine bT O (iJ O (aC (dO results39 O ?_)))
  rw [hpe]
  exact ⟨by simp [aX.Ac, aX.BZ, hin], by rw [show s.BZ x = s from by simp [aX.Ac, aX.BZ, hin]]; exact H⟩
 ·(try simp only [aG] at h1)
  have hin := qK h1
  refine gX (aI (bT O (aT (fJ O O) (nS O (fun h2 => ?_) (fun h2 => ?_)))))
  ·(try simp only [aG] at h2)
   refine dB (dB (mQ O O (iR (DZ (jE O (aC (dO results39 O ?_)))))))
   have hd : s.Ac x = 1 := by unfold aX.Ac; rw [if_pos hin, if_pos (by omega)]
   exact ⟨by rw [hd], by unfold aX.BZ; rw [hd, if_neg (by decide)]; exact H⟩
  ·(try simp only [aG] at h2)
   refine bJ (cO O (bJ (aT (fZ O O) (kP O O (jo O (fun h3 => ?_) (fun h3 => ?_))))))
   ·(try simp only [aG] at h3)
    refine jE O (aC (dO results39 O ?_))
    have hd : s.Ac x = 1 := by unfold aX.Ac; rw [if_pos hin, if_pos (by omega)]
    exact ⟨by rw [hd], by unfold aX.BZ; rw [hd, if_neg (by decide)]; exact H⟩
   ·(try simp only [aG] at h3)
    refine gX (aI ?_)
    have hd : s.Ac x = 0 := by unfold aX.Ac; rw [if_pos hin, if_neg (by omega)]
    obtain ⟨vC, wF, wG, xC, wH, wI, wJ, wK, vF, rW, rX, rY, rZ, su, sD, sH, sJ, sK, sN, sO, gB, dF, kK, gG⟩ := (H).Gs
    refine aF (ku O O (dM O (bg 0 aj O aU O (bg 4 aK O ah O (aH (ig 4 gG ah) ?_)))))
    rintro _ w3 H3
    refine iR (jE O (dO results39 O ?_))
    rw [hd]
    refine ⟨O, ?_⟩
    unfold aX.BZ
    rw [if_pos hd]
    exact V.iC (s := { s with c := { s.c with mode := x } }) gB dF H3.f11.f11.f11.f11.f11.f11.f11.f11.f11.f11.f11
theorem YT (H : V w0 w (gQ e s • F)) : iK prog 41 #[.pointer (some ⟨e, 0, none⟩), .bool b] w fun v w' => v = .int .i64 s.wB ∧ V w0 w' (gQ e (s.FP b) • F) := by
 refine nO func41 ntmps41 ?_
 refine kG O (aI (bT O (fH O qF (jY H) ?_)))
 rintro _ _ ⟨rfl, rfl⟩
 refine iU O (bT O (aT (fF O O) (jo O (fun h1 => ?_) (fun h1 => ?_))))
 ·(try simp only [aG] at h1)
  obtain ⟨hin, hpe⟩ := uX h1
  refine bT O (iJ O (aC (dO results41 O ?_)))
  rw [hpe]
  exact ⟨by simp [aX.FP, aX.wB, hin], by rw [show s.FP b = s from by simp [aX.FP, aX.wB, hin]]; exact H⟩
 ·(try simp only [aG] at h1)
  have hin := qK h1
  refine gX (aI ?_)
  obtain ⟨vC, wF, wG, xC, wH, wI, wJ, wK, vF, rW, rX, rY, rZ, su, sD, sH, sJ, sK, sN, sO, gB, dF, kK, gG⟩ := (H).Gs
  refine aF (ku O O (dM O (bg 0 aj O aU O (bg 5 aK O aN O (aH (ig 5 gG aN) ?_)))))
  rintro _ w3 H3
  refine iR (jE O (dO results41 O ?_))
  exact ⟨by simp [aX.wB, hin], by unfold aX.FP; rw [if_pos hin]; exact V.iC (s := { s with c := { s.c with over := b } }) gB dF H3.f11.f11.f11.f11.f11.f11.f11.f11.f11.f11.f11⟩
theorem aaF (H : V w0 w (gQ e s • F)) : iK prog 43 #[.pointer (some ⟨e, 0, none⟩), .int .i64 x] w fun v w' => v = .int .i64 (s.GU x) ∧ V w0 w' (gQ e (s.KI x) • F) := by
 refine nO func43 ntmps43 ?_
 refine kG O (aI (bT O (fH O qF (jY H) ?_)))
 rintro _ _ ⟨rfl, rfl⟩
 refine iU O (bT O (aT (fF O O) (jo O (fun h1 => ?_) (fun h1 => ?_))))
 ·(try simp only [aG] at h1)
  obtain ⟨hin, hpe⟩ := uX h1
  refine bT O (iJ O (aC (dO results43 O ?_)))
  rw [hpe]
  exact ⟨by simp [aX.GU, aX.KI, hin], by rw [show s.KI x = s from by simp [aX.GU, aX.KI, hin]]; exact H⟩
 ·(try simp only [aG] at h1)
  have hin := qK h1
  refine gX (aI (bT O (aT (fJ O O) (nS O (fun h2 => ?_) (fun h2 => ?_)))))
  ·(try simp only [aG] at h2)
   refine dB (dB (mQ O O (iR (DZ (jE O (aC (dO results43 O ?_)))))))
   have hd : s.GU x = 1 := by unfold aX.GU; rw [if_pos hin, if_pos (by omega)]
   exact ⟨by rw [hd], by unfold aX.KI; rw [hd, if_neg (by decide)]; exact H⟩
  ·(try simp only [aG] at h2)
   refine bJ (cO O (bJ (aT (fZ O O) (kP O O (jo O (fun h3 => ?_) (fun h3 => ?_))))))
   ·(try simp only [aG] at h3)
    refine jE O (aC (dO results43 O ?_))
    have hd : s.GU x = 1 := by unfold aX.GU; rw [if_pos hin, if_pos (by omega)]
    exact ⟨by rw [hd], by unfold aX.KI; rw [hd, if_neg (by decide)]; exact H⟩
   ·(try simp only [aG] at h3)
    refine gX (aI ?_)
    have hd : s.GU x = 0 := by unfold aX.GU; rw [if_pos hin, if_neg (by omega)]
    obtain ⟨vC, wF, wG, xC, wH, wI, wJ, wK, vF, rW, rX, rY, rZ, su, sD, sH, sJ, sK, sN, sO, gB, dF, kK, gG⟩ := (H).Gs
    refine aF (ku O O (dM O (bg 0 aj O aU O (bg 9 aK O ah O (aH (ig 9 gG ah) ?_)))))
    rintro _ w3 H3
    refine iR (jE O (dO results43 O ?_))
    rw [hd]
    refine ⟨O, ?_⟩
    unfold aX.KI
    rw [if_pos hd]
    exact V.iC (s := { s with c := { s.c with res := x } }) gB dF H3.f11.f11.f11.f11.f11.f11.f11.f11.f11.f11.f11
theorem Ei (H : V w0 w (gQ e s • F)) : iK prog 33 #[.pointer (some ⟨e, 0, none⟩)] w fun v w' => v = .int .i64 s.count ∧ V w0 w' (gQ e s • F) := by
 refine jl func33 ntmps33 ?_
 refine kG O (aI (bK (bT O (fH O func22 (zn H) ?_))))
 rintro _ _ ⟨rfl, rfl⟩
 refine iU O (yh (aI ?_))
 obtain ⟨vC, wF, wG, xC, wH, wI, wJ, wK, vF, rW, rX, rY, rZ, su, sD, sH, sJ, sK, sN, sO, gB, dF, kK, gG⟩ := (H).Gs
 have harg := gB.2.2.1
 refine aF (kY O O (bg 13 aj O aN O (dQ bn O (gG).get.2 O (aT (jG O) (iU O (dw O (fun h1 => ?_) (fun h1 => ?_)))))))
 ·(try simp only [aG] at h1)
  have hg := h1
  refine jE O (aY (aC (dO results33 O ?_)))
  have Rn := gG.f11.f11.f11.f11.f11.f11.f11.f11.f11.f11.f11
  have O6 := V.iC (s := s) gB dF Rn
  exact ⟨by unfold aX.count; simp only [*]; first | rfl | (split <;> simp_all <;> omega) | simp_all, O6⟩
 ·(try simp only [aG] at h1)
  have hg := h1
  refine eG (aS (aZ (bT O (dM O (bg 15 aj O ah O (dQ ay O (gG).get.2 O (vI O (bT O (aT (fJ O O) (jo O (fun h2 => ?_) (fun h2 => ?_)))))))))))
  ·(try simp only [aG] at h2)
   refine aF (vI O (bT O (dM O (bg 14 aj O aN O (dQ bn O (gG).get.2 O (jo O (fun h3 => ?_) (fun h3 => ?_)))))))
   ·(try simp only [aG] at h3)
    refine bT O (aT (XM O (by omega)) (iJ O (aC (dO results33 O ?_))))
    have Qd := gG.f11.f11.f11.f11.f11.f11.f11.f11.f11.f11.f11
    have Qe := V.iC (s := s) gB dF Qd
    exact ⟨by unfold aX.count; simp only [*]; first | rfl | (split <;> simp_all <;> omega) | simp_all, Qe⟩
   ·(try simp only [aG] at h3)
    refine gX (bT O (iJ O (dO results33 O ?_)))
    have Iy := gG.f11.f11.f11.f11.f11.f11.f11.f11.f11.f11.f11
    have GK := V.iC (s := s) gB dF Iy
    exact ⟨by unfold aX.count; simp only [*]; first | rfl | (split <;> simp_all <;> omega) | simp_all, GK⟩
  ·(try simp only [aG] at h2)
   refine gX (aI (bT O (dM O (bg 14 aj O aN O (dQ bn O (gG).get.2 O (jo O (fun h4 => ?_) (fun h4 => ?_)))))))
   ·(try simp only [aG] at h4)
    refine bT O (aT (XM O (by omega)) (iJ O (aC (dO results33 O ?_))))
    have Sj := gG.f11.f11.f11.f11.f11.f11.f11.f11.f11.f11.f11
    have Qh := V.iC (s := s) gB dF Sj
    exact ⟨by unfold aX.count; simp only [*]; first | rfl | (split <;> simp_all <;> omega) | simp_all, Qh⟩
   ·(try simp only [aG] at h4)
    refine gX (bT O (iJ O (dO results33 O ?_)))
    have WU := gG.f11.f11.f11.f11.f11.f11.f11.f11.f11.f11.f11
    have WV := V.iC (s := s) gB dF WU
    exact ⟨by unfold aX.count; simp only [*]; first | rfl | (split <;> simp_all <;> omega) | simp_all, WV⟩
theorem WW (H : V w0 w (gQ e s • F)) : iK prog 56 #[.pointer (some ⟨e, 0, none⟩)] w fun v w' => v = .bool s.given ∧ V w0 w' (gQ e s • F) := by
  refine jl func56 ntmps56 ?_
  refine kG O (bT O (fH O func22 (zn H) ?_))
  rintro _ _ ⟨rfl, rfl⟩
  refine aT (jG O) ?_
  obtain ⟨vC, wF, wG, xC, wH, wI, wJ, wK, vF, rW, rX, rY, rZ, su, sD, sH, sJ, sK, sN, sO, gB, dF, kK, gG⟩ := (H).Gs
  refine Z8 O (fun h1 => ?_)
  (try simp only [aG] at h1)
  refine bJ (cO O (bJ (dM O (bJ (bg 13 aj O aN O (bJ (dQ bn O (gG).get.2 O (mQ O O (iJ O (dO results56 O ?_))))))))))
  have Rn := gG.f11.f11.f11.f11.f11.f11.f11.f11.f11.f11.f11
  have O6 := V.iC (s := s) gB dF Rn
  exact ⟨O, O6⟩
theorem YU (H : V w0 w (gQ e s • F)) : iK prog 54 #[.pointer (some ⟨e, 0, none⟩)] w fun v w' => ∃ u, v = .agg (oU u s.c.pt s.c.mark) ∧ V w0 w' (kF 21 .i32 u s.c.L • gQ e s • F) := by
 refine jl func54 ntmps54 ?_
 refine kQ (jT (iI (l := [_, _, _]) H vZ O) ?_)
 rintro _ w1 ⟨b1, rfl, H1⟩
 refine uV (bT O (fH O func22 (zn H1.f2) ?_))
 rintro _ _ ⟨rfl, rfl⟩
 refine iR (yh (gX (aI ?_)))
 obtain ⟨vC, wF, wG, xC, wH, wI, wJ, wK, vF, rW, rX, rY, rZ, su, sD, sH, sJ, sK, sN, sO, gB, dF, kK, gG⟩ := (H1.f2).Gs
 refine aF (kY O O (bg 0 aj O aU O (bg 0 aK O kM O (dQ iL O (gG).get.2 O (fH O func123 (MZ gG.f2) ?_)))))
 rintro _ w4 ⟨u4, rfl, H4⟩
 refine aH (dR 0 (l' := [_, _, _]) (us := [_, _, _]) H4.f13 oV O O O (bD (by first | rfl | exact Rd.one ((H4).aJ)) (aP (aP bW))) O O) ?_
 rintro _ w5 H5
 refine zkc ?_
 refine wW (.inl O) (Oj results54 O iM O (by rw [U7]; rfl) (H5).get.2) ?_
 have Qd := H5.f13.f13.f13.f13.f13.f13.f13.f13.f13.f12.f13
 have Qe := V.iC (s := s) gB dF Qd
 exact ⟨_, O, Qe.f2.right.f2⟩
theorem YV (H : V w0 w (gQ e s • F)) : iK prog 13 #[.pointer (some ⟨e, 0, none⟩)] w fun v w' => ∃ q, v = .pointer (some ⟨q, 0, none⟩) ∧ V w0 w' (jM q s.hl s.base s.most • gQ e s • F) := by
 refine jl func13 ntmps13 ?_
 refine kG O (aI (bT O (fH O func22 (zn H) ?_)))
 rintro _ _ ⟨rfl, rfl⟩
 refine iR (yh (gX (aI ?_)))
 obtain ⟨vC, wF, wG, xC, wH, wI, wJ, wK, vF, rW, rX, rY, rZ, su, sD, sH, sJ, sK, sN, sO, gB, dF, kK, gG⟩ := (H).Gs
 refine aF (kY O O (bg 11 aj O sizeOf41 O (dQ oL O (gG).get.2 O (fH O func63 (Bl gG.f7) ?_))))
 rintro _ w3 ⟨q3, rfl, H3⟩
 refine iJ O (dO results13 O ?_)
 have Ho5 := H3.f12.f12.f12.f12.f6.f12.f12.f12.f12.f12.f12
 have Hc6 := V.iC (s := s) gB dF Ho5
 exact ⟨_, O, Hc6.f2⟩
end
theorem AQ {L : List Int} {i j : Int} {l : List Int} (h : lG L i j l ≠ 0) : nU L i j l = [] ∧ nV L i j l = [] := by unfold nU nV; rw [if_neg h, if_neg h]; exact ⟨rfl, rfl⟩
theorem abV {L : List Int} {i j : Int} {l : List Int} (hL : L.length ≤ 1024) (h : 0 < (nU L i j l).length + (nV L i j l).length) : BO (yw L i j l, nU L i j l, nV L i j l) := by
  by_cases h0 : lG L i j l = 0
  · refine ⟨?_, h, ?_, ?_⟩
    · show 0 ≤ yw L i j l
      unfold yw; rw [if_pos h0]
      unfold lG at h0
      split at h0
      · cases h0
      · omega
    · show (nU L i j l).length ≤ 1024
      unfold nU; rw [if_pos h0]
      simp only [List.length_take, List.length_drop]; omega
    · show (nV L i j l).length ≤ 1024
      unfold nV; rw [if_pos h0]
      unfold lG at h0
      split at h0
      · cases h0
      · split at h0
        · cases h0
        · omega
  · rw [(AQ h0).1, (AQ h0).2] at h
    simp at h
theorem aex {L : List Int} {i j : Int} {l : List Int} (hL : L.length ≤ 1024) : (nU L i j l).length ≤ 1024 ∧ (nV L i j l).length ≤ 1024 := by
  by_cases h0 : lG L i j l = 0
  · refine ⟨?_, ?_⟩
    · unfold nU; rw [if_pos h0]
      simp only [List.length_take, List.length_drop]; omega
    · unfold nV; rw [if_pos h0]
      unfold lG at h0
      split at h0
      · cases h0
      · split at h0
        · cases h0
        · omega
  · rw [(AQ h0).1, (AQ h0).2]; simp
theorem E5 {s : aX} {x : jH} (h : x.2.1.length + x.2.2.length = 0) : s.nI x = s := by unfold aX.nI; rw [if_pos h]
theorem AU {s : aX} {x : jH} (h : 0 < x.2.1.length + x.2.2.length) (k : ¬ 16384 ≤ iH s.here s.put) : s.nI x = { s with put := s.put ++ [x] } := by unfold aX.nI; rw [if_neg (by omega), if_neg k]
theorem AV {s : aX} {x : jH} (h : 0 < x.2.1.length + x.2.2.length) (k : 16384 ≤ iH s.here s.put) : s.nI x = { s.lY [] with put := [x], c := { (s.lY []).c with run := false } } := by unfold aX.nI; rw [if_neg (by omega), if_pos k]
theorem pV (G : List (List jH)) (N : List jH) : iH G N = iH G [] + N.length := by unfold iH; simp
theorem QB {s : aX} {x : jH} (h : ru s) (hx : 0 < x.2.1.length + x.2.2.length → BO x) : ru (s.nI x) := by
  by_cases h0 : x.2.1.length + x.2.2.length = 0
  · rw [E5 h0]; exact h
  · have hx' := hx (by omega)
    obtain ⟨h1, h2, h3, h4, h5, h6⟩ := h
    by_cases hf : 16384 ≤ iH s.here s.put
    · rw [AV (by omega) hf]
      refine ⟨h1, h2, h3, fun e he => by rw [List.mem_singleton.1 he]; exact hx', ?_, ?_⟩
      · show iH (um s.c.un s.c.place [] s.c.place) [x] ≤ 16384
        rw [jv]; simp [iH]
      · intro k g hg
        have hg' : g ∈ um s.c.un s.c.place [] k := hg
        by_cases hk : k = s.c.place
        · subst hk; rw [jv] at hg'; cases hg'
        · rw [zi _ _ hk] at hg'; exact h6 k g hg'
    · rw [AU (by omega) hf]
      refine ⟨h1, h2, h3, fun e he => ?_, ?_, h6⟩
      · rcases List.mem_append.1 he with he | he
        · exact h4 e he
        · rw [List.mem_singleton.1 he]; exact hx'
      · show iH s.here (s.put ++ [x]) ≤ 16384
        rw [Wq]; omega
section
variable {w0 w : World} {F : HP} {e p h pr : Nat} {s : aX} {i j x : Int} {b : Bool} {v : Value} {l : List Int}
theorem xW (H : V w0 w (gQ e s • F)) (hr : jZ w0 F .i32 v l) : iK prog 74 #[.pointer (some ⟨e, 0, none⟩), .int .i64 i, .int .i64 j, v] w fun v' w' => v' = .int .i64 (s.lU i j l) ∧ V w0 w' (gQ e (s.gy i j l) • F) := by
 refine MJ func74 ntmps74 ?_
 refine kG O (aI (bT O (fH O qF (jY H) ?_)))
 rintro _ _ ⟨rfl, rfl⟩
 refine iU O (bT O (aT (fF O O) (jo O (fun h1 => ?_) (fun h1 => ?_))))
 ·(try simp only [aG] at h1)
  obtain ⟨hin, hpe⟩ := uX h1
  refine bT O (iJ O (aC (dO results74 O ?_)))
  rw [hpe]
  exact ⟨by simp [aX.lU, aX.gy, hin], by rw [show s.gy i j l = s from by simp [aX.lU, aX.gy, hin]]; exact H⟩
 ·(try simp only [aG] at h1)
  have hin := qK h1
  refine gX (aI ?_)
  obtain ⟨vC, wF, wG, xC, wH, wI, wJ, wK, vF, rW, rX, rY, rZ, su, sD, sH, sJ, sK, sN, sO, gB, dF, kK, gG⟩ := (H).Gs
  have hL : s.c.L.length ≤ 1024 := by obtain ⟨a, c, xs, f, t, h1, h2, h3, h4, h5, h6, h7, hc1, hc2, hl, H1⟩ := (gG.f2).buf; exact h4
  have hE : s.lU i j l = lG s.c.L i j l := by unfold aX.lU; rw [if_pos hin]
  have hS : s.gy i j l = (s.jw (nP s.c.L i j l) (wo s.c.L s.c.pt i j l) (wu s.c.L s.c.mark i j l)).nI (yw s.c.L i j l, nU s.c.L i j l, nV s.c.L i j l) := by unfold aX.gy; rw [if_pos hin]
  have hln := aex (i := i) (j := j) (l := l) hL
  have hput : iH s.here s.put ≤ 16384 := gB.2.2.2.2.1
  have hsp : iH s.here s.put = iH (s.c.un s.c.place) [] + s.put.length := pV _ _
  have hok := abV (i := i) (j := j) (l := l) hL
  have hno := AQ (L := s.c.L) (i := i) (j := j) (l := l)
  refine aF (kY O O (bg 0 aj O aU O (bg 0 aK O kM O (dQ iL O (gG).get.2 O (ku O O (cO O (fH O func137 (Jb gG.f2 (fun W HW => hr _ (HW.right.right.right.right.right.right.right.right.right.right))) ?_)))))))
  rintro _ w3 ⟨d3, s3, rfl, H3⟩
  refine cO O (xY O O (xY O O (jT (iI (l := [_, _, _]) H3 cZ O) ?_)))
  rintro _ w4 ⟨b4, rfl, H4⟩
  refine aH (dR 0 (l' := [_, _, _]) (us := [_, _, _]) H4 bM O O O (aP (bD (by first | rfl | exact Rd.one ((H4.f2).aJ)) (bD (by first | rfl | exact Rd.one ((H4.f3).aJ)) bW))) O O) ?_
  rintro _ w5 H5
  refine vI O (bT O (aT (fA O O) (nS O (fun h2 => ?_) (fun h2 => ?_))))
  ·(try simp only [aG] at h2)
   refine bJ (bg 1 aQ O bI O (bJ (dQ aB O (H5).get.2 O (bJ (aT (kT ((H5.f2).aJ) aB O) (bJ (bg 2 aQ O bI O (bJ (dQ aB O (H5).get.2 O (bJ (aT (kT ((H5.f3).aJ) aB O) (bJ (aT (gY O O (by omega)) (bJ (aT (fZ O O) (mQ O O (jo O (fun h3 => ?_) (fun h3 => ?_))))))))))))))))))
   ·(try simp only [aG] at h3)
    have hlen : 0 < (nU s.c.L i j l).length + (nV s.c.L i j l).length := by omega
    refine aI (aI ?_)
    have ah3 := H5.drew
    have Tf := V.kp (ah3.f9.right.f13.f13.f13.f13.f13.f13.f13.f13.f13.f13.f13.f13.f13)
    refine tH [6] Tf O (fM 0 O Tf O (fM 3 O Tf O (jF 4 O Tf O (eP 5 O Tf 33 aj O bU O (iD 6 O Tf (fun W hW => jk aV O ((Kp.h hW).f5).get.2 O) (iE 7 O Tf (fun _ => fV ((ah3.f12).aJ) aV O) (lC 1 O (qW O func111 (AO ah3.f9.f8.f7)) ?_)))))))
    rintro _ w6 ⟨lp6, rfl, H6⟩
    have Am := V.kp (H6.right.f14.f14.f14.f14.f14.f14.f14.f14.f14.f14.f14.f14.f14.f14)
    refine dZ Am (fun W hW => (Kp.h hW).right.f13.f13.f13.f13.f13.f13.f8.f13.f9.f13.f13.f13.f13) ?_
    refine lC 2 O (qW O func138 (RN H6)) ?_
    rintro _ w7 ⟨rfl, H7⟩
    have Ak := V.kp (H7.f15.f15.f15.f15.f15.f15.f15.f15.f15.f15.f15.f15.f15.f15.f15)
    refine dZ Ak (fun W hW => (Kp.h hW).right.f14.f14.f14.f14.f14.f14.f14.f14.f14.f14.f14.f14.f14.f14) ?_
    refine iE 8 O Ak (fun _ => gY O O (by omega)) (iE 9 O Ak (fun _ => vT O O) ?_)
    have YW := H7.f2
    have QC := V.Nr YW
    refine oH (aZ (dw O (fun h4 => ?_) (fun h4 => ?_)))
    ·(try simp only [aG] at h4)
     have YX : 16384 ≤ iH (s.jw (nP s.c.L i j l) (wo s.c.L s.c.pt i j l) (wu s.c.L s.c.mark i j l)).here (s.jw (nP s.c.L i j l) (wo s.c.L s.c.pt i j l) (wu s.c.L s.c.mark i j l)).put := by show 16384 ≤ iH s.here s.put; omega
     refine bT O (fH O func111 (AO QC.f3.f3) ?_)
     rintro _ w10 ⟨amE, rfl, rU⟩
     refine fH O func139 (JF rU) ?_
     rintro _ Ii rE
     have WS := rE.f2
     have Uu := V.CQ WS
     refine iR (aF (ku O O (dM O (bg 33 aj O bU O (aH (ig 33 Uu.f2 bU) ?_)))))
     rintro _ O9 BJ
     refine dM O (bg 0 aj O aU O (bg 10 aK O aN O (aH (ig 10 BJ aN) ?_)))
     rintro _ Ry CJ
     refine iR ?_
     have ag5 := CJ.drew
     have LZ := V.kp (ag5.f14.f14.f14.f14.f14.f14.f14.f14.f14.f14.f14.f14.f14.f14)
     refine tH [4, 5] LZ O (fM 0 O LZ O (fM 1 O LZ O (jF 2 O LZ O (eP 3 O LZ 33 aj O bU O (iD 4 O LZ (fun W hW => jk aV O ((Kp.h hW)).get.2 O) (iD 5 O LZ (fun W hW => dU aQ O bM O O ((Kp.h hW).f4).get.2) (lC 6 O (qL ag5 aV bM cZ O O O (by decide) (by decide)) ?_)))))))
     rintro l16 w16 yG
     have GL := V.kp (yG.f15.f15.f15.f15.f15.f15.f15.f15.f15.f15.f15.f15.f15.f15.f15)
     refine dZ GL (fun W hW => (Kp.h hW).right.f14.f14.f14.f14.f14.f14.f14.f14.f14.f14.f14.f14.f14.f14) ?_
     refine lC 7 O (gK (yG.iV none) aV Ap O O O ((yG).aJ) (aP (bD (by first | rfl | exact Rd.one ((yG.f6).aJ)) (bD (by first | rfl | exact Rd.one ((yG.f7).aJ)) bW))) (by omega) (by omega)) ?_
     rintro l17 ZI DL
     have YZ := DL.f2.right
     have Bz := V.kp (YZ.f15.f15.f15.f15.f15.f15.f15.f15.f15.f15.f15.f15.f15.f15.f15)
     refine dX Bz (by kernel_rfl) ?_
     refine jF 8 O Bz O (eP 9 O Bz 33 aj O bU O ?_)
     refine gW 10 O (by kernel_rfl) (iw 33 (l' := [_, _, _, _, _, _, _, _, _, _, _, _, _, _, _, _, _, _, _, _, _, _, _, _, _, _, _, _, _, _, _, _, _, _]) YZ.f2 bU O O (by first | rfl | exact Rd.one ((YZ).aJ)) O O) ?_
     rintro _ X9 Df
     have EW := V.kp (Df.f15.f15.f15.f15.f15.f15.f15.f15.f15.f15.f15.f15.f15.f15.f15)
     refine dX EW (by kernel_rfl) ?_
     refine oH (aZ (bT O (iJ O (dO results74 O ?_))))
     have X := (Df.f5.right.f12.right.f12.right.f12.f12.f12.f6.f12.f8.f12.f12.f9.f10.f12.f12).mM.swap.mM.swap
     have X2 := V.zW (es := []) X.JA.f3.f3.f4
     exact ⟨by rw [hE]; rfl, by rw [hS, AV (x := (yw s.c.L i j l, nU s.c.L i j l, nV s.c.L i j l)) hlen YX]; exact V.aeu (s := { (s.jw (nP s.c.L i j l) (wo s.c.L s.c.pt i j l) (wu s.c.L s.c.mark i j l)).lY [] with put := [(yw s.c.L i j l, nU s.c.L i j l, nV s.c.L i j l)], c := { ((s.jw (nP s.c.L i j l) (wo s.c.L s.c.pt i j l) (wu s.c.L s.c.mark i j l)).lY []).c with run := false } }) (AV (x := (yw s.c.L i j l, nU s.c.L i j l, nV s.c.L i j l)) hlen YX ▸ QB (AP gB _ _ _) hok) O X2⟩
    ·(try simp only [aG] at h4)
     have YX : ¬ 16384 ≤ iH (s.jw (nP s.c.L i j l) (wo s.c.L s.c.pt i j l) (wu s.c.L s.c.mark i j l)).here (s.jw (nP s.c.L i j l) (wo s.c.L s.c.pt i j l) (wu s.c.L s.c.mark i j l)).put := by show ¬ 16384 ≤ iH s.here s.put; omega
     refine gX ?_
     have Vl := QC.drew
     have Aq := V.kp (Vl.f14.f14.f14.f14.f14.f14.f14.f14.f14.f14.f14.f14.f14.f14)
     refine tH [4, 5] Aq O (fM 0 O Aq O (fM 1 O Aq O (jF 2 O Aq O (eP 3 O Aq 33 aj O bU O (iD 4 O Aq (fun W hW => jk aV O ((Kp.h hW).f2).get.2 O) (iD 5 O Aq (fun W hW => dU aQ O bM O O ((Kp.h hW).f4).get.2) (lC 6 O (qL Vl aV bM cZ O O O (by decide) (by decide)) ?_)))))))
     rintro l20 ZJ DR
     have GX := V.kp (DR.f15.f15.f15.f15.f15.f15.f15.f15.f15.f15.f15.f15.f15.f15.f15)
     refine dZ GX (fun W hW => (Kp.h hW).right.f14.f14.f14.f14.f14.f14.f14.f14.f14.f14.f14.f14.f14.f14) ?_
     refine lC 7 O (gK DR.f13 aV Ap O O O ((DR).aJ) (aP (bD (by first | rfl | exact Rd.one ((DR.f6).aJ)) (bD (by first | rfl | exact Rd.one ((DR.f7).aJ)) bW))) (by omega) (by omega)) ?_
     rintro l21 Ya xZ
     have SK := xZ.f2.right
     have EX := V.kp (SK.f14.f14.f14.f14.f14.f14.f14.f14.f14.f14.f14.f14.f14.f14)
     refine dX EX (by kernel_rfl) ?_
     refine jF 8 O EX O (eP 9 O EX 33 aj O bU O ?_)
     refine gW 10 O (by kernel_rfl) (iw 33 (l' := [_, _, _, _, _, _, _, _, _, _, _, _, _, _, _, _, _, _, _, _, _, _, _, _, _, _, _, _, _, _, _, _, _, _]) SK.f3 bU O O (by first | rfl | exact Rd.one ((SK).aJ)) O O) ?_
     rintro _ Yb BM
     have AB := V.kp (BM.f14.f14.f14.f14.f14.f14.f14.f14.f14.f14.f14.f14.f14.f14)
     refine dX AB (by kernel_rfl) ?_
     refine oH (aZ (bT O (iJ O (dO results74 O ?_))))
     have X := (BM.f5.right.f13.f12.f12.f6.f12.f8.f12.f12.f9.f13.f11.f13.f13).mM.swap.mM.swap
     rw [← kK] at X
     have X2 := V.zW X.f3
     exact ⟨by rw [hE]; rfl, by rw [hS, AU (x := (yw s.c.L i j l, nU s.c.L i j l, nV s.c.L i j l)) hlen YX]; exact V.aeu (s := { s.jw (nP s.c.L i j l) (wo s.c.L s.c.pt i j l) (wu s.c.L s.c.mark i j l) with put := s.put ++ [(yw s.c.L i j l, nU s.c.L i j l, nV s.c.L i j l)] }) (AU (x := (yw s.c.L i j l, nU s.c.L i j l, nV s.c.L i j l)) hlen YX ▸ QB (AP gB _ _ _) hok) (by rw [List.map_append, dF]; rfl) X2⟩
   ·(try simp only [aG] at h3)
    have hlen : (nU s.c.L i j l).length + (nV s.c.L i j l).length = 0 := by omega
    refine gX (bT O (iJ O (dO results74 O ?_)))
    exact ⟨by rw [hE]; rfl, by rw [hS, E5 (x := (yw s.c.L i j l, nU s.c.L i j l, nV s.c.L i j l)) hlen]; exact V.iC (s := s.jw (nP s.c.L i j l) (wo s.c.L s.c.pt i j l) (wu s.c.L s.c.mark i j l)) (AP gB _ _ _) dF H5.right.right.right.f11.f11.f11.f11.f11.f11.f11.f11.f11.f10.f11⟩
  ·(try simp only [aG] at h2)
   have hlen : (nU s.c.L i j l).length + (nV s.c.L i j l).length = 0 := by rw [(hno h2).1, (hno h2).2]; rfl
   refine dB (dB (dB (dB (dB (dB (dB (dB (kP O O (iR (yh (gX (bT O (iJ O (dO results74 O ?_))))))))))))))
   exact ⟨by rw [hE]; rfl, by rw [hS, E5 (x := (yw s.c.L i j l, nU s.c.L i j l, nV s.c.L i j l)) hlen]; exact V.iC (s := s.jw (nP s.c.L i j l) (wo s.c.L s.c.pt i j l) (wu s.c.L s.c.mark i j l)) (AP gB _ _ _) dF H5.right.right.right.f11.f11.f11.f11.f11.f11.f11.f11.f11.f10.f11⟩
theorem Le (H : V w0 w (gQ e s • F)) (hr : jZ w0 F .i32 v l) : iK prog 91 #[.pointer (some ⟨e, 0, none⟩), v] w fun v' w' => v' = .int .i64 (s.KG l) ∧ V w0 w' (gQ e (s.BD l) • F) := by
 refine nO func91 ntmps91 ?_
 refine kG O (aI (bT O (fH O qF (jY H) ?_)))
 rintro _ _ ⟨rfl, rfl⟩
 refine iU O (bT O (aT (fF O O) (jo O (fun h1 => ?_) (fun h1 => ?_))))
 ·(try simp only [aG] at h1)
  obtain ⟨hin, hpe⟩ := uX h1
  refine bT O (iJ O (aC (dO results91 O ?_)))
  rw [hpe]
  exact ⟨by simp [aX.KG, aX.BD, aX.lU, aX.gy, hin], by rw [show s.BD l = s from by simp [aX.KG, aX.BD, aX.lU, aX.gy, hin]]; exact H⟩
 ·(try simp only [aG] at h1)
  have hin := qK h1
  refine gX (aI ?_)
  obtain ⟨vC, wF, wG, xC, wH, wI, wJ, wK, vF, rW, rX, rY, rZ, su, sD, sH, sJ, sK, sN, sO, gB, dF, kK, gG⟩ := (H).Gs
  have acJ := gG.drew
  have He := V.kp (acJ.f11.f11.f11.f11.f11.f11.f11.f11.f11.f11.f11)
  refine tH [5, 11] He O (fM 0 O He O (fM 1 O He O (jF 2 O He O (eP 3 O He 0 aj O aU O (eP 4 O He 0 aK O kM O (iD 5 O He (fun W hW => jk iL O ((Kp.h hW)).get.2 O) (fM 7 O He O (jF 8 O He O (eP 9 O He 0 aj O aU O (eP 10 O He 0 aK O kM O (iD 11 O He (fun W hW => jk iL O ((Kp.h hW)).get.2 O) (fM 13 O He O (lC 6 O (qW O func72 (wZ acJ.f2)) ?_)))))))))))))
  rintro _ _ ⟨rfl, rfl⟩
  have lW := V.kp (acJ.f11.f11.f11.f11.f11.f11.f11.f11.f11.f11.f11)
  refine dZ lW (fun W hW => (Kp.h hW).f11.f11.f11.f11.f11.f11.f11.f11.f11.f11.f11) ?_
  refine lC 12 O (qW O func72 (wZ acJ.f2)) ?_
  rintro _ _ ⟨rfl, rfl⟩
  have ng := V.kp (acJ.f11.f11.f11.f11.f11.f11.f11.f11.f11.f11.f11)
  refine dX ng (by kernel_rfl) ?_
  have LP := acJ.f11.f11.f11.f11.f11.f11.f11.f11.f11.f11.f11
  have Ih := V.iC (s := s) gB dF LP
  refine lC 14 O (qW O func74 (xW Ih (fun W HW => hr _ (HW)))) ?_
  rintro _ w8 ⟨rfl, H8⟩
  have Ip := V.kp (H8)
  refine dX Ip (by kernel_rfl) ?_
  refine iE 15 O Ip (fun _ => eH O) (oH (aZ (kN (dO results91 O ?_))))
  exact ⟨O, H8⟩
theorem Nw (H : V w0 w (gQ e s • F)) : iK prog 93 #[.pointer (some ⟨e, 0, none⟩), .int .i64 i, .int .i64 j] w fun v' w' => v' = .int .i64 (s.lU i j []) ∧ V w0 w' (gQ e (s.gy i j []) • F) := by
  refine FY func93 ntmps93 ?_
  refine kG O (bT O (ku O O (fH O func74 (xW H (fun W _ => mP.nil W _ none 0 (by decide))) ?_)))
  rintro _ w1 ⟨rfl, H1⟩
  refine iJ O (dO results93 O ?_)
  exact ⟨O, H1⟩
theorem acK (s : aX) (x : jH) : (s.nI x).cls = s.cls := by unfold aX.nI; split; rfl; split <;> rfl
theorem Vm (s : aX) (i j : Int) (l : List Int) : (s.gy i j l).cls = s.cls := by unfold aX.gy; split; rw [acK]; rfl; rfl
theorem Px (H : V w0 w (gQ e s • F)) (hr : jZ w0 F .i32 v l) (hl : (l.length : Int) ≤ 4611686018427387904) : iK prog 20 #[.pointer (some ⟨e, 0, none⟩), v] w fun v' w' => v' = .int .i64 (s.ET l) ∧ V w0 w' (gQ e (s.qM l) • F) := by
 refine nO func20 ntmps20 ?_
 refine kG O (aI (bT O (fH O qF (jY H) ?_)))
 rintro _ _ ⟨rfl, rfl⟩
 refine iU O (bT O (aT (fF O O) (jo O (fun h1 => ?_) (fun h1 => ?_))))
 ·(try simp only [aG] at h1)
  obtain ⟨hin, hpe⟩ := uX h1
  refine bT O (iJ O (aC (dO results20 O ?_)))
  rw [hpe]
  exact ⟨by simp [aX.ET, aX.qM, aX.lU, aX.gy, hin], by rw [show s.qM l = s from by simp [aX.ET, aX.qM, aX.lU, aX.gy, hin]]; exact H⟩
 ·(try simp only [aG] at h1)
  have hin := qK h1
  refine gX (aI ?_)
  obtain ⟨vC, wF, wG, xC, wH, wI, wJ, wK, vF, rW, rX, rY, rZ, su, sD, sH, sJ, sK, sN, sO, gB, dF, kK, gG⟩ := (H).Gs
  have hL : s.c.L.length ≤ 1024 ∧ 0 ≤ s.c.pt ∧ s.c.pt ≤ s.c.L.length := by obtain ⟨a, c, xs, f, t, h1, h2, h3, h4, h5, h6, h7, hc1, hc2, hl, H1⟩ := (gG.f2).buf; exact ⟨h4, h6⟩
  refine aF (kY O O (bg 0 aj O aU O (bg 0 aK O kM O (dQ iL O (gG).get.2 O (fH O func72 (wZ gG.f2) ?_)))))
  rintro _ _ ⟨rfl, rfl⟩
  refine vI O (bT O (dM O (bg 0 aj O aU O (bg 5 aK O aN O (dQ bn O (gG).get.2 O (jo O (fun h2 => ?_) (fun h2 => ?_)))))))
  ·(try simp only [aG] at h2)
   have hto : s.nH l = min (s.c.pt + l.length) s.c.L.length := by unfold aX.nH; rw [if_pos h2]
   refine aF (ku O O (aT (kT (hr _ (gG.right.right.right.right.right.right.right.right.right.right.right)) aB O) (aT (gY O O (by omega)) (kY O O (bg 0 aj O aU O (bg 0 aK O kM O (dQ iL O (gG).get.2 O (fH O func73 (tJ gG.f2) ?_))))))))
   rintro _ w4 ⟨rfl, hD4⟩
   have HD4 := gG.yg hD4
   refine aT (QO O O) (iU O (bT O (kY O O (bg 0 aj O aU O (bg 0 aK O kM O (dQ iL O (HD4).get.2 O (fH O func72 (wZ HD4.f2) ?_)))))))
   rintro _ _ ⟨rfl, rfl⟩
   have Qd := HD4.f11.f11.f11.f11.f11.f11.f11.f11.f11.f11.f11
   have Qe := V.iC (s := s) gB dF Qd
   refine ku O O (fH O func74 (xW Qe (fun W HW => hr _ (HW))) ?_)
   rintro _ w9 ⟨rfl, H9⟩
   have HT : V w0 w9 (gQ e (s.gy s.c.pt (s.nH l) l) • F) := by rw [hto]; exact H9
   have hc0 := Vm s s.c.pt (s.nH l) l
   have hE : s.ET l = s.lU s.c.pt (s.nH l) l := rfl
   rw [hto] at hE
   refine vI O (bT O (aT (fA O O) (nS O (fun h3 => ?_) (fun h3 => ?_))))
   ·(try simp only [aG] at h3)
    have hE0 := h3
    obtain ⟨vC, wF, wG, xC, wH, wI, wJ, wK, vF, rW, rX, rY, rZ, su, sD, sH, sJ, sK, sN, sO, gB, dF, kK, gG⟩ := (HT).Gs
    refine bJ (cO O (bJ (dM O (bJ (bg 28 aj O ah O (bJ (dQ ay O (gG).get.2 O (bJ (aT (fA O O) (mQ O O (jo O (fun h4 => ?_) (fun h4 => ?_))))))))))))
    ·(try simp only [aG] at h4)
     have hcl := h4
     refine aF (kY O O (bg 28 aj O ah O (aH (ig 28 gG ah) ?_)))
     rintro _ Ii rE
     refine qG O (iJ O (dO results20 O ?_))
     have e1 : s.qM l = { s.gy s.c.pt (s.nH l) l with cls := 3 } := by unfold aX.qM; rw [if_pos hin]; dsimp only; rw [if_pos ⟨hE.trans hE0, hc0.symm.trans hcl⟩]
     exact ⟨by rw [hE], by rw [e1]; exact V.iC (s := { s.gy s.c.pt (s.nH l) l with cls := 3 }) gB dF rE.f11.f11.f11.f11.f11.f11.f11.f11.f11.f11.f11⟩
    ·(try simp only [aG] at h4)
     have hcl := h4
     refine gX (bT O (iJ O (dO results20 O ?_)))
     have e1 : s.qM l = s.gy s.c.pt (s.nH l) l := by unfold aX.qM; rw [if_pos hin]; dsimp only; rw [if_neg (fun h => hcl (hc0.trans h.2))]
     exact ⟨by rw [hE], by rw [e1]; exact V.iC (s := s.gy s.c.pt (s.nH l) l) gB dF gG.f11.f11.f11.f11.f11.f11.f11.f11.f11.f11.f11⟩
   ·(try simp only [aG] at h3)
    have hE0 := h3
    refine dB (dB (dB (dB (dB (kP O O (iR (yh (gX (bT O (iJ O (dO results20 O ?_)))))))))))
    have e1 : s.qM l = s.gy s.c.pt (s.nH l) l := by unfold aX.qM; rw [if_pos hin]; dsimp only; rw [if_neg (fun h => hE0 (hE.symm.trans h.1))]
    exact ⟨by rw [hE], by rw [e1]; exact HT⟩
  ·(try simp only [aG] at h2)
   have hto : s.nH l = s.c.pt := by unfold aX.nH; rw [if_neg (by simp [h2])]
   refine gX (bT O (kY O O (bg 0 aj O aU O (bg 0 aK O kM O (dQ iL O (gG).get.2 O (fH O func72 (wZ gG.f2) ?_))))))
   rintro _ _ ⟨rfl, rfl⟩
   have LX := gG.f11.f11.f11.f11.f11.f11.f11.f11.f11.f11.f11
   have Fz := V.iC (s := s) gB dF LX
   refine ku O O (fH O func74 (xW Fz (fun W HW => hr _ (HW))) ?_)
   rintro _ w16 ⟨rfl, yG⟩
   have HT : V w0 w16 (gQ e (s.gy s.c.pt (s.nH l) l) • F) := by rw [hto]; exact yG
   have hc0 := Vm s s.c.pt (s.nH l) l
   have hE : s.ET l = s.lU s.c.pt (s.nH l) l := rfl
   rw [hto] at hE
   refine vI O (bT O (aT (fA O O) (nS O (fun h5 => ?_) (fun h5 => ?_))))
   ·(try simp only [aG] at h5)
    have hE0 := h5
    obtain ⟨vC, wF, wG, xC, wH, wI, wJ, wK, vF, rW, rX, rY, rZ, su, sD, sH, sJ, sK, sN, sO, gB, dF, kK, gG⟩ := (HT).Gs
    refine bJ (cO O (bJ (dM O (bJ (bg 28 aj O ah O (bJ (dQ ay O (gG).get.2 O (bJ (aT (fA O O) (mQ O O (jo O (fun h6 => ?_) (fun h6 => ?_))))))))))))
    ·(try simp only [aG] at h6)
     have hcl := h6
     refine aF (kY O O (bg 28 aj O ah O (aH (ig 28 gG ah) ?_)))
     rintro _ U5 DN
     refine qG O (iJ O (dO results20 O ?_))
     have e1 : s.qM l = { s.gy s.c.pt (s.nH l) l with cls := 3 } := by unfold aX.qM; rw [if_pos hin]; dsimp only; rw [if_pos ⟨hE.trans hE0, hc0.symm.trans hcl⟩]
     exact ⟨by rw [hE], by rw [e1]; exact V.iC (s := { s.gy s.c.pt (s.nH l) l with cls := 3 }) gB dF DN.f11.f11.f11.f11.f11.f11.f11.f11.f11.f11.f11⟩
    ·(try simp only [aG] at h6)
     have hcl := h6
     refine gX (bT O (iJ O (dO results20 O ?_)))
     have e1 : s.qM l = s.gy s.c.pt (s.nH l) l := by unfold aX.qM; rw [if_pos hin]; dsimp only; rw [if_neg (fun h => hcl (hc0.trans h.2))]
     exact ⟨by rw [hE], by rw [e1]; exact V.iC (s := s.gy s.c.pt (s.nH l) l) gB dF gG.f11.f11.f11.f11.f11.f11.f11.f11.f11.f11.f11⟩
   ·(try simp only [aG] at h5)
    have hE0 := h5
    refine dB (dB (dB (dB (dB (kP O O (iR (yh (gX (bT O (iJ O (dO results20 O ?_)))))))))))
    have e1 : s.qM l = s.gy s.c.pt (s.nH l) l := by unfold aX.qM; rw [if_pos hin]; dsimp only; rw [if_neg (fun h => hE0 (hE.symm.trans h.1))]
    exact ⟨by rw [hE], by rw [e1]; exact HT⟩
end
end Go.Proofs.YtnhhmieghbfalaaGreatDoor
end
