import Derived.Test.YtnhhmieghbfalaaGreatDoorZ4
import Derived.Test.YtnhhmieghbfalaaGreatDoorZ15
set_option linter.unusedSimpArgs false
set_option linter.unusedVariables false
/- Texts of mine, joined, their names in short: EdK EdF. -/
section
namespace Go.Proofs.YtnhhmieghbfalaaGreatDoor
open Go.RowKit
open _root_.Go.Proofs.Tryz
theorem acL {E : List (List Int)} {a : Nat} {way : Int} {l : List Int} (h : (oN E a way l).1 ≠ 0) : (oN E a way l).2 = (E, a) := by
  unfold oN at *
  repeat' split at h
  all_goals first | (simp at h; done) | skip
  all_goals (repeat' (first | rw [if_pos (by assumption)] | rw [if_neg (by assumption)])) <;> rfl
theorem Vo {s : aX} {i j : Int} {back : Bool} (h : (s.xQ i j back).1 ≠ 0) : (s.xQ i j back).2 = (s.c.E, s.c.at_) := acL h
theorem Y0 (s : aX) : s.jw s.c.L s.c.pt s.c.mark = s := rfl
theorem OD {s : aX} {i j : Int} {l : List Int} (h : s.lU i j l ≠ 0) : s.gy i j l = s := by
  unfold aX.gy aX.lU at *
  split
  · rename_i hin
    rw [if_pos hin] at h
    rw [E5 (by rw [(AQ h).1, (AQ h).2]; rfl)]
    unfold nP wo wu
    rw [if_neg h, if_neg h, if_neg h]
    exact Y0 s
  · rfl
theorem zJ {s : aX} {i j : Int} {back : Bool} (h : s.oZ i j back ≠ 0) : s.uS i j back = s := by unfold aX.uS; rw [if_neg h]
section
variable {w0 w : World} {F : HP} {e p h pr : Nat} {s : aX} {i j x : Int} {back : Bool} {v : Value} {l : List Int}
theorem Py (H : V w0 w (gQ e s • F)) : iK prog 98 #[.pointer (some ⟨e, 0, none⟩), .int .i64 i, .int .i64 j, .bool back] w fun v' w' => v' = .int .i64 (s.oZ i j back) ∧ V w0 w' (gQ e (s.uS i j back) • F) := by
 refine MJ func98 ntmps98 ?_
 refine kG O (aI (bT O (fH O qF (jY H) ?_)))
 rintro _ _ ⟨rfl, rfl⟩
 refine iU O (bT O (aT (fF O O) (jo O (fun h1 => ?_) (fun h1 => ?_))))
 ·(try simp only [aG] at h1)
  obtain ⟨hin, hpe⟩ := uX h1
  refine bT O (iJ O (aC (dO results98 O ?_)))
  rw [hpe]
  exact ⟨by simp [aX.oZ, aX.uS, hin], by rw [show s.uS i j back = s from by simp [aX.oZ, aX.uS, hin]]; exact H⟩
 ·(try simp only [aG] at h1)
  have hin := qK h1
  refine gX (aI (aI ?_))
  obtain ⟨vC, wF, wG, xC, wH, wI, wJ, wK, vF, rW, rX, rY, rZ, su, sD, sH, sJ, sK, sN, sO, gB, dF, kK, gG⟩ := (H).Gs
  have hL : s.c.L.length ≤ 1024 := by obtain ⟨a, c, xs, f, t, h1, h2, h3, h4, h5, h6, h7, hc1, hc2, hl, H1⟩ := (gG.f2).buf; exact h4
  refine aF (cO O (aT (fJ O O) (nS O (fun h2 => ?_) (fun h2 => ?_))))
  ·(try simp only [aG] at h2)
   refine dB (dB (dB (dB (dB (dB (dB (dB (mQ O O (cO O (dB (dB (dB (mQ O O (cO O (dB (dB (dB (dB (dB (dB (dB (dB (mQ O O (iR (DZ (jE O (aC (dO results98 O ?_))))))))))))))))))))))))))))
   have hb : s.qN i j := by unfold aX.qN; omega
   have hc : s.oZ i j back = 70 := by unfold aX.oZ; rw [if_pos hin, if_pos hb]
   exact ⟨by rw [hc], by rw [zJ (by rw [hc]; decide)]; exact V.iC gB dF gG.f11.f11.f11.f11.f11.f11.f11.f11.f11.f11.f11⟩
  ·(try simp only [aG] at h2)
   refine bJ (cO O (bJ (cO O (bJ (dM O (bJ (bg 0 aj O aU O (bJ (bg 0 aK O kM O (bJ (dQ iL O (gG).get.2 O (bJ (fH O func73 (tJ gG.f2) ?_)))))))))))))
   rintro _ w3 ⟨rfl, hD3⟩
   have HD3 := gG.yg hD3
   refine bJ (aT (fZ O O) (kP O O (nS O (fun h3 => ?_) (fun h3 => ?_))))
   ·(try simp only [aG] at h3)
    refine dB (dB (dB (mQ O O (cO O (dB (dB (dB (dB (dB (dB (dB (dB (mQ O O (iR (DZ (jE O (aC (dO results98 O ?_))))))))))))))))))
    have hb : s.qN i j := by unfold aX.qN; omega
    have hc : s.oZ i j back = 70 := by unfold aX.oZ; rw [if_pos hin, if_pos hb]
    exact ⟨by rw [hc], by rw [zJ (by rw [hc]; decide)]; exact V.iC gB dF HD3.f11.f11.f11.f11.f11.f11.f11.f11.f11.f11.f11⟩
   ·(try simp only [aG] at h3)
    refine bJ (cO O (bJ (cO O (bJ (aT (fJ O O) (kP O O (nS O (fun h4 => ?_) (fun h4 => ?_))))))))
    ·(try simp only [aG] at h4)
     refine dB (dB (dB (dB (dB (dB (dB (dB (mQ O O (iR (DZ (jE O (aC (dO results98 O ?_)))))))))))))
     have hb : s.qN i j := by unfold aX.qN; omega
     have hc : s.oZ i j back = 70 := by unfold aX.oZ; rw [if_pos hin, if_pos hb]
     exact ⟨by rw [hc], by rw [zJ (by rw [hc]; decide)]; exact V.iC gB dF HD3.f11.f11.f11.f11.f11.f11.f11.f11.f11.f11.f11⟩
    ·(try simp only [aG] at h4)
     refine bJ (cO O (bJ (cO O (bJ (dM O (bJ (bg 0 aj O aU O (bJ (bg 0 aK O kM O (bJ (dQ iL O (HD3).get.2 O (bJ (fH O func73 (tJ HD3.f2) ?_)))))))))))))
     rintro _ w4 ⟨rfl, hD4⟩
     have HD4 := HD3.yg hD4
     refine bJ (aT (fZ O O) (kP O O (jo O (fun h5 => ?_) (fun h5 => ?_))))
     ·(try simp only [aG] at h5)
      refine jE O (aC (dO results98 O ?_))
      have hb : s.qN i j := by unfold aX.qN; omega
      have hc : s.oZ i j back = 70 := by unfold aX.oZ; rw [if_pos hin, if_pos hb]
      exact ⟨by rw [hc], by rw [zJ (by rw [hc]; decide)]; exact V.iC gB dF HD4.f11.f11.f11.f11.f11.f11.f11.f11.f11.f11.f11⟩
     ·(try simp only [aG] at h5)
      refine gX (aI ?_)
      have hb : ¬ s.qN i j := by unfold aX.qN; omega
      have hc : s.oZ i j back = (s.xQ i j back).1 := by unfold aX.oZ; rw [if_pos hin, if_neg hb]
      refine aF (iU O ?_)
      refine yV [(0, _), (1, _), (2, _)] (fun (_ : Unit) => [(10, .int .i64 (s.way back))]) (fun (_ : Unit) W => W = w4) DK ?_ ?_
      ·rintro _ w5 rfl
       dsimp only [List.cons_append, List.nil_append]
       refine aI (aI ?_)
       have ag6 := HD4.drew
       have BI := V.kp (ag6.f11.f11.f11.f11.f11.f11.f11.f11.f11.f11.f11)
       refine tH [4, 10] BI O (fM 0 O BI O (jF 1 O BI O (eP 2 O BI 0 aj O aU O (eP 3 O BI 1 aK O sizeOf78 O (iD 4 O BI (fun W hW => jk xg O ((Kp.h hW)).get.2 O) (fM 5 O BI O (fM 6 O BI O (jF 7 O BI O (eP 8 O BI 0 aj O aU O (eP 9 O BI 0 aK O kM O (iD 10 O BI (fun W hW => jk iL O ((Kp.h hW)).get.2 O) (fM 12 O BI O (fM 13 O BI O (lC 11 O (qW O func154 (yF ag6.f2)) ?_))))))))))))))
       rintro u6 w6 H6
       have Am := V.kp (H6.f12.f12.f12.f12.f12.f12.f12.f12.f12.f12.f12.f12)
       refine dZ Am (fun W hW => (Kp.h hW).right.f11.f11.f11.f11.f11.f11.f11.f11.f11.f10.f11) ?_
       refine iE 14 O Am (fun _ => rP ((H6).aJ) aB jU O O O (by omega)) ?_
       refine lC 15 O (qW O func153 (Un H6.f4 (fun W HW => mP.cut ((HW).aJ) (by omega) (by omega)))) ?_
       rintro _ w7 ⟨rfl, H7⟩
       have Ak := V.kp (H7.f12.f12.f12.f12.f12.f12.f12.f12.f12.f12.f12.f12)
       refine dX Ak (by kernel_rfl) ?_
       refine iE 16 O Ak (fun _ => eH O) (oH (aZ (bT O (aT (fF O O) (jo O (fun h6 => ?_) (fun h6 => ?_))))))
       ·(try simp only [aG] at h6)
        refine bT O (iJ O (aC (dO results98 O ?_)))
        exact ⟨by rw [hc]; rfl, by rw [zJ (by rw [hc]; assumption)]; have HX := H7.f2.right.f11.f11.f11.f11.f11.f11.f11.f11.f9.f10.f11; rw [show oN s.c.E s.c.at_ (s.way back) ((s.c.L.drop i.toNat).take (j.toNat - i.toNat)) = s.xQ i j back from O, Vo (by assumption)] at HX; exact V.iC gB dF HX⟩
       ·(try simp only [aG] at h6)
        refine gX (bT O (kY O O (bg 29 aj O aN O (aH (ig 29 H7.f4 aN) ?_))))
        rintro _ w8 H8
        refine dM O (bg 28 aj O ah O (aH (ig 28 H8 ah) ?_))
        rintro _ w9 H9
        refine iR (jE O (dO results98 O ?_))
        have hc0 : s.oZ i j back = 0 := by rw [hc]; assumption
        have hs : s.uS i j back = { s.pU (s.xQ i j back).2.1 (s.xQ i j back).2.2 with lS := true, cls := 1 } := by unfold aX.uS; rw [if_pos hc0]
        exact ⟨by rw [hc0], by rw [hs]; exact V.iC (s := { s.pU (s.xQ i j back).2.1 (s.xQ i j back).2.2 with lS := true, cls := 1 }) gB dF H9.f3.right.f11.f11.f11.f11.f11.f11.f11.f11.f10.f11.f11⟩
      ·skip
       refine bT O (dM O (bg 0 aj O aU O (bg 6 aK O ah O (dQ ay O (HD4).get.2 O (aT (fA O O) (nS O (fun h7 => ?_) (fun h7 => ?_)))))))
       ·(try simp only [aG] at h7)
        refine dB (dB (dB (dB (mQ O O (iR (DZ (kG O (bT O (jo O (fun h8 => ?_) (fun h8 => ?_))))))))))
        ·(try simp only [aG] at h8)
         refine aF (lg O (dJ ?_))
         refine ji (()) ?_ ?_ ?_
         ·exact (Sub.vG O (by unfold aX.way; simp_all) (Sub.nil _))
         ·exact DK
         ·(try dsimp only)
          first | done | exact rfl
        ·(try simp only [aG] at h8)
         refine eG ?_
         refine ji (()) ?_ ?_ ?_
         ·exact (Sub.vG O (by unfold aX.way; simp_all) (Sub.nil _))
         ·exact DK
         ·(try dsimp only)
          first | done | exact rfl
       ·(try simp only [aG] at h7)
        refine bJ (cO O (bJ (dM O (bJ (bg 29 aj O aN O (bJ (dQ bn O (HD4).get.2 O (kP O O (jo O (fun h9 => ?_) (fun h9 => ?_))))))))))
        ·(try simp only [aG] at h9)
         refine kG O (bT O (jo O (fun h10 => ?_) (fun h10 => ?_)))
         ·(try simp only [aG] at h10)
          refine aF (lg O (dJ ?_))
          refine ji (()) ?_ ?_ ?_
          ·exact (Sub.vG O (by unfold aX.way; simp_all) (Sub.nil _))
          ·exact DK
          ·(try dsimp only)
           first | done | exact rfl
         ·(try simp only [aG] at h10)
          refine eG ?_
          refine ji (()) ?_ ?_ ?_
          ·exact (Sub.vG O (by unfold aX.way; simp_all) (Sub.nil _))
          ·exact DK
          ·(try dsimp only)
           first | done | exact rfl
        ·(try simp only [aG] at h9)
         refine eG ?_
         refine ji (()) ?_ ?_ ?_
         ·exact (Sub.vG O (by unfold aX.way; simp_all) (Sub.nil _))
         ·exact DK
         ·(try dsimp only)
          first | done | exact rfl
theorem Y1 (H : V w0 w (gQ e s • F)) : iK prog 96 #[.pointer (some ⟨e, 0, none⟩), .int .i64 i, .int .i64 j, .bool back] w fun v' w' => v' = .int .i64 (s.Vb i j back) ∧ V w0 w' (gQ e (s.zZ i j back) • F) := by
  refine MJ func96 ntmps96 ?_
  refine kG O (aI (bT O (ku O O (cO O (fH O func98 (Py H) ?_)))))
  rintro _ w1 ⟨rfl, H1⟩
  refine iU O (bT O (aT (fF O O) (jo O (fun h1 => ?_) (fun h1 => ?_))))
  · (try simp only [aG] at h1)
    have hc := h1
    refine bT O (iJ O (aC (dO results96 O ?_)))
    exact ⟨by unfold aX.Vb; rw [if_neg hc], by unfold aX.zZ; rw [if_neg hc]; have HX := H1; rw [zJ hc] at HX; exact HX⟩
  · (try simp only [aG] at h1)
    have hc := h1
    refine gX (bT O (ku O O (fH O func93 (Nw H1) ?_)))
    rintro _ w2 ⟨rfl, H2⟩
    refine iJ O (dO results96 O ?_)
    exact ⟨by unfold aX.Vb; rw [if_pos hc], by unfold aX.zZ; rw [if_pos hc]; exact H2⟩
theorem JK {E : List (List Int)} (h : ∀ x ∈ E, x.length ≤ 1024) (k : Nat) : (E.getD k []).length ≤ 1024 := by
  rw [List.getD_eq_getElem?_getD]
  cases hk : E[k]? with
  | none => simp
  | some x => exact h x (List.mem_of_getElem? hk)
theorem Y2 (H : V w0 w (gQ e s • F)) : iK prog 100 #[.pointer (some ⟨e, 0, none⟩)] w fun v' w' => v' = .int .i64 s.yN ∧ V w0 w' (gQ e s.ql • F) := by
 refine jl func100 ntmps100 ?_
 refine kG O (aI (bT O (fH O qF (jY H) ?_)))
 rintro _ _ ⟨rfl, rfl⟩
 refine iU O (bT O (aT (fF O O) (jo O (fun h1 => ?_) (fun h1 => ?_))))
 ·(try simp only [aG] at h1)
  obtain ⟨hin, hpe⟩ := uX h1
  refine bT O (iJ O (aC (dO results100 O ?_)))
  rw [hpe]
  exact ⟨by simp [aX.yN, aX.ql, hin], by rw [show s.ql = s from by simp [aX.yN, aX.ql, hin]]; exact H⟩
 ·(try simp only [aG] at h1)
  have hin := qK h1
  refine gX (aI ?_)
  obtain ⟨vC, wF, wG, xC, wH, wI, wJ, wK, vF, rW, rX, rY, rZ, su, sD, sH, sJ, sK, sN, sO, gB, dF, kK, gG⟩ := (H).Gs
  have hL : s.c.L.length ≤ 1024 ∧ 0 ≤ s.c.pt ∧ s.c.pt ≤ s.c.L.length := by obtain ⟨a, c, xs, f, t, h1, h2, h3, h4, h5, h6, h7, hc1, hc2, hl, H1⟩ := (gG.f2).buf; exact ⟨h4, h6⟩
  have hR := JK (LU (gG.f3)).2.2 s.c.at_
  have hY : s.yN = if s.c.E.length = 0 then 6 else s.KG s.top := by unfold aX.yN; rw [if_pos hin]
  refine aF (kY O O (bg 0 aj O aU O (bg 1 aK O sizeOf78 O (dQ xg O (gG).get.2 O (fH O func155 (Ur gG.f3) ?_)))))
  rintro _ w3 ⟨u3, rfl, H3⟩
  refine cO O (xY O O (xY O O (lg O (vI O (bT O (aT (fF O O) (jo O (fun h2 => ?_) (fun h2 => ?_))))))))
  ·(try simp only [aG] at h2)
   have h6 : s.c.E.length = 0 := by by_cases hx : s.c.E.length = 0; exact hx; exact absurd (if_neg hx) h2
   rw [if_pos h6] at hY
   refine bT O (iJ O (aC (dO results100 O ?_)))
   exact ⟨by rw [hY]; show Value.int _ (if s.c.E.length = 0 then 6 else 0) = _; rw [if_pos h6], by rw [show s.ql = s from by unfold aX.ql; rw [if_neg (by rw [hY]; decide)]]; exact V.iC gB dF H3.right.f11.f11.f11.f11.f11.f11.f11.f11.f9.f11.f11⟩
  ·(try simp only [aG] at h2)
   have h6 : ¬ s.c.E.length = 0 := fun hx => by rw [if_pos hx] at h2; exact absurd h2 (by decide)
   rw [if_neg h6] at hY
   refine gX (bT O (dM O (bg 0 aj O aU O (bg 0 aK O kM O (dQ iL O (H3.f3).get.2 O (fH O func72 (wZ H3.f4) ?_))))))
   rintro _ _ ⟨rfl, rfl⟩
   refine lg O ?_
   have LP := H3.f12.f12.f12.f12.f12.f12.f12.f12.f10.f12.f12
   have Ih := V.iC (s := s) gB dF LP
   refine uV (bT O (cO O (fH O func91 (Le Ih (fun W HW => (HW).aJ)) ?_)))
   rintro _ w8 ⟨rfl, H8⟩
   refine iU O (bT O (aT (fF O O) (jo O (fun h3 => ?_) (fun h3 => ?_))))
   ·(try simp only [aG] at h3)
    have hI : s.KG s.top ≠ 0 := h3
    refine bT O (iJ O (aC (dO results100 O ?_)))
    exact ⟨by rw [hY]; rfl, by rw [show s.ql = s from by unfold aX.ql; rw [if_neg (by rw [hY]; exact hI)]]; have HX := H8.f2.right; rw [show s.BD (s.c.E.getD s.c.at_ []) = s from OD hI] at HX; exact HX⟩
   ·(try simp only [aG] at h3)
    have hI : s.KG s.top = 0 := h3
    obtain ⟨vC, wF, wG, xC, wH, wI, wJ, wK, vF, rW, rX, rY, rZ, su, sD, sH, sJ, sK, sN, sO, gB, dF, kK, gG⟩ := (H8).Gs
    refine gX (bT O (dM O (bg 0 aj O aU O (bg 0 aK O kM O (dQ iL O (gG).get.2 O (cO O (fH O func86 (Jc gG.f2) ?_)))))))
    rintro _ w10 ⟨rfl, rU⟩
    refine qG O (kY O O (bg 30 aj O aN O (aH (ig 30 rU.f2 aN) ?_)))
    rintro _ Ii rE
    refine dM O (bg 28 aj O ah O (aH (ig 28 rE ah) ?_))
    rintro _ w12 uP
    refine qG O (ku O O (ku O O (aT (kT ((uP.f12).aJ) aB O) (aT (gY O O (by omega)) (dM O (bg 0 aj O aU O (bg 7 aK O ah O (aH (ig 7 uP ah) ?_))))))))
    rintro _ P7 AZ
    refine dM O (bg 0 aj O aU O (bg 8 aK O ah O (aH (ig 8 AZ ah) ?_)))
    rintro _ O9 BJ
    refine iR (jE O (dO results100 O ?_))
    have hs : s.ql = { s.BD s.top with jc := true, cls := 2, c := { (s.BD s.top).c with mark := ZL (s.BD s.top).c.L (s.BD s.top).c.mark s.c.pt, fr := s.c.pt, to := s.c.pt + s.top.length } } := by unfold aX.ql; rw [if_pos (hY.trans hI)]
    exact ⟨by rw [hY, hI], by rw [hs]; exact V.iC (s := { s.BD s.top with jc := true, cls := 2, c := { (s.BD s.top).c with mark := ZL (s.BD s.top).c.L (s.BD s.top).c.mark s.c.pt, fr := s.c.pt, to := s.c.pt + s.top.length } }) gB dF BJ.f12.right.f11.f11.f11.f11.f11.f11.f11.f11.f11.f11.f11⟩
theorem L6 {L : List Int} {i j : Int} {l : List Int} (h : lG L i j l = 0) : 0 ≤ i ∧ i ≤ L.length := by
  unfold lG at h
  split at h
  · cases h
  · omega
theorem aey (s : aX) (x : jH) : (s.nI x).c.fr = s.c.fr := by unfold aX.nI; split; rfl; split <;> rfl
theorem aez (s : aX) (i j : Int) (l : List Int) : (s.gy i j l).c.fr = s.c.fr := by unfold aX.gy; split; rw [aey]; rfl; rfl
theorem agm (s : aX) (x : jH) : (s.nI x).c.E = s.c.E := by unfold aX.nI; split; rfl; split <;> rfl
theorem agn (s : aX) (i j : Int) (l : List Int) : (s.gy i j l).c.E = s.c.E := by unfold aX.gy; split; rw [agm]; rfl; rfl
theorem aaG (H : V w0 w (gQ e s • F)) : iK prog 102 #[.pointer (some ⟨e, 0, none⟩), .int .i64 x] w fun v' w' => v' = .int .i64 (s.EU x) ∧ V w0 w' (gQ e (s.zF x) • F) := by
 refine nO func102 ntmps102 ?_
 refine kG O (aI (bT O (fH O qF (jY H) ?_)))
 rintro _ _ ⟨rfl, rfl⟩
 refine iU O (bT O (aT (fF O O) (jo O (fun h1 => ?_) (fun h1 => ?_))))
 ·(try simp only [aG] at h1)
  obtain ⟨hin, hpe⟩ := uX h1
  refine bT O (iJ O (aC (dO results102 O ?_)))
  rw [hpe]
  exact ⟨by simp [aX.EU, aX.zF, hin], by rw [show s.zF x = s from by simp [aX.EU, aX.zF, hin]]; exact H⟩
 ·(try simp only [aG] at h1)
  have hin := qK h1
  refine gX (aI (aI ?_))
  obtain ⟨vC, wF, wG, xC, wH, wI, wJ, wK, vF, rW, rX, rY, rZ, su, sD, sH, sJ, sK, sN, sO, gB, dF, kK, gG⟩ := (H).Gs
  have hL : s.c.L.length ≤ 1024 := by obtain ⟨a, c, xs, f, t, h1, h2, h3, h4, h5, h6, h7, hc1, hc2, hl, H1⟩ := (gG.f2).buf; exact h4
  have hR := JK (LU (gG.f3)).2.2 (zC s.c.E.length s.c.at_ x)
  refine aF (kY O O (bg 0 aj O aU O (bg 6 aK O ah O (dQ ay O (gG).get.2 O (aT (fF O O) (nS O (fun h2 => ?_) (fun h2 => ?_)))))))
  ·(try simp only [aG] at h2)
   refine dB (dB (dB (dB (mQ O O (iR (DZ (jE O (aC (dO results102 O ?_)))))))))
   have hb : s.c.last ≠ 2 ∨ s.jc = true := by simp_all
   have hP : s.EU x = 6 := by unfold aX.EU; rw [if_pos hin, if_pos hb]
   exact ⟨by rw [hP], by rw [show s.zF x = s from by unfold aX.zF; rw [if_neg (by rw [hP]; decide)]]; exact V.iC gB dF gG.f11.f11.f11.f11.f11.f11.f11.f11.f11.f11.f11⟩
  ·(try simp only [aG] at h2)
   refine bJ (cO O (bJ (dM O (bJ (bg 30 aj O aN O (bJ (dQ bn O (gG).get.2 O (kP O O (jo O (fun h3 => ?_) (fun h3 => ?_))))))))))
   ·(try simp only [aG] at h3)
    refine jE O (aC (dO results102 O ?_))
    have hb : s.c.last ≠ 2 ∨ s.jc = true := by simp_all
    have hP : s.EU x = 6 := by unfold aX.EU; rw [if_pos hin, if_pos hb]
    exact ⟨by rw [hP], by rw [show s.zF x = s from by unfold aX.zF; rw [if_neg (by rw [hP]; decide)]]; exact V.iC gB dF gG.f11.f11.f11.f11.f11.f11.f11.f11.f11.f11.f11⟩
   ·(try simp only [aG] at h3)
    refine gX (aI ?_)
    have hb : ¬ (s.c.last ≠ 2 ∨ s.jc = true) := by simp_all
    have hP : s.EU x = if s.c.E.length = 0 then 6 else s.lU s.c.fr s.c.to (s.BF x) := by unfold aX.EU; rw [if_pos hin, if_neg hb]
    refine aF (kY O O (bg 0 aj O aU O (bg 1 aK O sizeOf78 O (dQ xg O (gG).get.2 O (fH O func79 (EP gG.f3) ?_)))))
    rintro _ w3 ⟨pc3, rfl, H3⟩
    refine iU O (bT O (cO O (fH O func126 (Je H3) ?_)))
    rintro _ w4 ⟨u4, rfl, H4⟩
    refine cO O (xY O O (xY O O (lg O (vI O (bT O (aT (fF O O) (jo O (fun h4 => ?_) (fun h4 => ?_))))))))
    ·(try simp only [aG] at h4)
     have h6 : s.c.E.length = 0 := by by_cases hx : s.c.E.length = 0; exact hx; exact absurd (if_neg hx) h4
     rw [if_pos h6] at hP
     refine bT O (iJ O (aC (dO results102 O ?_)))
     exact ⟨by rw [hP]; show Value.int _ (if s.c.E.length = 0 then 6 else 0) = _; rw [if_pos h6], by rw [show s.zF x = s from by unfold aX.zF; rw [if_neg (by rw [hP]; decide)]]; exact V.iC gB dF H4.right.right.f11.f11.f11.f11.f11.f11.f11.f11.f9.f11.f11⟩
    ·(try simp only [aG] at h4)
     have h6 : ¬ s.c.E.length = 0 := fun hx => by rw [if_pos hx] at h4; exact absurd h4 (by decide)
     rw [if_neg h6] at hP
     have HX := H4
     simp only [if_neg h6] at HX
     refine gX (aI (aI ?_))
     have ag7 := HX.drew
     have CS := V.kp (ag7.f13.f13.f13.f13.f13.f13.f13.f13.f13.f13.f13.f13.f13)
     refine tH [5, 10] CS O (fM 0 O CS O (fM 1 O CS O (jF 2 O CS O (eP 3 O CS 0 aj O aU O (eP 4 O CS 7 aK O ah O (iD 5 O CS (fun W hW => jk ay O ((Kp.h hW).f4).get.2 O) (fM 6 O CS O (jF 7 O CS O (eP 8 O CS 0 aj O aU O (eP 9 O CS 8 aK O ah O (iD 10 O CS (fun W hW => jk ay O ((Kp.h hW).f4).get.2 O) (fM 11 O CS O ?_))))))))))))
     have LP := ag7.f13.f13.f13.f13.f13.f13.f13.f13.f11.f13.f13
     have Ih := V.iC (s := s) gB dF LP
     refine lC 12 O (qW O func74 (xW Ih (fun W HW => (HW).aJ))) ?_
     rintro _ w8 ⟨rfl, H8⟩
     have Ip := V.kp (H8.f3.f3.f3)
     refine dX Ip (by kernel_rfl) ?_
     refine iE 13 O Ip (fun _ => eH O) (oH (aZ (bT O (aT (fF O O) (jo O (fun h5 => ?_) (fun h5 => ?_))))))
     ·(try simp only [aG] at h5)
      have hI : s.lU s.c.fr s.c.to (s.BF x) ≠ 0 := h5
      refine bT O (iJ O (aC (dO results102 O ?_)))
      exact ⟨by rw [hP]; rfl, by rw [show s.zF x = s from by unfold aX.zF; rw [if_neg (by rw [hP]; exact hI)]]; have HX := H8.f2.right.f2.right; rw [show s.gy s.c.fr s.c.to (s.c.E.getD (zC s.c.E.length s.c.at_ x) []) = s from OD hI] at HX; exact HX⟩
     ·(try simp only [aG] at h5)
      have hI : s.lU s.c.fr s.c.to (s.BF x) = 0 := h5
      have hrg : 0 ≤ s.c.fr ∧ s.c.fr ≤ s.c.L.length := L6 (by unfold aX.lU at hI; rw [if_pos hin] at hI; exact hI)
      obtain ⟨vC, wF, wG, xC, wH, wI, wJ, wK, vF, rW, rX, rY, rZ, su, sD, sH, sJ, sK, sN, sO, gB, dF, kK, gG⟩ := (H8).Gs
      have hfr := aez s s.c.fr s.c.to (s.BF x)
      have hEE := agn s s.c.fr s.c.to (s.BF x)
      unfold aX.BF at hfr
      refine gX (bT O (ku O O (kY O O (bg 0 aj O aU O (bg 1 aK O sizeOf78 O (aH (ig 1 gG sizeOf78) ?_))))))
      rintro _ w10 rU
      refine dM O (bg 30 aj O aN O (aH (ig 30 rU aN) ?_))
      rintro _ Ii rE
      refine dM O (bg 28 aj O ah O (aH (ig 28 rE ah) ?_))
      rintro _ w12 uP
      refine qG O (kY O O (bg 0 aj O aU O (bg 7 aK O ah O (dQ ay O (uP).get.2 O (cO O (aT (kT ((uP.f12).aJ) aB O) (aT (gY O O (by omega)) (dM O (bg 0 aj O aU O (bg 8 aK O ah O (aH (ig 8 uP ah) ?_)))))))))))
      rintro _ P7 AZ
      refine iR (jE O (dO results102 O ?_))
      have hs : s.zF x = { s.gy s.c.fr s.c.to (s.BF x) with jc := true, cls := 2, c := { (s.gy s.c.fr s.c.to (s.BF x)).c with E := s.c.E, at_ := zC s.c.E.length s.c.at_ x, fr := s.c.fr, to := s.c.fr + (s.BF x).length } } := by unfold aX.zF; rw [if_pos (hP.trans hI)]
      have HX := AZ.f3.right.f11.right.f10.f10.f10.f10.f10.f10.f10.f10.f11.f11.f11
      rw [hfr] at HX
      exact ⟨by rw [hP, hI], by rw [hs]; exact V.iC (s := { s.gy s.c.fr s.c.to (s.BF x) with jc := true, cls := 2, c := { (s.gy s.c.fr s.c.to (s.BF x)).c with E := s.c.E, at_ := zC s.c.E.length s.c.at_ x, fr := s.c.fr, to := s.c.fr + (s.BF x).length } }) gB dF HX⟩
end
theorem agp : (prog.info? 143).map (fun i => (i.zero, i.size, i.bytes)) = some (some (.agg #[.int .i64 0, .slice none 0 0, .slice none 0 0]), 3, 56) := by kernel_rfl
def abW (c : Nat) (g : List jH) : HP := BK fun (x : Value × List gJ) => fact (x.2.map gJ.says = g) • gU c (.cells #[x.1] 56 (0, 0)) • Row 143 3 x.1 x.2.length (x.2.flatMap gJ.enc) • oK x.2
section
variable {w0 w : World} {F : HP} {e p c n m : Nat} {s : aX} {i j x : Int} {on : Bool} {v : Value} {g : List jH} {Gi es : List gJ} {xs : List Value}
theorem Qo (H : V w0 w F) (hr : Ht w0 F 3 v n xs) (hon : ∀ u ∈ xs, u.oneCell' = true) (hb : n ≤ 1099511627776) :
    iK prog 113 #[v] w fun v' w' => V w0 w' (Row 143 3 v' n xs • F) := by
  obtain ⟨hlen, a, c, rfl, h2, h3, h4⟩ := hr w H
  refine jl func113 ntmps113 ?_
  refine kG O (aI (bT O (aT (Jr aV O O) ?_)))
  refine jo O (fun h1 => ?_) (fun h1 => ?_)
  · (try simp only [aG] at h1)
    refine jE O (aC (dO results113 O ?_))
    obtain rfl : a = none := by simpa using h1
    obtain rfl : n = 0 := by
      rcases Nat.eq_zero_or_pos n with h | h
      · exact h
      · obtain ⟨b, o, e, _⟩ := h4 h; cases e
    obtain rfl : xs = [] := List.eq_nil_of_length_eq_zero (by omega)
    exact H.iV none
  · (try simp only [aG] at h1)
    refine gX (kQ (jT (Rl H aV bM cZ) ?_))
    rintro _ w1 H1
    refine cO O (jT (gK H1 aV agp O O O (hr.under _ H1) hon (by omega) (by omega)) ?_)
    rintro _ w2 H2
    refine iJ O (dO results113 O ?_)
    exact H2.of_eq (by rw [Nat.zero_add, List.nil_append])
theorem V.old (H : V w0 w (abW c g • F)) : ∃ v es, es.map gJ.says = g ∧ V w0 w (gU c (.cells #[v] 56 (0, 0)) • Row 143 3 v es.length (es.flatMap gJ.enc) • oK es • F) := by
  obtain ⟨⟨v, es⟩, H⟩ := H.sS
  obtain ⟨h, H⟩ := H.flat.fact
  exact ⟨v, es, h, H.of_eq (by simp only [eX])⟩
theorem V.aeA (h : es.map gJ.says = g) (H : V w0 w (gU c (.cells #[v] 56 (0, 0)) • Row 143 3 v es.length (es.flatMap gJ.enc) • oK es • F)) : V w0 w (abW c g • F) :=
  V.lK (v, es) (V.deep (V.qY h (H.of_eq (by simp only [eX]))))
theorem V.agq (hg : g = []) (H : V w0 w (gU c (.cells #[.slice none 0 0] 56 (0, 0)) • F)) : V w0 w (abW c g • F) :=
  V.aeA (v := .slice none 0 0) (es := []) hg.symm ((H.zA none).of_eq (by unfold Qv; ac_rfl))
theorem V.QD (hm : m = es.length) (H : V w0 w (Row 143 3 v (Gi.length + m) (Gi.flatMap gJ.enc ++ es.flatMap gJ.enc) • oK Gi • oK es • F)) : V w0 w (Row 143 3 v (Gi ++ es).length ((Gi ++ es).flatMap gJ.enc) • oK (Gi ++ es) • F) := by
  subst hm
  have h1 : V w0 w (oK Gi • oK es • Row 143 3 v (Gi.length + es.length) (Gi.flatMap gJ.enc ++ es.flatMap gJ.enc) • F) := H.of_eq (by ac_rfl)
  have h2 : V w0 w (oK (Gi ++ es) • Row 143 3 v (Gi.length + es.length) (Gi.flatMap gJ.enc ++ es.flatMap gJ.enc) • F) := h1.I5 (xJ (fun I h g => h.app g) _)
  exact h2.swap.of_eq (by rw [List.length_append, List.flatMap_append])
def aeB (s : aX) (on : Bool) (Gi : List gJ) (G1 : List (List jH)) : Prop := iH G1 [] + Gi.length = iH s.here [] ∧ (∀ e ∈ Gi, BO e.says) ∧ s.jJ on = G1 ++ [Gi.map gJ.says ++ s.put]
theorem acM (hp : s.put ≠ []) (hn : on = false) : aeB s on [] s.here := by
  subst hn
  refine ⟨by simp, by simp, ?_⟩
  unfold aX.jJ
  rw [if_neg hp, if_neg (by decide)]
  rfl
theorem Ej : ∀ {G : List (List jH)}, G ≠ [] → (G.dropLast.map List.length).sum + (G.getLastD []).length = (G.map List.length).sum := by
  intro G hG
  have h := List.dropLast_concat_getLast hG
  have h2 : G.getLastD [] = G.getLast hG := by rw [List.getLastD_eq_getLast?, List.getLast?_eq_some_getLast hG]; rfl
  rw [h2]
  conv => rhs; rw [← h]
  simp
theorem Y3 (hp : s.put ≠ []) (hn : on = true) (hO : ∀ g ∈ s.here, ∀ e ∈ g, BO e) (h : Gi.map gJ.says = s.here.getLastD []) : aeB s on Gi s.here.dropLast := by
  subst hn
  have hlen : Gi.length = (s.here.getLastD []).length := by rw [← h]; simp
  have hm : ∀ e ∈ Gi, e.says ∈ s.here.getLastD [] := fun e he => by rw [← h]; exact List.mem_map.2 ⟨e, he, rfl⟩
  unfold aeB aX.jJ
  rw [if_neg hp, if_pos rfl]
  by_cases h0 : s.here = []
  · rw [h0] at h hlen hm
    have : Gi = [] := List.eq_nil_of_length_eq_zero (by simpa using hlen)
    subst this
    rw [h0]
    exact ⟨by simp, by simp, rfl⟩
  · have h2 : s.here.getLastD [] = s.here.getLast h0 := by rw [List.getLastD_eq_getLast?, List.getLast?_eq_some_getLast h0]; rfl
    refine ⟨?_, fun e he => hO _ (List.getLast_mem h0) _ (h2 ▸ hm e he), ?_⟩
    · have := Ej h0
      show (s.here.dropLast.map List.length).sum + 0 + Gi.length = (s.here.map List.length).sum + 0
      rw [hlen]; omega
    · rw [List.getLast?_eq_some_getLast h0, h, h2]
theorem Ti (G : List (List jH)) : LV G [] = G.reverse := by unfold LV rF; rw [if_pos rfl]
theorem aaH (G : List (List jH)) : (LV G []).getD 0 [] = G.getLastD [] := by
  rw [Ti, List.getD_eq_getElem?_getD, List.getLastD_eq_getLast?]
  congr 1
  cases G.eq_nil_or_concat with
  | inl h => subst h; rfl
  | inr h => obtain ⟨L, b, rfl⟩ := h; simp
theorem aeC {G : List (List jH)} (h : UOk G [] 0) : (∀ g ∈ LV G [], ∀ e ∈ g, EB e) ∧ ∀ g ∈ LV G [], g.length ≤ 16384 := by
  rw [Ti]
  refine ⟨fun g hg => h.2.2.2.2.1 g (List.mem_reverse.1 hg), fun g hg => ?_⟩
  have h1 := Nl (List.mem_reverse.1 hg)
  have h2 := h.2.1
  unfold iH at h2
  simp at h2; omega
theorem WX (G : List (List jH)) (N : List jH) : ahF G N (0 + 1) = rF G N ∧ ahG N (0 + 1) = [] ∧ af8 (0 + 1) = 0 := ⟨if_pos rfl, if_pos rfl, by unfold af8; rw [if_neg (by decide)]; rfl⟩
theorem OE (G : List (List jH)) : abE G [] = G.dropLast ∧ abF G [] = [] ∧ abG G [] 0 = 0 := by
  unfold abE abF abG rF
  by_cases h : G.length + ([] : List jH).length = 0
  · have : G = [] := List.eq_nil_of_length_eq_zero (by simpa using h)
    subst this
    simp
  · rw [if_neg h, if_neg h, if_neg h, if_pos rfl]; simp
theorem CU {s : aX} (h : s.put = []) : s.dH on = s := by unfold aX.dH; rw [if_pos h]
theorem qo {s : aX} (h : s.put ≠ []) : s.dH on = { s.lY (s.jJ on) with put := [] } := by unfold aX.dH; rw [if_neg h]
theorem BO.eb {e : jH} (h : BO e) : EB e := ⟨by have := h.2.2.1; omega, by have := h.2.2.2; omega⟩
theorem Ny (G : List (List jH)) (g : List jH) : iH (G ++ [g]) [] = iH G [] + g.length := by unfold iH; simp
theorem Tj (h : ru s) {G1 : List (List jH)} (hF : aeB s on Gi G1) (hp : s.put ≠ []) (hG : ∀ g ∈ G1, ∀ e ∈ g, BO e) : ru (s.dH on) := by
  rw [qo hp]
  obtain ⟨h1, h2, h3, h4, h5, h6⟩ := h
  obtain ⟨f1, f2, f3⟩ := hF
  refine ⟨h1, h2, h3, by simp, ?_, ?_⟩
  · show iH (um s.c.un s.c.place (s.jJ on) s.c.place) [] ≤ 16384
    rw [jv, f3, Ny]
    have := pV s.here s.put
    simp; omega
  · intro k g hg e he
    have hg' : g ∈ um s.c.un s.c.place (s.jJ on) k := hg
    by_cases hk : k = s.c.place
    · subst hk
      rw [jv, f3] at hg'
      rcases List.mem_append.1 hg' with hg' | hg'
      · exact hG g hg' e he
      · rw [List.mem_singleton.1 hg'] at he
        rcases List.mem_append.1 he with he | he
        · obtain ⟨q, hq, rfl⟩ := List.mem_map.1 he; exact f2 q hq
        · exact h4 e he
    · rw [zi _ _ hk] at hg'; exact h6 k g hg' e he
theorem Hf {es : List gJ} {k : Nat} (hk : k < es.length) : (es.take (k + 1)).map gJ.says = (es.take k).map gJ.says ++ [(es.getD k default).says] := by
  rw [List.take_succ_eq_append_getElem hk, List.map_append, List.getD_eq_getElem?_getD, List.getElem?_eq_getElem hk]; rfl
theorem tq (H : V w0 w (gQ e s • F)) : iK prog 48 #[.pointer (some ⟨e, 0, none⟩), .bool on] w fun _ w' => V w0 w' (gQ e (s.dH on) • F) := by
  refine nO func48 ntmps48 ?_
  refine aI (aI ?_)
  obtain ⟨vC, wF, wG, xC, wH, wI, wJ, wK, vF, rW, rX, rY, rZ, su, sD, sH, sJ, sK, sN, sO, gB, dF, kK, gG⟩ := (H).Gs
  have hput : iH s.here s.put ≤ 16384 := gB.2.2.2.2.1
  have hsp := pV s.here s.put
  have hO : ∀ g ∈ s.here, ∀ x ∈ g, BO x := gB.2.2.2.2.2 s.c.place
  have hPO : ∀ x ∈ vF, BO x.says := fun x hx => gB.2.2.2.1 _ (by rw [← dF]; exact List.mem_map.2 ⟨x, hx, rfl⟩)
  have ajm := (gG.f10).MR
  refine aF (kY O O (bg 33 aj O bU O (dQ aV O (gG).get.2 O (aT (fV ((gG.f9).aJ) aV O) (aT (fA O O) (jo O (fun h1 => ?_) (fun h1 => ?_)))))))
  · (try simp only [aG] at h1)
    refine kN (aC (we0 results48 ?_))
    rw [CU (List.eq_nil_of_length_eq_zero (by omega))]
    exact V.iC gB dF gG.f11.f11.f11.f11.f11.f11.f11.f11.f11.f11.f11
  · (try simp only [aG] at h1)
    have hp : s.put ≠ [] := by rintro hz; rw [hz] at h1; simp at h1
    refine gX (bT O (fH O func111 (AO gG.f6.f5.f3) ?_))
    rintro _ w2 ⟨lp2, rfl, H2⟩
    refine iU O (kQ (jT (iI (l := [_]) H2 sV O) ?_))
    rintro _ w3 ⟨b3, rfl, H3⟩
    refine uV (aI ?_)
    obtain ⟨R4, hR4, HR4⟩ := V.aiU (H3.f2.f2)
    refine aF (cO O (jo O (fun h2 => ?_) (fun h2 => ?_)))
    · (try simp only [aG] at h2)
      have hn : on = true := h2
      refine aI (bT O (fH O func112 (Qn HR4.f2) ?_))
      rintro _ w5 ⟨bG5, rfl, H5⟩
      refine iR (bK ?_)
      obtain ⟨_, _, _, _, k1, _⟩ := (H5.f2).Du
      obtain ⟨hB, hL⟩ := aeC k1
      have HF0 := V.qY (q := (0 : Nat) = 0) rfl H5
      obtain ⟨R6, hR6, HR6⟩ := V.QK (HF0.f4.f2.f3)
      refine Iq O (YG bG5 hB hL) (fun j => fact (j = 0) • gU b3 (.cells #[.slice none 0 0] 56 (0, 0)) • R6) (fact False) (fun id => if id = 0 then abW b3 (s.here.getLastD []) • R6 else fact False) (HR6.f3.f3.f3.f3.f3.f3.comm) (by rfl) ?_ ?_ ?_ ?_
      · rintro l7 j ahD vs7 A7 ⟨u1, fs1, ajB, rfl, rfl⟩ G7 w7 H7
        try simp only [eX, xE, D9] at H7
        refine ⟨O, ?_⟩
        dsimp only [aas]
        have HQ := (H7).edL
        obtain rfl : j = 0 := (HQ.f3).fact.1
        have hon := (HQ.f2).MR
        have hlen1 : fs1.length ≤ 16384 := by
          have h9 := hL _ (vM (d := []) ahD)
          rw [← ajB] at h9
          simpa using h9
        refine aF (lg O (dJ ?_))
        refine aar (HQ.g5) ?_
        intro G8 w8 H8
        try simp only [eX] at H8
        refine bK (bT O (fH O func113 (Qo H8 (fun W HW => (HW).aJ) hon (by omega)) ?_))
        rintro u9 w9 H9
        refine aH (iw 0 (l' := [_]) H9.f5 bU O O (by first | rfl | exact Rd.one ((H9).aJ)) O O) ?_
        rintro _ w10 rU
        refine iR (iZ ?_)
        refine KN (by decide) ?_
        refine ad4 ?_
        rw [if_pos rfl]
        exact (V.aeA (ajB.trans (aaH _)) rU.f3.right.f4.right.f3.f3.f3).deep
      · rintro D11 Ii rE
        have adV := rE.ed
        try simp only [eX, xE, D9] at adV
        have ajC := adV.abm
        have hz := (ajC.f3).fact.1
        rw [Ti, List.length_reverse] at hz
        have hg0 : s.here.getLastD [] = [] := by show (s.c.un s.c.place).getLastD [] = []; rw [List.eq_nil_of_length_eq_zero hz]; rfl
        have WS := ajC.f4
        have Uu := V.agq hg0 WS
        have Y4 := Uu.f4.right
        subst hR6
        subst hR4
        refine aS (aZ (aF (cO O (fH O func114 (Gf Y4.f4) ?_))))
        rintro _ Ry ⟨u15, akw, rfl, aed, CJ⟩
        have ah4 := CJ.right
        have aaq := ah4.right
        have YZ := aaq.f4.right
        obtain ⟨h9a, h9b, h9c⟩ := OE (s.c.un s.c.place)
        have HX := YZ
        rw [h9a, h9b, h9c] at HX
        obtain ⟨ov, Gi, ah5, HO⟩ := (HX.f2).old
        have hF := Y3 hp hn hO ah5
        have hG1 : ∀ g ∈ s.here.dropLast, ∀ x ∈ g, BO x := fun g hg => hO g (List.dropLast_subset _ hg)
        obtain ⟨G1, ah6⟩ : ∃ q, q = (s.c.un s.c.place).dropLast := ⟨_, rfl⟩
        rw [show s.here.dropLast = (s.c.un s.c.place).dropLast from rfl] at hF hG1
        have HX2 := HO
        rw [← ah6] at hF hG1 HX2
        refine uV ?_
        obtain ⟨hF1, hF2, hF3⟩ := hF
        have hl1 : Gi.length ≤ 16384 := by omega
        have hl2 : s.put.length ≤ 16384 := by omega
        refine aF (cO O (fH O func115 (ER HX2.f4 (by omega)) ?_))
        rintro _ X9 ⟨rfl, Df⟩
        refine uV (aI ?_)
        have Vl := Df.drew
        have Aq := V.kp (Vl.f16.f16.f16.f16.f16.f16.f16.f16.f16.f16.f16.f16.f16.f16.f16.f16)
        refine tH [0, 4] Aq O (iD 0 O Aq (fun W hW => jk aV O ((Kp.h hW).f2).get.2 O) (fM 1 O Aq O (jF 2 O Aq O (eP 3 O Aq 33 aj O bU O (iD 4 O Aq (fun W hW => jk aV O ((Kp.h hW).f7).get.2 O) (fM 7 O Aq O (lC 5 O (gK Vl.f3 aV Ap O O O ((Vl.f14).aJ) (by assumption) (by omega) (by omega)) ?_)))))))
        rintro l20 ZJ DR
        have GX := V.kp (DR.f16.f16.f16.f16.f16.f16.f16.f16.f16.f16.f16.f16.f16.f16.f16.f16)
        refine dX GX (by kernel_rfl) ?_
        have ah7 := DR.f15.f5.f3
        have ah8 := V.QD kK.symm ah7
        obtain ⟨AE, hAE⟩ : ∃ q, q = Gi ++ vF := ⟨_, rfl⟩
        have HA := ah8
        rw [← hAE] at HA
        have hAl : AE.length = Gi.length + s.put.length := by rw [hAE, List.length_append, kK]
        have hAs : AE.map gJ.says = Gi.map gJ.says ++ s.put := by rw [hAE, List.map_append, dF]
        have hAO : ∀ x ∈ AE, BO x.says := fun x hx => by
          rw [hAE] at hx
          rcases List.mem_append.1 hx with hx | hx
          · exact hF2 x hx
          · exact hPO x hx
        refine iE 6 O GX (fun _ => fV ((HA).aJ) aV O) (oH (aZ (bK ?_)))
        obtain ⟨R23, ak0, ak1⟩ := V.QK (HA.f2.f2.f3)
        refine jh [(0, _), (4, _), (32, _), (33, _)] (fun (i : Nat) => [(34, .int .i64 (i : Int))]) (fun (i : Nat) W => i ≤ AE.length ∧ V w0 W (lH lp2 G1 ((AE.take i).map gJ.says) (0 + 1) • Row 143 3 l20 AE.length (AE.flatMap gJ.enc) • oK AE • R23)) (fun (i : Nat) => AE.length - i) (0) sb4 rJ ⟨by omega, ak1⟩ ?_
        rintro i w24 ⟨hi, HL⟩
        dsimp only [List.cons_append, List.nil_append]
        refine kQ (aT (fJ O O) (uV (dw O (fun h3 => ?_) (fun h3 => ?_))))
        · (try simp only [aG] at h3)
          refine gX (aI (bK (kQ ?_)))
          obtain ⟨amF, amG, amH, ak2⟩ := Rd.qX ((HL.f2).aJ) (by omega)
          cases ak2
          refine aT (dP aV bM O O (by omega)) (aT (mF (ys := [_, _, _]) ((HL.f2).aJ) (by omega) aQ O bM O (mY gJ.Ah (by omega) default) O) ?_)
          have hkl : i < AE.length := by omega
          have hx : BO (AE.getD i default).says := hAO _ (by rw [List.getD_eq_getElem?_getD, List.getElem?_eq_getElem hkl]; exact List.getElem_mem hkl)
          have hx1 : (AE.getD i default).dl.length ≤ 1024 := hx.2.2.1
          have hx2 : (AE.getD i default).il.length ≤ 1024 := hx.2.2.2
          refine jT (iI (l := [_, _, _]) HL cZ O) ?_
          rintro _ w25 ⟨b25, rfl, Jo⟩
          refine aH (dR 0 (l' := [_, _, _]) (us := [_, _, _]) Jo bM O O O (aP (bD (by first | rfl | exact Rd.one (((Jo.f4).qE hkl).1)) (bD (by first | rfl | exact Rd.one (((Jo.f4).qE hkl).2)) bW))) O O) ?_
          rintro _ w26 FK
          refine iR (aF (cO O (aT (dU aQ O bM O O (FK).get.2) (fH O func116 (Io FK.f2 (fun W HW => ((HW.f3).qE hkl).1) (fun W HW => ((HW.f3).qE hkl).2) (by omega) (by omega)) ?_))))
          rintro _ w27 ⟨rfl, KT⟩
          have hadd : DT G1 ((AE.take i).map gJ.says) (AE.getD i default).a (AE.getD i default).dl (AE.getD i default).il = 0 := by
            have hx3 : 0 < (AE.getD i default).dl.length + (AE.getD i default).il.length := hx.2.1
            have hx4 : 0 ≤ (AE.getD i default).a := hx.1
            have hx5 := pV G1 ((AE.take i).map gJ.says)
            rw [List.length_map, List.length_take] at hx5
            unfold DT
            rw [if_neg (by omega), if_neg (by omega)]
          have HA2 := KT
          rw [Qy hadd (by decide), Qz hadd (by decide)] at HA2
          refine dJ (aS (aZ (aF (aT (gY O O (by omega)) (cO O (dJ ?_))))))
          refine fG (i + 1) ?_ ?_ ?_ ?_
          · exact rJ
          · exact sb4
          · (try dsimp only)
            first | done | exact ⟨by omega, by rw [Hf hkl]; exact HA2.f2.right.f3.f3.f3⟩
          · (try dsimp only); omega
        · (try simp only [aG] at h3)
          refine iZ (bC ?_)
          have hil : i = AE.length := by omega
          have HB := HL
          rw [hil, List.take_length] at HB
          subst ak0
          refine bC (dK (aZ (bT O (fH O func117 (Ir HB) ?_))))
          rintro _ w28 ⟨rfl, Rz⟩
          obtain ⟨h8a, h8b, h8c⟩ := WX G1 (AE.map gJ.says)
          have HC := Rz
          rw [h8a, h8b, h8c, hAs, AA (by intro hz; exact hp (List.append_eq_nil_iff.1 hz).2), ← hF3] at HC
          have ah0 := HC.f6
          have ah1 := V.CQ ah0
          refine iR (aF (kY O O (bg 33 aj O bU O (aH (ig 33 ah1.f6 bU) ?_))))
          rintro _ w31 TW
          refine dJ ?_
          refine Qq (.inr O) (TW.f6) (fun w32 TY => ?_)
          refine ⟨_, ahl results48, ?_⟩
          rw [qo hp]
          exact V.SY (s := { s.lY (s.jJ on) with put := [] }) (qo hp ▸ Tj gB ⟨hF1, hF2, hF3⟩ hp hG1) O TY.f3.right.f3.right.f3.right.f9.right.f9.f9.f9.f5.f9.f7.f9.f9.f9
      · rintro D w H; exact absurd H.swap.fact.1 id
      · rintro id D33 w33 ZK
        refine Decidable.byCases (fun hid : id = 0 => ?_) (fun hid => by rw [if_neg hid] at ZK; exact absurd ZK.swap.fact.1 fun h => h)
        subst hid
        rw [if_pos rfl] at ZK
        have ajD := ZK.ed
        try simp only [eX, xE, D9] at ajD
        have ak3 := ajD.abm
        subst hR6
        subst hR4
        refine dK (aZ (aF (cO O (fH O func114 (Gf ak3.f4) ?_))))
        rintro _ w34 ⟨u34, amI, rfl, alY, Yy⟩
        have ak4 := Yy.right
        have ak5 := ak4.right
        have ah9 := ak5.f3.right
        obtain ⟨h9a, h9b, h9c⟩ := OE (s.c.un s.c.place)
        have HX := ah9
        rw [h9a, h9b, h9c] at HX
        obtain ⟨ov, Gi, ah5, HO⟩ := (HX.f3).old
        have hF := Y3 hp hn hO ah5
        have hG1 : ∀ g ∈ s.here.dropLast, ∀ x ∈ g, BO x := fun g hg => hO g (List.dropLast_subset _ hg)
        obtain ⟨G1, ah6⟩ : ∃ q, q = (s.c.un s.c.place).dropLast := ⟨_, rfl⟩
        rw [show s.here.dropLast = (s.c.un s.c.place).dropLast from rfl] at hF hG1
        have HX2 := HO
        rw [← ah6] at hF hG1 HX2
        refine uV ?_
        obtain ⟨hF1, hF2, hF3⟩ := hF
        have hl1 : Gi.length ≤ 16384 := by omega
        have hl2 : s.put.length ≤ 16384 := by omega
        refine aF (cO O (fH O func115 (ER HX2.f4 (by omega)) ?_))
        rintro _ w38 ⟨rfl, Ve⟩
        refine uV (aI ?_)
        have aeD := Ve.drew
        have L8 := V.kp (aeD.f16.f16.f16.f16.f16.f16.f16.f16.f16.f16.f16.f16.f16.f16.f16.f16)
        refine tH [0, 4] L8 O (iD 0 O L8 (fun W hW => jk aV O ((Kp.h hW).f2).get.2 O) (fM 1 O L8 O (jF 2 O L8 O (eP 3 O L8 33 aj O bU O (iD 4 O L8 (fun W hW => jk aV O ((Kp.h hW).f7).get.2 O) (fM 7 O L8 O (lC 5 O (gK aeD.f3 aV Ap O O O ((aeD.f14).aJ) (by assumption) (by omega) (by omega)) ?_)))))))
        rintro l39 w39 H39
        have Y5 := V.kp (H39.f16.f16.f16.f16.f16.f16.f16.f16.f16.f16.f16.f16.f16.f16.f16.f16)
        refine dX Y5 (by kernel_rfl) ?_
        have ak6 := H39.f15.f5.f3
        have ak7 := V.QD kK.symm ak6
        obtain ⟨AE, hAE⟩ : ∃ q, q = Gi ++ vF := ⟨_, rfl⟩
        have HA := ak7
        rw [← hAE] at HA
        have hAl : AE.length = Gi.length + s.put.length := by rw [hAE, List.length_append, kK]
        have hAs : AE.map gJ.says = Gi.map gJ.says ++ s.put := by rw [hAE, List.map_append, dF]
        have hAO : ∀ x ∈ AE, BO x.says := fun x hx => by
          rw [hAE] at hx
          rcases List.mem_append.1 hx with hx | hx
          · exact hF2 x hx
          · exact hPO x hx
        refine iE 6 O Y5 (fun _ => fV ((HA).aJ) aV O) (oH (aZ (bK ?_)))
        obtain ⟨R42, ak8, ak9⟩ := V.QK (HA.f2.f2.f3)
        refine jh [(0, _), (4, _), (32, _), (33, _)] (fun (i : Nat) => [(34, .int .i64 (i : Int))]) (fun (i : Nat) W => i ≤ AE.length ∧ V w0 W (lH lp2 G1 ((AE.take i).map gJ.says) (0 + 1) • Row 143 3 l39 AE.length (AE.flatMap gJ.enc) • oK AE • R42)) (fun (i : Nat) => AE.length - i) (0) sb4 rJ ⟨by omega, ak9⟩ ?_
        rintro i w43 ⟨hi, HL⟩
        dsimp only [List.cons_append, List.nil_append]
        refine kQ (aT (fJ O O) (uV (dw O (fun h4 => ?_) (fun h4 => ?_))))
        · (try simp only [aG] at h4)
          refine gX (aI (bK (kQ ?_)))
          obtain ⟨amJ, amK, amL, ala⟩ := Rd.qX ((HL.f2).aJ) (by omega)
          cases ala
          refine aT (dP aV bM O O (by omega)) (aT (mF (ys := [_, _, _]) ((HL.f2).aJ) (by omega) aQ O bM O (mY gJ.Ah (by omega) default) O) ?_)
          have hkl : i < AE.length := by omega
          have hx : BO (AE.getD i default).says := hAO _ (by rw [List.getD_eq_getElem?_getD, List.getElem?_eq_getElem hkl]; exact List.getElem_mem hkl)
          have hx1 : (AE.getD i default).dl.length ≤ 1024 := hx.2.2.1
          have hx2 : (AE.getD i default).il.length ≤ 1024 := hx.2.2.2
          refine jT (iI (l := [_, _, _]) HL cZ O) ?_
          rintro _ w44 ⟨b44, rfl, ZN⟩
          refine aH (dR 0 (l' := [_, _, _]) (us := [_, _, _]) ZN bM O O O (aP (bD (by first | rfl | exact Rd.one (((ZN.f4).qE hkl).1)) (bD (by first | rfl | exact Rd.one (((ZN.f4).qE hkl).2)) bW))) O O) ?_
          rintro _ w45 Ut
          refine iR (aF (cO O (aT (dU aQ O bM O O (Ut).get.2) (fH O func116 (Io Ut.f2 (fun W HW => ((HW.f3).qE hkl).1) (fun W HW => ((HW.f3).qE hkl).2) (by omega) (by omega)) ?_))))
          rintro _ w46 ⟨rfl, ZO⟩
          have hadd : DT G1 ((AE.take i).map gJ.says) (AE.getD i default).a (AE.getD i default).dl (AE.getD i default).il = 0 := by
            have hx3 : 0 < (AE.getD i default).dl.length + (AE.getD i default).il.length := hx.2.1
            have hx4 : 0 ≤ (AE.getD i default).a := hx.1
            have hx5 := pV G1 ((AE.take i).map gJ.says)
            rw [List.length_map, List.length_take] at hx5
            unfold DT
            rw [if_neg (by omega), if_neg (by omega)]
          have HA2 := ZO
          rw [Qy hadd (by decide), Qz hadd (by decide)] at HA2
          refine dJ (aS (aZ (aF (aT (gY O O (by omega)) (cO O (dJ ?_))))))
          refine fG (i + 1) ?_ ?_ ?_ ?_
          · exact rJ
          · exact sb4
          · (try dsimp only)
            first | done | exact ⟨by omega, by rw [Hf hkl]; exact HA2.f2.right.f3.f3.f3⟩
          · (try dsimp only); omega
        · (try simp only [aG] at h4)
          refine iZ (bC ?_)
          have hil : i = AE.length := by omega
          have HB := HL
          rw [hil, List.take_length] at HB
          subst ak8
          refine bC (dK (aZ (bT O (fH O func117 (Ir HB) ?_))))
          rintro _ w47 ⟨rfl, H47⟩
          obtain ⟨h8a, h8b, h8c⟩ := WX G1 (AE.map gJ.says)
          have HC := H47
          rw [h8a, h8b, h8c, hAs, AA (by intro hz; exact hp (List.append_eq_nil_iff.1 hz).2), ← hF3] at HC
          have alb := HC.f6
          have alc := V.CQ alb
          refine iR (aF (kY O O (bg 33 aj O bU O (aH (ig 33 alc.f6 bU) ?_))))
          rintro _ w50 H50
          refine dJ ?_
          refine Qq (.inr O) (H50.f6) (fun w51 H51 => ?_)
          refine ⟨_, ahl results48, ?_⟩
          rw [qo hp]
          exact V.SY (s := { s.lY (s.jJ on) with put := [] }) (qo hp ▸ Tj gB ⟨hF1, hF2, hF3⟩ hp hG1) O H51.f3.right.f3.right.f3.right.f9.right.f9.f9.f9.f5.f9.f7.f9.f9.f9
    · (try simp only [aG] at h2)
      have hn : on = false := h2
      obtain ⟨ov, Gi, G1, hF, hG1, HF⟩ : ∃ ov Gi G1, aeB s on Gi G1 ∧ (∀ g ∈ G1, ∀ x ∈ g, BO x) ∧ V w0 w3 (gU b3 (.cells #[ov] 56 (0, 0)) • Row 143 3 ov Gi.length (Gi.flatMap gJ.enc) • oK Gi • lH lp2 G1 [] 0 • R4) :=
        ⟨.slice none 0 0, [], s.here, acM hp hn, hO, (V.zA HR4.f2.f2 none).of_eq (by unfold Qv; ac_rfl)⟩
      subst hR4
      refine gX (aI ?_)
      obtain ⟨hF1, hF2, hF3⟩ := hF
      have hl1 : Gi.length ≤ 16384 := by omega
      have hl2 : s.put.length ≤ 16384 := by omega
      refine aF (cO O (fH O func115 (ER HF.f4 (by omega)) ?_))
      rintro _ w52 ⟨rfl, H52⟩
      refine uV (aI ?_)
      have aeE := H52.drew
      have L9 := V.kp (aeE.f15.f15.f15.f15.f15.f15.f15.f15.f15.f15.f15.f15.f15.f15.f15)
      refine tH [0, 4] L9 O (iD 0 O L9 (fun W hW => jk aV O ((Kp.h hW).f2).get.2 O) (fM 1 O L9 O (jF 2 O L9 O (eP 3 O L9 33 aj O bU O (iD 4 O L9 (fun W hW => jk aV O ((Kp.h hW).f6).get.2 O) (fM 7 O L9 O (lC 5 O (gK aeE.f3 aV Ap O O O ((aeE.f13).aJ) (by assumption) (by omega) (by omega)) ?_)))))))
      rintro l53 w53 H53
      have ag8 := V.kp (H53.f15.f15.f15.f15.f15.f15.f15.f15.f15.f15.f15.f15.f15.f15.f15)
      refine dX ag8 (by kernel_rfl) ?_
      have ald := H53.f14.f5.f3
      have ale := V.QD kK.symm ald
      obtain ⟨AE, hAE⟩ : ∃ q, q = Gi ++ vF := ⟨_, rfl⟩
      have HA := ale
      rw [← hAE] at HA
      have hAl : AE.length = Gi.length + s.put.length := by rw [hAE, List.length_append, kK]
      have hAs : AE.map gJ.says = Gi.map gJ.says ++ s.put := by rw [hAE, List.map_append, dF]
      have hAO : ∀ x ∈ AE, BO x.says := fun x hx => by
        rw [hAE] at hx
        rcases List.mem_append.1 hx with hx | hx
        · exact hF2 x hx
        · exact hPO x hx
      refine iE 6 O ag8 (fun _ => fV ((HA).aJ) aV O) (oH (aZ (bK ?_)))
      obtain ⟨R56, alf, alg⟩ := V.QK (HA.f2.f2.f3)
      refine jh [(0, _), (4, _), (32, _), (33, _)] (fun (i : Nat) => [(34, .int .i64 (i : Int))]) (fun (i : Nat) W => i ≤ AE.length ∧ V w0 W (lH lp2 G1 ((AE.take i).map gJ.says) (0 + 1) • Row 143 3 l53 AE.length (AE.flatMap gJ.enc) • oK AE • R56)) (fun (i : Nat) => AE.length - i) (0) sb4 rJ ⟨by omega, alg⟩ ?_
      rintro i w57 ⟨hi, HL⟩
      dsimp only [List.cons_append, List.nil_append]
      refine kQ (aT (fJ O O) (uV (dw O (fun h5 => ?_) (fun h5 => ?_))))
      · (try simp only [aG] at h5)
        refine gX (aI (bK (kQ ?_)))
        obtain ⟨amM, amN, amO, alh⟩ := Rd.qX ((HL.f2).aJ) (by omega)
        cases alh
        refine aT (dP aV bM O O (by omega)) (aT (mF (ys := [_, _, _]) ((HL.f2).aJ) (by omega) aQ O bM O (mY gJ.Ah (by omega) default) O) ?_)
        have hkl : i < AE.length := by omega
        have hx : BO (AE.getD i default).says := hAO _ (by rw [List.getD_eq_getElem?_getD, List.getElem?_eq_getElem hkl]; exact List.getElem_mem hkl)
        have hx1 : (AE.getD i default).dl.length ≤ 1024 := hx.2.2.1
        have hx2 : (AE.getD i default).il.length ≤ 1024 := hx.2.2.2
        refine jT (iI (l := [_, _, _]) HL cZ O) ?_
        rintro _ w58 ⟨b58, rfl, H58⟩
        refine aH (dR 0 (l' := [_, _, _]) (us := [_, _, _]) H58 bM O O O (aP (bD (by first | rfl | exact Rd.one (((H58.f4).qE hkl).1)) (bD (by first | rfl | exact Rd.one (((H58.f4).qE hkl).2)) bW))) O O) ?_
        rintro _ w59 H59
        refine iR (aF (cO O (aT (dU aQ O bM O O (H59).get.2) (fH O func116 (Io H59.f2 (fun W HW => ((HW.f3).qE hkl).1) (fun W HW => ((HW.f3).qE hkl).2) (by omega) (by omega)) ?_))))
        rintro _ w60 ⟨rfl, H60⟩
        have hadd : DT G1 ((AE.take i).map gJ.says) (AE.getD i default).a (AE.getD i default).dl (AE.getD i default).il = 0 := by
          have hx3 : 0 < (AE.getD i default).dl.length + (AE.getD i default).il.length := hx.2.1
          have hx4 : 0 ≤ (AE.getD i default).a := hx.1
          have hx5 := pV G1 ((AE.take i).map gJ.says)
          rw [List.length_map, List.length_take] at hx5
          unfold DT
          rw [if_neg (by omega), if_neg (by omega)]
        have HA2 := H60
        rw [Qy hadd (by decide), Qz hadd (by decide)] at HA2
        refine dJ (aS (aZ (aF (aT (gY O O (by omega)) (cO O (dJ ?_))))))
        refine fG (i + 1) ?_ ?_ ?_ ?_
        · exact rJ
        · exact sb4
        · (try dsimp only)
          first | done | exact ⟨by omega, by rw [Hf hkl]; exact HA2.f2.right.f3.f3.f3⟩
        · (try dsimp only); omega
      · (try simp only [aG] at h5)
        refine iZ (bC ?_)
        have hil : i = AE.length := by omega
        have HB := HL
        rw [hil, List.take_length] at HB
        subst alf
        refine bC (dK (aZ (bT O (fH O func117 (Ir HB) ?_))))
        rintro _ w61 ⟨rfl, H61⟩
        obtain ⟨h8a, h8b, h8c⟩ := WX G1 (AE.map gJ.says)
        have HC := H61
        rw [h8a, h8b, h8c, hAs, AA (by intro hz; exact hp (List.append_eq_nil_iff.1 hz).2), ← hF3] at HC
        have ali := HC.f5
        have alj := V.CQ ali
        refine iR (aF (kY O O (bg 33 aj O bU O (aH (ig 33 alj.f5 bU) ?_))))
        rintro _ w64 H64
        refine dJ (nJ (.inr O) results48 ?_)
        rw [qo hp]
        exact V.SY (s := { s.lY (s.jJ on) with put := [] }) (qo hp ▸ Tj gB ⟨hF1, hF2, hF3⟩ hp hG1) O H64.f3.right.f3.right.f3.right.f9.right.f9.f9.f9.f5.f9.f7.f9.f9.f9
end
end Go.Proofs.YtnhhmieghbfalaaGreatDoor
end
