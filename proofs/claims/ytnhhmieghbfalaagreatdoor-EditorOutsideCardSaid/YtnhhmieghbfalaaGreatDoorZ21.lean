import Derived.Test.YtnhhmieghbfalaaGreatDoorZ4
import Derived.Test.YtnhhmieghbfalaaGreatDoorZ20
import Derived.Test.YtnhhmieghbfalaaGreatDoorZ6
set_option linter.unusedSimpArgs false
set_option linter.unusedVariables false
/- Texts of mine, joined, their names in short: REdK REdU REdV Owns. -/
section
namespace Go.Proofs.YtnhhmieghbfalaaGreatDoor
open Go.RowKit
open _root_.Go.Proofs.Tryz
theorem iY.lS {s : aX} {es : List gJ} {A : List LE} {yf yt : Int} (h : iY s es A yf yt) (E : List (List Int)) (a : Nat) (hE : E.length ≤ 60 ∧ (a < E.length ∨ a = 0) ∧ ∀ e ∈ E, e.length ≤ 1024) : iY { s.pU E a with lS := true, cls := 1 } es A yf yt :=
  ⟨h.ok, ⟨⟨h.rx.1.1, hE⟩, h.rx.2.1, fun _ h2 => absurd h2 (by show ¬ (1 : Int) = 2; decide)⟩, h.says, h.Fv, h.placed, h.G9⟩
theorem zo {s : aX} {i j : Int} : s.qN i j ↔ (i < 0 ∨ s.c.L.length < i ∨ j < i ∨ s.c.L.length < j) := Iff.rfl
theorem aaU (s : aX) (mk i j : Int) (l : List Int) (hin : s.inn = true) : (s.jw s.c.L s.c.pt mk).gy i j l = { s.gy i j l with c := { (s.gy i j l).c with mark := wu s.c.L mk i j l } } := by
  unfold aX.gy
  rw [if_pos hin, if_pos (show (s.jw s.c.L s.c.pt mk).inn = true from hin)]
  unfold aX.nI
  dsimp only
  by_cases h1 : (nU s.c.L i j l).length + (nV s.c.L i j l).length = 0
  · rw [if_pos (show (nU (s.jw s.c.L s.c.pt mk).c.L i j l).length + (nV (s.jw s.c.L s.c.pt mk).c.L i j l).length = 0 from h1), if_pos h1]; rfl
  · rw [if_neg (show ¬ (nU (s.jw s.c.L s.c.pt mk).c.L i j l).length + (nV (s.jw s.c.L s.c.pt mk).c.L i j l).length = 0 from h1), if_neg h1]
    split <;> split <;> first | rfl | (exfalso; rename_i a b; exact b a) | (exfalso; rename_i a b; exact a b)
theorem aaV (s : aX) (E : List (List Int)) (a : Nat) (i j : Int) (l : List Int) : (s.pU E a).gy i j l = { s.gy i j l with c := { (s.gy i j l).c with E := E, at_ := a } } := by
  unfold aX.gy
  by_cases hin : s.inn = true
  · rw [if_pos hin, if_pos (show (s.pU E a).inn = true from hin)]
    unfold aX.nI
    dsimp only
    by_cases h1 : (nU s.c.L i j l).length + (nV s.c.L i j l).length = 0
    · rw [if_pos (show (nU (s.pU E a).c.L i j l).length + (nV (s.pU E a).c.L i j l).length = 0 from h1), if_pos h1]; rfl
    · rw [if_neg (show ¬ (nU (s.pU E a).c.L i j l).length + (nV (s.pU E a).c.L i j l).length = 0 from h1), if_neg h1]
      split <;> split <;> first | rfl | (exfalso; rename_i a b; exact b a) | (exfalso; rename_i a b; exact a b)
  · rw [if_neg hin, if_neg (show ¬ (s.pU E a).inn = true from hin)]; rfl
theorem agv (s : aX) (x : jH) : (s.nI x).c.L = s.c.L := by unfold aX.nI; split; rfl; split <;> rfl
theorem agw (s : aX) (i j : Int) (l : List Int) (hin : s.inn = true) : (s.gy i j l).c.L = nP s.c.L i j l := by unfold aX.gy; rw [if_pos hin, agv]; rfl
theorem acS {s : aX} (hin : s.inn = true) (h0 : s.yN = 0) (hp : 0 ≤ s.c.pt ∧ s.c.pt ≤ s.c.L.length) : s.ql = { (s.jw s.c.L s.c.pt s.c.pt).gy s.c.pt s.c.pt s.top with jc := true, cls := 2, c := { ((s.jw s.c.L s.c.pt s.c.pt).gy s.c.pt s.c.pt s.top).c with fr := s.c.pt, to := s.c.pt + s.top.length } } := by
  have hi : s.KG s.top = 0 := by
    unfold aX.yN at h0
    rw [if_pos hin] at h0
    split at h0
    · cases h0
    · exact h0
  have hr : lG s.c.L s.c.pt s.c.pt s.top = 0 := by unfold aX.KG aX.lU at hi; rw [if_pos hin] at hi; exact hi
  unfold aX.ql
  rw [if_pos h0, aaU _ _ _ _ _ hin]
  dsimp only
  have h1 : wu s.c.L s.c.pt s.c.pt s.c.pt s.top = s.c.pt := by
    unfold wu fQ; rw [if_pos hr]
    simp
  have h2 : ZL (s.BD s.top).c.L (s.BD s.top).c.mark s.c.pt = s.c.pt := by
    unfold ZL aX.BD
    rw [agw _ _ _ _ hin, if_neg]
    unfold nP; rw [if_pos hr]
    simp only [List.length_append, List.length_take, List.length_drop]; omega
  rw [h1, h2]
  rfl
theorem iY.jc {s : aX} {es : List gJ} {A : List LE} {yf yt : Int} (h : iY s es A yf yt) (a b : Int) : iY { s with jc := true, cls := 2, c := { s.c with fr := a, to := b } } es A a b :=
  ⟨h.ok, ⟨h.rx.1, fun hi => ⟨(h.rx.2.1 hi).1, (h.rx.2.1 hi).2.1, fun h2 => absurd h2 (by show ¬ true = false; decide)⟩, fun _ _ => rfl⟩, h.says, h.Fv, h.placed, fun _ _ => ⟨rfl, rfl⟩⟩
theorem aaW (s : aX) (x : jH) : (s.nI x).was = s.was ∧ (s.nI x).c.fr = s.c.fr ∧ (s.nI x).c.to = s.c.to ∧ (s.nI x).jc = s.jc ∧ (s.nI x).c.last = s.c.last := by
  unfold aX.nI; split
  · exact ⟨rfl, rfl, rfl, rfl, rfl⟩
  · split <;> exact ⟨rfl, rfl, rfl, rfl, rfl⟩
theorem aaX (s : aX) (i j : Int) (l : List Int) : (s.gy i j l).was = s.was ∧ (s.gy i j l).c.fr = s.c.fr ∧ (s.gy i j l).c.to = s.c.to ∧ (s.gy i j l).jc = s.jc ∧ (s.gy i j l).c.last = s.c.last := by
  unfold aX.gy; split
  · exact aaW _ _
  · exact ⟨rfl, rfl, rfl, rfl, rfl⟩
section
variable {w0 w : World} {F : HP} {y : Nat} {s : aX} {i j x : Int} {back : Bool} {v : Value} {l : List Int}
theorem PE (H : V w0 w (dY y s • F)) : iK prog 152 #[.pointer (some ⟨y, 0, none⟩), .int .i64 i, .int .i64 j, .bool back] w fun v' w' => v' = .int .i64 (s.oZ i j back) ∧ V w0 w' (dY y (s.uS i j back) • F) := by
 refine MJ func152 ntmps152 ?_
 obtain ⟨ED, tu, uo, uq, uw, wL, wM, EF, wO, wP, vJ, vK, wQ, uy, uz, uD, uF, uG, uH, uI, uJ, uK, uM, uN, uO, dS, lF, fU⟩ := (H).xq
 obtain ⟨hE, hp, hm⟩ := dS.rx.1.2
 have hlast : s.inn = true → s.yx = s.c.last := fun hin => by show (if s.inn = true then _ else _) = _; rw [if_pos hin]; exact (dS.rx.2.1 hin).2.1.symm
 refine kG O (aI (bT O (dM O (bg 32 aA O aN O (dQ bn O (fU).get.2 O (aT (jG O) (jo O (fun h1 => ?_) (fun h1 => ?_))))))))
 ·(try simp only [aG] at h1)
  have hin : s.inn = false := by simpa using h1
  refine jE O (aC (dO results152 O ?_))
  have F9 := fU.f12.f12.f12.f12.f12.f12.f12.f12.f12.f12.f12.f12
  have Fq := V.fE (s := s) dS F9
  exact ⟨by simp [aX.oZ, aX.uS, hin], by rw [show s.uS i j back = s from by simp [aX.oZ, aX.uS, hin]]; exact Fq⟩
 ·(try simp only [aG] at h1)
  have hin : s.inn = true := by simpa using h1
  refine gX (aI (aI ?_))
  obtain ⟨NG, NH, rD, tC, wR, NI, NJ, jO⟩ := (fU.f2).ref
  have hLw := rD
  refine aF (cO O (aT (fJ O O) (nS O (fun h2 => ?_) (fun h2 => ?_))))
  ·(try simp only [aG] at h2)
   refine dB (dB (dB (dB (dB (dB (dB (dB (dB (dB (dB (mQ O O (cO O (dB (dB (dB (mQ O O (cO O (dB (dB (dB (dB (dB (dB (dB (dB (dB (dB (dB (mQ O O (cO O (dB (dB (mQ O O (iR (DZ (kQ (lg O ?_)))))))))))))))))))))))))))))))))))))
   refine zkc (aC (dO results152 O ?_))
   have hb : s.qN i j := by rw [zo]; omega
   have hc : s.oZ i j back = 70 := by unfold aX.oZ; rw [if_pos hin, if_pos hb]
   have Qd := jO.f2.f2
   have Qe := V.mO rD tC wR Qd
   have Iy := Qe.f12.f12.f12.f12.f12.f12.f12.f12.f12.f12.f11.f12
   have GK := V.fE (s := s) dS Iy
   exact ⟨by rw [hc], by rw [zJ (by rw [hc]; decide)]; exact GK⟩
  ·(try simp only [aG] at h2)
   refine bJ (cO O (bJ (cO O (bJ (dM O (bJ (bg 1 aA O bZ O (bJ (bg 0 bf O kD O (bJ (dQ jf O (jO.f3).get.2 O (bJ (dM O (bJ (bg 0 bG O bI O (bJ (dQ aB O (jO).get.2 O (bJ (aT (kT ((jO.f2).aJ) aB O) (bJ (aT (fZ O O) (kP O O (nS O (fun h3 => ?_) (fun h3 => ?_))))))))))))))))))))))))
   ·(try simp only [aG] at h3)
    refine dB (dB (dB (mQ O O (cO O (dB (dB (dB (dB (dB (dB (dB (dB (dB (dB (dB (mQ O O (cO O (dB (dB (mQ O O (iR (DZ (jE O (aC (dO results152 O ?_)))))))))))))))))))))))))
    have hb : s.qN i j := by rw [zo]; omega
    have hc : s.oZ i j back = 70 := by unfold aX.oZ; rw [if_pos hin, if_pos hb]
    have Sj := jO.f2.f2
    have Qh := V.mO rD tC wR Sj
    have WU := Qh.f12.f12.f12.f12.f12.f12.f12.f12.f12.f12.f11.f12
    have WV := V.fE (s := s) dS WU
    exact ⟨by rw [hc], by rw [zJ (by rw [hc]; decide)]; exact WV⟩
   ·(try simp only [aG] at h3)
    refine bJ (cO O (bJ (cO O (bJ (aT (fJ O O) (kP O O (nS O (fun h4 => ?_) (fun h4 => ?_))))))))
    ·(try simp only [aG] at h4)
     refine dB (dB (dB (dB (dB (dB (dB (dB (dB (dB (dB (mQ O O (cO O (dB (dB (mQ O O (iR (DZ (jE O (aC (dO results152 O ?_))))))))))))))))))))
     have hb : s.qN i j := by rw [zo]; omega
     have hc : s.oZ i j back = 70 := by unfold aX.oZ; rw [if_pos hin, if_pos hb]
     have aaP := jO.f2.f2
     have aaQ := V.mO rD tC wR aaP
     have aio := aaQ.f12.f12.f12.f12.f12.f12.f12.f12.f12.f12.f11.f12
     have aip := V.fE (s := s) dS aio
     exact ⟨by rw [hc], by rw [zJ (by rw [hc]; decide)]; exact aip⟩
    ·(try simp only [aG] at h4)
     refine bJ (cO O (bJ (cO O (bJ (dM O (bJ (bg 1 aA O bZ O (bJ (bg 0 bf O kD O (bJ (dQ jf O (jO.f3).get.2 O (bJ (dM O (bJ (bg 0 bG O bI O (bJ (dQ aB O (jO).get.2 O (bJ (aT (kT ((jO.f2).aJ) aB O) (bJ (aT (fZ O O) (kP O O (nS O (fun h5 => ?_) (fun h5 => ?_))))))))))))))))))))))))
     ·(try simp only [aG] at h5)
      refine dB (dB (mQ O O (iR (DZ (jE O (aC (dO results152 O ?_)))))))
      have hb : s.qN i j := by rw [zo]; omega
      have hc : s.oZ i j back = 70 := by unfold aX.oZ; rw [if_pos hin, if_pos hb]
      have aeL := jO.f2.f2
      have aeM := V.mO rD tC wR aeL
      have ahY := aeM.f12.f12.f12.f12.f12.f12.f12.f12.f12.f12.f11.f12
      have ahZ := V.fE (s := s) dS ahY
      exact ⟨by rw [hc], by rw [zJ (by rw [hc]; decide)]; exact ahZ⟩
     ·(try simp only [aG] at h5)
      refine bJ (cO O (bJ (aT (fJ O O) (kP O O (jo O (fun h6 => ?_) (fun h6 => ?_))))))
      ·(try simp only [aG] at h6)
       refine jE O (aC (dO results152 O ?_))
       have hb : s.qN i j := by rw [zo]; omega
       have hc : s.oZ i j back = 70 := by unfold aX.oZ; rw [if_pos hin, if_pos hb]
       have aiq := jO.f2.f2
       have air := V.mO rD tC wR aiq
       have ais := air.f12.f12.f12.f12.f12.f12.f12.f12.f12.f12.f11.f12
       have ait := V.fE (s := s) dS ais
       exact ⟨by rw [hc], by rw [zJ (by rw [hc]; decide)]; exact ait⟩
      ·(try simp only [aG] at h6)
       refine gX (aI ?_)
       have hb : ¬ s.qN i j := by rw [zo]; omega
       have hc : s.oZ i j back = (s.xQ i j back).1 := by unfold aX.oZ; rw [if_pos hin, if_neg hb]
       rw [zo] at hb
       have alA := jO.f2.f2
       have aiu := V.mO rD tC wR alA
       refine aF (iU O ?_)
       refine yV [(0, _), (1, _), (2, _)] (fun (_ : Unit) => [(9, .int .i64 (s.way back))]) (fun (_ : Unit) W => W = w) DK ?_ ?_
       ·rintro _ w39 rfl
        dsimp only [List.cons_append, List.nil_append]
        refine aI (aI ?_)
        obtain ⟨NG, NH, rD, tC, wR, NI, NJ, jO⟩ := (aiu).ref
        have aaY := jO.drew
        have uY := V.kp (aaY.f13.f13.f13.f13.f13.f13.f13.f13.f13.f13.f13.f13.f13)
        refine tH [4, 10, 13] uY O (fM 0 O uY O (jF 1 O uY O (eP 2 O uY 1 aA O bZ O (eP 3 O uY 1 bf O vP O (iD 4 O uY (fun W hW => jk tZ O ((Kp.h hW).f3).get.2 O) (fM 5 O uY O (fM 6 O uY O (jF 7 O uY O (eP 8 O uY 1 aA O bZ O (eP 9 O uY 0 bf O kD O (iD 10 O uY (fun W hW => jk jf O ((Kp.h hW).f3).get.2 O) (jF 11 O uY O (eP 12 O uY 0 bG O bI O (iD 13 O uY (fun W hW => jk aB O ((Kp.h hW)).get.2 O) (fM 14 O uY O (fM 15 O uY O (iE 16 O uY (fun _ => rP ((aaY.f2).aJ) aB jU O O O (by omega)) ?_)))))))))))))))))
        refine lC 17 O (qW O func180 (SB aaY.f4 (fun W HW => mP.cut ((HW.f2).aJ) (by omega) (by omega)) hE hm hp)) ?_
        rintro _ w41 ⟨rfl, H41⟩
        have Vj := V.kp (H41.f13.f13.f13.f13.f13.f13.f13.f13.f13.f13.f13.f13.f13)
        refine dX Vj (by kernel_rfl) ?_
        have alB := H41.f3.f3
        have ajN := V.mO rD tC wR alB
        refine iE 18 O Vj (fun _ => eH O) (oH (aZ (bT O (aT (fF O O) (jo O (fun h7 => ?_) (fun h7 => ?_))))))
        ·(try simp only [aG] at h7)
         refine bT O (iJ O (aC (dO results152 O ?_)))
         have HX := ajN.f12.f12.f12.f12.f12.f12.f12.f12.f12.f11.f11.f12
         rw [show oN s.c.E s.c.at_ (s.way back) ((s.c.L.drop i.toNat).take (j.toNat - i.toNat)) = s.xQ i j back from rfl, Vo (by assumption)] at HX
         exact ⟨by rw [hc] <;> rfl, by rw [zJ (by rw [hc]; assumption)]; exact V.fE dS HX⟩
        ·(try simp only [aG] at h7)
         refine gX (bT O (dM O (bg 37 aA O aN O (aH (kU 37 ajN.f3 aN) ?_))))
         rintro _ w45 Ut
         refine qG O (dM O (bg 33 aA O ah O (aH (kU 33 Ut ah) ?_)))
         rintro _ w46 ZO
         refine iR (jE O (dO results152 O ?_))
         have hc0 : s.oZ i j back = 0 := by rw [hc]; assumption
         have hs : s.uS i j back = { s.pU (s.xQ i j back).2.1 (s.xQ i j back).2.2 with lS := true, cls := 1 } := by unfold aX.uS; rw [if_pos hc0]
         exact ⟨by rw [hc0], by rw [hs]; exact V.fE (s := { s.pU (s.xQ i j back).2.1 (s.xQ i j back).2.2 with lS := true, cls := 1 }) (dS.lS _ _ (aaN dS.rx.1.2)) ZO.f12.f12.f12.f12.f12.f12.f12.f12.f12.f12.f12.f12⟩
       ·skip
        refine bT O (dM O (bg 28 aA O ah O (dQ ay O (aiu.f2).get.2 O (aT (fA O O) (nS O (fun h8 => ?_) (fun h8 => ?_))))))
        ·(try simp only [aG] at h8)
         refine dB (dB (dB (dB (mQ O O (iR (DZ (kG O (bT O (jo O (fun h9 => ?_) (fun h9 => ?_))))))))))
         ·(try simp only [aG] at h9)
          refine aF (lg O (dJ ?_))
          refine ji (()) ?_ ?_ ?_
          ·exact (Sub.vG O (by unfold aX.way; rw [← hlast hin]; simp_all) (Sub.nil _))
          ·exact DK
          ·(try dsimp only)
           first | done | exact rfl
         ·(try simp only [aG] at h9)
          refine eG ?_
          refine ji (()) ?_ ?_ ?_
          ·exact (Sub.vG O (by unfold aX.way; rw [← hlast hin]; simp_all) (Sub.nil _))
          ·exact DK
          ·(try dsimp only)
           first | done | exact rfl
        ·(try simp only [aG] at h8)
         refine bJ (cO O (bJ (dM O (bJ (bg 37 aA O aN O (bJ (dQ bn O (aiu.f2).get.2 O (kP O O (jo O (fun h10 => ?_) (fun h10 => ?_))))))))))
         ·(try simp only [aG] at h10)
          refine kG O (bT O (jo O (fun h11 => ?_) (fun h11 => ?_)))
          ·(try simp only [aG] at h11)
           refine aF (lg O (dJ ?_))
           refine ji (()) ?_ ?_ ?_
           ·exact (Sub.vG O (by unfold aX.way; rw [← hlast hin]; simp_all) (Sub.nil _))
           ·exact DK
           ·(try dsimp only)
            first | done | exact rfl
          ·(try simp only [aG] at h11)
           refine eG ?_
           refine ji (()) ?_ ?_ ?_
           ·exact (Sub.vG O (by unfold aX.way; rw [← hlast hin]; simp_all) (Sub.nil _))
           ·exact DK
           ·(try dsimp only)
            first | done | exact rfl
         ·(try simp only [aG] at h10)
          refine eG ?_
          refine ji (()) ?_ ?_ ?_
          ·exact (Sub.vG O (by unfold aX.way; rw [← hlast hin]; simp_all) (Sub.nil _))
          ·exact DK
          ·(try dsimp only)
           first | done | exact rfl
theorem Xl (H : V w0 w (dY y s • F)) : iK prog 99 #[.pointer (some ⟨y, 0, none⟩), .int .i64 i, .int .i64 j, .bool back] w fun v' w' => v' = .int .i64 (s.oZ i j back) ∧ V w0 w' (dY y (s.uS i j back) • F) := by
  refine MJ func99 ntmps99 ?_
  refine kG O (bT O (ku O O (cO O (fH O func152 (PE H) ?_))))
  rintro _ w1 ⟨rfl, H1⟩
  refine iJ O (dO results99 O ?_)
  exact ⟨O, H1⟩
theorem Xm (H : V w0 w (dY y s • F)) : iK prog 97 #[.pointer (some ⟨y, 0, none⟩), .int .i64 i, .int .i64 j, .bool back] w fun v' w' => v' = .int .i64 (s.Vb i j back) ∧ V w0 w' (dY y (s.zZ i j back) • F) := by
  refine MJ func97 ntmps97 ?_
  refine kG O (aI (bT O (ku O O (cO O (fH O func152 (PE H) ?_)))))
  rintro _ w1 ⟨rfl, H1⟩
  refine iU O (bT O (aT (fF O O) (jo O (fun h1 => ?_) (fun h1 => ?_))))
  · (try simp only [aG] at h1)
    have hc := h1
    refine bT O (iJ O (aC (dO results97 O ?_)))
    exact ⟨by unfold aX.Vb; rw [if_neg hc], by unfold aX.zZ; rw [if_neg hc]; have HX := H1; rw [zJ hc] at HX; exact HX⟩
  · (try simp only [aG] at h1)
    have hc := h1
    refine gX (bT O (ku O O (fH O func95 (rG H1 (fun W _ => mP.nil W _ none 0 (by decide)) (by (try simp only [List.length_nil]); omega)) ?_)))
    rintro _ w2 ⟨rfl, H2⟩
    refine iJ O (dO results97 O ?_)
    exact ⟨by unfold aX.Vb; rw [if_pos hc], by unfold aX.zZ; rw [if_pos hc]; exact H2⟩
theorem Xn (H : V w0 w (dY y s • F)) : iK prog 101 #[.pointer (some ⟨y, 0, none⟩)] w fun v' w' => v' = .int .i64 s.yN ∧ V w0 w' (dY y s.ql • F) := by
 refine jl func101 ntmps101 ?_
 refine kG O (aI (aI ?_))
 obtain ⟨ED, tu, uo, uq, uw, wL, wM, EF, wO, wP, vJ, vK, wQ, uy, uz, uD, uF, uG, uH, uI, uJ, uK, uM, uN, uO, dS, lF, fU⟩ := (H).xq
 refine aF (kY O O (bg 32 aA O aN O (dQ bn O (fU).get.2 O (aT (jG O) (jo O (fun h1 => ?_) (fun h1 => ?_))))))
 ·(try simp only [aG] at h1)
  have hin : s.inn = false := by simpa using h1
  refine jE O (aC (dO results101 O ?_))
  have F9 := fU.f12.f12.f12.f12.f12.f12.f12.f12.f12.f12.f12.f12
  have Fq := V.fE (s := s) dS F9
  exact ⟨by simp [aX.yN, aX.ql, hin], by rw [show s.ql = s from by simp [aX.yN, aX.ql, hin]]; exact Fq⟩
 ·(try simp only [aG] at h1)
  have hin : s.inn = true := by simpa using h1
  refine gX (aI ?_)
  obtain ⟨hE, hp, hm⟩ := dS.rx.1.2
  have hR := JK hm s.c.at_
  have hY : s.yN = if s.c.E.length = 0 then 6 else s.KG s.top := by unfold aX.yN; rw [if_pos hin]
  refine aF (kY O O (bg 1 aA O bZ O (bg 1 bf O vP O (dQ tZ O (fU).get.2 O (fH O func156 (SC fU.f3 hm hp) ?_)))))
  rintro _ w5 ⟨u5, rfl, H5⟩
  refine cO O (xY O O (xY O O (lg O (vI O (bT O (aT (fF O O) (jo O (fun h2 => ?_) (fun h2 => ?_))))))))
  ·(try simp only [aG] at h2)
   have h6 : s.c.E.length = 0 := by by_cases hx : s.c.E.length = 0; exact hx; exact absurd (if_neg hx) h2
   rw [if_pos h6] at hY
   refine bT O (iJ O (aC (dO results101 O ?_)))
   have Qd := H5.f13.f13.f13.f13.f13.f13.f13.f13.f13.f11.f13.f13
   have Qe := V.fE (s := s) dS Qd
   exact ⟨by rw [hY]; show Value.int _ (if s.c.E.length = 0 then 6 else 0) = _; rw [if_pos h6], by rw [show s.ql = s from by unfold aX.ql; rw [if_neg (by rw [hY]; decide)]]; exact Qe.f2.right⟩
  ·(try simp only [aG] at h2)
   have h6 : ¬ s.c.E.length = 0 := fun hx => by rw [if_pos hx] at h2; exact absurd h2 (by decide)
   rw [if_neg h6] at hY
   obtain ⟨NG, NH, rD, tC, wR, NI, NJ, jO⟩ := (H5.f4).ref
   have hpt := tC
   have hL9 := rD
   have hT9 : s.top.length ≤ 1024 := hR
   refine gX (aI (bT O (dM O (bg 1 aA O bZ O (bg 0 bf O kD O (dQ jf O (jO.f5).get.2 O (dM O (bg 0 bG O bI O (dQ aB O (jO).get.2 O (aT (kT ((jO.f2).aJ) aB O) (cO O (aT (kT ((jO.f3).aJ) aB O) (aT (gY O O (by omega)) (aT (fZ O O) (jo O (fun h3 => ?_) (fun h3 => ?_))))))))))))))))
   ·(try simp only [aG] at h3)
    have hI : s.KG s.top = 3 := by have h9 := h3; unfold aX.KG aX.lU lG; rw [if_pos hin, if_neg (by omega), if_pos (by have h8 : s.top.length = (s.c.E.getD s.c.at_ []).length := rfl; omega)]
    refine jE O (aC (dO results101 O ?_))
    have aiv := jO.f2.f2
    have agx := V.mO rD tC wR aiv
    have LX := agx.f13.f13.f13.f13.f13.f13.f13.f13.f13.f12.f11.f13
    have Fz := V.fE (s := s) dS LX
    exact ⟨by rw [hY, hI], by rw [show s.ql = s from by unfold aX.ql; rw [if_neg (by rw [hY, hI]; decide)]]; exact Fz.f2.right⟩
   ·(try simp only [aG] at h3)
    have hI : s.KG s.top = 0 := by have h9 := h3; unfold aX.KG aX.lU lG; rw [if_pos hin, if_neg (by omega), if_neg (by have h8 : s.top.length = (s.c.E.getD s.c.at_ []).length := rfl; omega)]
    simp only [qJ] at jO
    refine gX (bT O (dM O (bg 1 aA O bZ O (bg 0 bf O kD O (dQ jf O (jO.f5).get.2 O (dM O (bg 1 bG O ah O (dQ ay O (jO).get.2 O (iU O (bT O (dM O (bg 1 aA O bZ O (bg 0 bf O kD O (dQ jf O (jO.f5).get.2 O (kY O O (bg 2 bG O ah O (aH (st3 2 jO ah) ?_)))))))))))))))))
    rintro _ w16 yG
    have SI := yG.f2.f2
    have WO := V.mO (pt := s.c.pt) (mk := s.c.pt) rD tC (by omega) SI
    have aaP := WO.f13.f13.f13.f13.f13.f13.f13.f13.f13.f12.f11.f13
    have aaQ := V.fE (s := s.jw s.c.L s.c.pt s.c.pt) (dS.jw _ _ _) aaP
    refine qG O (ku O O (cO O (fH O func95 (rG aaQ (fun W HW => (HW).aJ) (by (try simp only [List.length_nil]); omega)) ?_)))
    rintro _ Ya ⟨rfl, xZ⟩
    obtain ⟨t, ht⟩ : ∃ t, t = (s.jw s.c.L s.c.pt s.c.pt).gy s.c.pt s.c.pt s.top := ⟨_, rfl⟩
    have HT := xZ
    rw [show (s.jw s.c.L s.c.pt s.c.pt).gy s.c.pt s.c.pt (s.c.E.getD s.c.at_ []) = t from ht.symm] at HT
    obtain ⟨ED, tu, uo, uq, uw, wL, wM, EF, wO, wP, vJ, vK, wQ, uy, uz, uD, uF, uG, uH, uI, uJ, uK, uM, uN, uO, dS, lF, fU⟩ := (HT).xq
    refine qG O (ku O O (ku O O (ku O O (aT (kT ((fU.f13).aJ) aB O) (aT (gY O O (by omega)) (dM O (bg 33 aA O ah O (aH (kU 33 fU ah) ?_))))))))
    rintro _ Yb BM
    refine dM O (bg 34 aA O ah O (aH (kU 34 BM ah) ?_))
    rintro _ w24 Hw
    refine dM O (bg 35 aA O ah O (aH (kU 35 Hw ah) ?_))
    rintro _ w25 Jo
    refine dM O (bg 38 aA O aN O (aH (kU 38 Jo aN) ?_))
    rintro _ w26 FK
    refine iR (jE O (dO results101 O ?_))
    have hE0 : s.yN = 0 := by rw [hY, hI]
    have hti : t.inn = true := by rw [ht, Vr]; exact hin
    have HX := FK.f13.right.f12.f12.f12.f12.f12.f12.f12.f12.f12.f12.f12.f12
    rw [show t.yx = t.was.last from if_pos hti, show t.Ox = t.was.fr from if_pos hti, show t.Qi = t.was.to from if_pos hti] at HX
    exact ⟨by rw [hE0], by rw [acS hin hE0 hpt, ← ht]; exact V.ab0 (s := { t with jc := true, cls := 2, c := { t.c with fr := s.c.pt, to := s.c.pt + s.top.length } }) (dS.jc _ _) hti HX⟩
theorem aeT {s : aX} (h0 : s.EU x = 0) : s.zF x = { (s.pU s.c.E (zC s.c.E.length s.c.at_ x)).gy s.c.fr s.c.to (s.BF x) with jc := true, cls := 2, c := { ((s.pU s.c.E (zC s.c.E.length s.c.at_ x)).gy s.c.fr s.c.to (s.BF x)).c with fr := s.c.fr, to := s.c.fr + (s.BF x).length } } := by
  unfold aX.zF
  rw [if_pos h0, aaV]
theorem iY.ring {es : List gJ} {A : List LE} {yf yt : Int} (h : iY s es A yf yt) (E : List (List Int)) (a : Nat) (hE : E.length ≤ 60 ∧ (a < E.length ∨ a = 0) ∧ ∀ e ∈ E, e.length ≤ 1024) : iY (s.pU E a) es A yf yt :=
  ⟨h.ok, ⟨⟨h.rx.1.1, hE⟩, h.rx.2.1, h.rx.2.2⟩, h.says, h.Fv, h.placed, h.G9⟩
theorem Zi (H : V w0 w (dY y s • F)) : iK prog 103 #[.pointer (some ⟨y, 0, none⟩), .int .i64 x] w fun v' w' => v' = .int .i64 (s.EU x) ∧ V w0 w' (dY y (s.zF x) • F) := by
  refine nO func103 ntmps103 ?_
  refine kG O (aI (aI ?_))
  obtain ⟨ED, tu, uo, uq, uw, wL, wM, EF, wO, wP, vJ, vK, wQ, uy, uz, uD, uF, uG, uH, uI, uJ, uK, uM, uN, uO, dS, lF, fU⟩ := (H).xq
  refine aF (kY O O (bg 32 aA O aN O (dQ bn O (fU).get.2 O (aT (jG O) (jo O (fun h1 => ?_) (fun h1 => ?_))))))
  · (try simp only [aG] at h1)
    have hin : s.inn = false := by simpa using h1
    refine jE O (aC (dO results103 O ?_))
    have F9 := fU.f12.f12.f12.f12.f12.f12.f12.f12.f12.f12.f12.f12
    have Fq := V.fE (s := s) dS F9
    exact ⟨by simp [aX.EU, aX.zF, hin], by rw [show s.zF x = s from by simp [aX.EU, aX.zF, hin]]; exact Fq⟩
  · (try simp only [aG] at h1)
    have hin : s.inn = true := by simpa using h1
    refine gX (aI (aI ?_))
    obtain ⟨hE, hp, hm⟩ := dS.rx.1.2
    have hR := JK hm (zC s.c.E.length s.c.at_ x)
    have hlast : s.yx = s.c.last := by show (if s.inn = true then _ else _) = _; rw [if_pos hin]; exact (dS.rx.2.1 hin).2.1.symm
    have ajO : s.Ox = s.was.fr := if_pos hin
    have alC : s.Qi = s.was.to := if_pos hin
    have hL9 : s.c.L.length ≤ 1024 := by obtain ⟨a, c, h4, _⟩ := (fU.f2).ref; exact h4
    refine aF (kY O O (bg 28 aA O ah O (dQ ay O (fU).get.2 O (aT (fF O O) (nS O (fun h2 => ?_) (fun h2 => ?_))))))
    · (try simp only [aG] at h2)
      refine dB (dB (dB (dB (mQ O O (iR (DZ (jE O (aC (dO results103 O ?_)))))))))
      have hb : s.c.last ≠ 2 ∨ s.jc = true := by rw [← hlast]; simp_all
      have hP : s.EU x = 6 := by unfold aX.EU; rw [if_pos hin, if_pos hb]
      have LP := fU.f12.f12.f12.f12.f12.f12.f12.f12.f12.f12.f12.f12
      have Ih := V.fE (s := s) dS LP
      exact ⟨by rw [hP], by rw [show s.zF x = s from by unfold aX.zF; rw [if_neg (by rw [hP]; decide)]]; exact Ih⟩
    · (try simp only [aG] at h2)
      refine bJ (cO O (bJ (dM O (bJ (bg 38 aA O aN O (bJ (dQ bn O (fU).get.2 O (kP O O (jo O (fun h3 => ?_) (fun h3 => ?_))))))))))
      · (try simp only [aG] at h3)
        refine jE O (aC (dO results103 O ?_))
        have hb : s.c.last ≠ 2 ∨ s.jc = true := by rw [← hlast]; simp_all
        have hP : s.EU x = 6 := by unfold aX.EU; rw [if_pos hin, if_pos hb]
        have Ho9 := fU.f12.f12.f12.f12.f12.f12.f12.f12.f12.f12.f12.f12
        have KL := V.fE (s := s) dS Ho9
        exact ⟨by rw [hP], by rw [show s.zF x = s from by unfold aX.zF; rw [if_neg (by rw [hP]; decide)]]; exact KL⟩
      · (try simp only [aG] at h3)
        refine gX (aI ?_)
        have hb : ¬ (s.c.last ≠ 2 ∨ s.jc = true) := by rw [← hlast]; simp_all
        have hy9 : s.jc = false := by simpa using fun h => hb (.inr h)
        have hfr : s.Ox = s.c.fr := by rw [ajO]; exact ((dS.rx.2.1 hin).2.2 hy9).1.symm
        have hto : s.Qi = s.c.to := by rw [alC]; exact ((dS.rx.2.1 hin).2.2 hy9).2.symm
        have hP : s.EU x = if s.c.E.length = 0 then 6 else s.lU s.c.fr s.c.to (s.BF x) := by unfold aX.EU; rw [if_pos hin, if_neg hb]
        obtain ⟨ab1, En⟩ := (fU.f3).Pn
        refine aF (kY O O (bg 1 aA O bZ O (bg 1 bf O vP O (dQ tZ O (En.f3).get.2 O (dM O (bg 1 dD O ah O (dQ ay O (En).get.2 O ?_)))))))
        have Sj := En.f2.f2
        have Qh := V.mV Sj
        refine iU O (bT O (dM O (bg 1 aA O bZ O (bg 1 bf O vP O (dQ tZ O (Qh.f2).get.2 O (cO O (fH O func157 (OB Qh hE hm hp) ?_)))))))
        rintro _ Ry ⟨u15, rfl, CJ⟩
        refine cO O (xY O O (xY O O (lg O (vI O (bT O (aT (fA O O) (jo O (fun h4 => ?_) (fun h4 => ?_))))))))
        · (try simp only [aG] at h4)
          have hE6 : ¬ s.c.E.length = 0 := fun hx => by rw [if_pos hx] at h4; exact absurd h4 (by decide)
          rw [if_neg hE6] at hP
          have HX6 := CJ
          simp only [if_neg hE6] at HX6
          have hat : zC s.c.E.length s.c.at_ x < s.c.E.length := Qx (by omega)
          have ahe := HX6.drew
          have Fe := V.kp (ahe.f13.f13.f13.f13.f13.f13.f13.f13.f13.f13.f13.f13.f13)
          refine tH [4, 8] Fe O (fM 0 O Fe O (fM 1 O Fe O (jF 2 O Fe O (eP 3 O Fe 29 aA O ah O (iD 4 O Fe (fun W hW => FW (fB (dG ay O) O (iP ((Kp.h hW).f3).get.2 O)) (congrArg (Value.int .i64) hfr)) (fM 5 O Fe O (jF 6 O Fe O (eP 7 O Fe 30 aA O ah O (iD 8 O Fe (fun W hW => FW (fB (dG ay O) O (iP ((Kp.h hW).f3).get.2 O)) (congrArg (Value.int .i64) hto)) ?_)))))))))
          have WU := ahe.f13.f13.f13.f13.f13.f13.f13.f13.f13.f11.f13.f13
          have WV := V.fE (s := s.pU s.c.E (zC s.c.E.length s.c.at_ x)) (dS.ring _ _ ⟨hE, .inl hat, hm⟩) WU
          refine fM 9 O Fe O (lC 10 O (qW O func95 (rG WV (fun W HW => (HW).aJ) (by (try simp only [List.length_nil]); omega))) ?_)
          rintro _ U5 ⟨rfl, DN⟩
          obtain ⟨t, ht⟩ : ∃ t, t = (s.pU s.c.E (zC s.c.E.length s.c.at_ x)).gy s.c.fr s.c.to (s.BF x) := ⟨_, rfl⟩
          have HT := DN
          rw [show (s.pU s.c.E (zC s.c.E.length s.c.at_ x)).gy s.c.fr s.c.to (s.c.E.getD (zC s.c.E.length s.c.at_ x) []) = t from ht.symm] at HT
          have hti : t.inn = true := by rw [ht, Vr]; exact hin
          have aeU : t.Ox = s.c.fr := by rw [show t.Ox = t.was.fr from if_pos hti, ht, (aaX _ _ _ _).1]; exact ajO.symm.trans hfr
          obtain ⟨ED, tu, uo, uq, uw, wL, wM, EF, wO, wP, vJ, vK, wQ, uy, uz, uD, uF, uG, uH, uI, uJ, uK, uM, uN, uO, dS, lF, fU⟩ := (HT).xq
          have EW := V.kp (fU.f13.f13.f13.f13.f13.f13.f13.f13.f13.f13.f13.f13.f13)
          refine dX EW (by kernel_rfl) ?_
          refine iE 11 O EW (fun _ => eH O) (oH (aZ (aI (bT O (aT (fF O O) (jo O (fun h5 => ?_) (fun h5 => ?_)))))))
          · (try simp only [aG] at h5)
            refine aI ?_
            obtain ⟨ab1, En⟩ := (fU.f3).Pn
            refine aF (kY O O (bg 1 aA O bZ O (bg 1 bf O vP O (dQ tZ O (En.f3).get.2 O (kY O O (bg 1 dD O ah O (aH (st2 1 En ah) ?_)))))))
            rintro _ Ya xZ
            have aia := xZ.f2.f2
            have aib := V.mV aia
            refine qG O (iJ O (aC (dO results103 O ?_)))
            have hI : s.lU s.c.fr s.c.to (s.BF x) ≠ 0 := by assumption
            have hts : t = s.pU s.c.E (zC s.c.E.length s.c.at_ x) := by rw [ht]; exact OD hI
            subst hts
            exact ⟨by rw [hP] <;> rfl, by rw [show s.zF x = s from by unfold aX.zF; rw [if_neg (by rw [hP]; exact hI)]]; exact V.fE (s := s) (dS.ring s.c.E s.c.at_ ⟨hE, hp, hm⟩) aib.f13.right.f12.f12.f12.f12.f12.f12.f12.f12.f12.f10.f12.f12⟩
          · (try simp only [aG] at h5)
            have hrg : 0 ≤ s.c.fr ∧ s.c.fr ≤ 1048576 := by
              first
                | (exfalso; simp [hE6] at h5; done)
                | (have h9 := L6 (L := s.c.L) (i := s.c.fr) (j := s.c.to) (l := s.BF x) (by have h8 := h5; show lG s.c.L s.c.fr s.c.to (s.BF x) = 0; unfold aX.lU at h8; rw [if_pos (show (s.pU s.c.E (zC s.c.E.length s.c.at_ x)).inn = true from hin)] at h8; exact h8); omega)
            refine gX (aI ?_)
            have aaZ := fU.drew
            have uZ := V.kp (aaZ.f13.f13.f13.f13.f13.f13.f13.f13.f13.f13.f13.f13.f13)
            refine tH [7, 11] uZ O (fM 0 O uZ O (fM 1 O uZ O (fM 2 O uZ O (fM 3 O uZ O (fM 4 O uZ O (jF 5 O uZ O (eP 6 O uZ 29 aA O ah O (iD 7 O uZ (fun W hW => FW (fB (dG ay O) O (iP ((Kp.h hW)).get.2 O)) (congrArg (Value.int .i64) aeU)) (fM 8 O uZ O (jF 9 O uZ O (eP 10 O uZ 29 aA O ah O (iD 11 O uZ (fun W hW => FW (fB (dG ay O) O (iP ((Kp.h hW)).get.2 O)) (congrArg (Value.int .i64) aeU)) (fM 12 O uZ O (iE 13 O uZ (fun _ => kT ((aaZ.f13).aJ) aB O) (iE 14 O uZ (fun _ => gY O O (by omega)) (jF 15 O uZ O (eP 16 O uZ 33 aA O ah O ?_)))))))))))))))))
            refine gW 17 O (by kernel_rfl) (kU 33 aaZ ah) ?_
            rintro _ w25 Jo
            have Cc := V.kp (Jo.f13.f13.f13.f13.f13.f13.f13.f13.f13.f13.f13.f13.f13)
            refine dX Cc (by kernel_rfl) ?_
            refine jF 18 O Cc O (eP 19 O Cc 34 aA O ah O ?_)
            refine gW 20 O (by kernel_rfl) (kU 34 Jo ah) ?_
            rintro _ w26 FK
            have ND := V.kp (FK.f13.f13.f13.f13.f13.f13.f13.f13.f13.f13.f13.f13.f13)
            refine dX ND (by kernel_rfl) ?_
            refine jF 21 O ND O (eP 22 O ND 35 aA O ah O ?_)
            refine gW 23 O (by kernel_rfl) (kU 35 FK ah) ?_
            rintro _ w27 KT
            have Ji := V.kp (KT.f13.f13.f13.f13.f13.f13.f13.f13.f13.f13.f13.f13.f13)
            refine dX Ji (by kernel_rfl) ?_
            refine jF 24 O Ji O (eP 25 O Ji 38 aA O aN O ?_)
            refine gW 26 O (by kernel_rfl) (kU 38 KT aN) ?_
            rintro _ w28 Rz
            have Jh := V.kp (Rz.f13.f13.f13.f13.f13.f13.f13.f13.f13.f13.f13.f13.f13)
            refine dX Jh (by kernel_rfl) ?_
            refine oH (aZ (jE O (dO results103 O ?_)))
            have hI : s.lU s.c.fr s.c.to (s.BF x) = 0 := by assumption
            have hE0 : s.EU x = 0 := by rw [hP, hI]
            have HX := Rz.f13.right.f12.f12.f12.f12.f12.f12.f12.f12.f12.f12.f12.f12
            rw [show t.yx = t.was.last from if_pos hti, show t.Ox = t.was.fr from if_pos hti, show t.Qi = t.was.to from if_pos hti] at HX
            exact ⟨by rw [hE0], by rw [aeT hE0, ← ht]; exact V.ab0 (s := { t with jc := true, cls := 2, c := { t.c with fr := s.c.fr, to := s.c.fr + (s.BF x).length } }) (dS.jc _ _) hti HX⟩
        · (try simp only [aG] at h4)
          have hE6 : s.c.E.length = 0 := by by_cases hx : s.c.E.length = 0; exact hx; exact absurd (if_neg hx) h4
          rw [if_pos hE6] at hP
          have aeU := hfr
          refine gX (aI (bT O (aT (fF O O) (jo O (fun h6 => ?_) (fun h6 => ?_)))))
          · (try simp only [aG] at h6)
            refine aI ?_
            obtain ⟨ab1, En⟩ := (CJ.f2).Pn
            refine aF (kY O O (bg 1 aA O bZ O (bg 1 bf O vP O (dQ tZ O (En.f4).get.2 O (kY O O (bg 1 dD O ah O (aH (st2 1 En ah) ?_)))))))
            rintro _ w30 P9
            have aif := P9.f2.f2
            have aih := V.mV aif
            refine qG O (iJ O (aC (dO results103 O ?_)))
            have HX5 := aih.f2.right.f12.f12.f12.f12.f12.f12.f12.f12.f12.f10.f12.f12
            exact ⟨by rw [hP]; show Value.int _ (if s.c.E.length = 0 then 6 else 0) = _; rw [if_pos hE6], by rw [show s.zF x = s from by unfold aX.zF; rw [if_neg (by rw [hP]; decide)]]; exact V.fE (s := s) dS HX5⟩
          · (try simp only [aG] at h6)
            have hrg : 0 ≤ s.c.fr ∧ s.c.fr ≤ 1048576 := by
              first
                | (exfalso; simp [hE6] at h6; done)
                | (have h9 := L6 (L := s.c.L) (i := s.c.fr) (j := s.c.to) (l := s.BF x) (by have h8 := h6; show lG s.c.L s.c.fr s.c.to (s.BF x) = 0; unfold aX.lU at h8; rw [if_pos (show (s.pU s.c.E (zC s.c.E.length s.c.at_ x)).inn = true from hin)] at h8; exact h8); omega)
            refine gX (aI ?_)
            have aa0 := CJ.drew
            have vk := V.kp (aa0.f13.f13.f13.f13.f13.f13.f13.f13.f13.f13.f13.f13.f13)
            refine tH [7, 11] vk O (fM 0 O vk O (fM 1 O vk O (fM 2 O vk O (fM 3 O vk O (fM 4 O vk O (jF 5 O vk O (eP 6 O vk 29 aA O ah O (iD 7 O vk (fun W hW => FW (fB (dG ay O) O (iP ((Kp.h hW).f3).get.2 O)) (congrArg (Value.int .i64) aeU)) (fM 8 O vk O (jF 9 O vk O (eP 10 O vk 29 aA O ah O (iD 11 O vk (fun W hW => FW (fB (dG ay O) O (iP ((Kp.h hW).f3).get.2 O)) (congrArg (Value.int .i64) aeU)) (fM 12 O vk O (iE 13 O vk (fun _ => kT ((aa0).aJ) aB O) (iE 14 O vk (fun _ => gY O O (by omega)) (jF 15 O vk O (eP 16 O vk 33 aA O ah O ?_)))))))))))))))))
            refine gW 17 O (by kernel_rfl) (kU 33 aa0.f3 ah) ?_
            rintro _ w34 Yy
            have Ld := V.kp (Yy.f13.f13.f13.f13.f13.f13.f13.f13.f13.f13.f13.f13.f13)
            refine dX Ld (by kernel_rfl) ?_
            refine jF 18 O Ld O (eP 19 O Ld 34 aA O ah O ?_)
            refine gW 20 O (by kernel_rfl) (kU 34 Yy ah) ?_
            rintro _ w35 H35
            have SX := V.kp (H35.f13.f13.f13.f13.f13.f13.f13.f13.f13.f13.f13.f13.f13)
            refine dX SX (by kernel_rfl) ?_
            refine jF 21 O SX O (eP 22 O SX 35 aA O ah O ?_)
            refine gW 23 O (by kernel_rfl) (kU 35 H35 ah) ?_
            rintro _ w36 H36
            have Zj := V.kp (H36.f13.f13.f13.f13.f13.f13.f13.f13.f13.f13.f13.f13.f13)
            refine dX Zj (by kernel_rfl) ?_
            refine jF 24 O Zj O (eP 25 O Zj 38 aA O aN O ?_)
            refine gW 26 O (by kernel_rfl) (kU 38 H36 aN) ?_
            rintro _ w37 H37
            have aeV := V.kp (H37.f13.f13.f13.f13.f13.f13.f13.f13.f13.f13.f13.f13.f13)
            refine dX aeV (by kernel_rfl) ?_
            refine oH (aZ (jE O (dO results103 O ?_)))
            exfalso
            simp [hE6] at *
end
theorem aiw {es : List gJ} {m : Nat} (hm : m < es.length) : ((es.map gJ.says).reverse.take (es.length - m)).map xP = ((es.map gJ.says).reverse.take (es.length - (m + 1))).map xP ++ [xP (es.getD m default).says] := by
  have := Yl (es := es) (k := es.length - (m + 1)) (by omega)
  rwa [show es.length - (m + 1) + 1 = es.length - m from by omega, show es.length - (es.length - m) = m from by omega] at this
section
variable {w0 w : World} {F : HP} {y : Nat} {s : aX} {gl : Value} {vO : List gJ}
theorem Uz (H : V w0 w (Jm gl vO • dY y s • F)) (hB : ∀ k, k < vO.length → EB (vO.getD k default).says) (al1 : vO.length ≤ 16384) : iK prog 159 #[.pointer (some ⟨y, 0, none⟩), gl] w fun _ w' => V w0 w' (Jm gl vO • dY y (s.Dx ((vO.map gJ.says).reverse.map xP)) • F) := by
 refine nO func159 ntmps159 ?_
 obtain ⟨ED, tu, uo, uq, uw, wL, wM, EF, wO, wP, vJ, vK, wQ, uy, uz, uD, uF, uG, uH, uI, uJ, uK, uM, uN, uO, dS, lF, fU⟩ := (H.f2).xq
 refine bT O (aT (fV ((fU.f13).yU) aV O) (aT (nN O O (by omega)) (iU O (bK ?_))))
 obtain ⟨agl, cgl, egl, -⟩ := ((fU.f13).yU).form
 subst egl
 obtain ⟨R3, hR3, HR3⟩ := V.QK (fU.f13.f3)
 refine jh [(0, _), (1, _)] (fun (k : Nat) => [(4, .int .i64 ((k : Int) - 1))]) (fun (k : Nat) W => k ≤ vO.length ∧ V w0 W (kC tu (aX.apps (s.c.L, s.c.pt, s.c.mark) (((vO.map gJ.says).reverse.take (vO.length - k)).map xP)).1 (aX.apps (s.c.L, s.c.pt, s.c.mark) (((vO.map gJ.says).reverse.take (vO.length - k)).map xP)).2.1 (aX.apps (s.c.L, s.c.pt, s.c.mark) (((vO.map gJ.says).reverse.take (vO.length - k)).map xP)).2.2 • Jm (.slice agl (vO.length) cgl) vO • gU y (.cells (.pointer (some ⟨ED, 0, none⟩) :: .pointer (some ⟨tu, 0, none⟩) :: .pointer (some ⟨uo, 0, none⟩) :: uq :: uw :: .int .i64 s.c.place :: .string (fP s.hl s.c.tx s.c.place) :: wL :: wM :: .int .i64 s.c.mode :: .bool s.c.over :: .int .i64 s.c.res :: .bool s.c.run :: uy :: uz :: uD :: uF :: uG :: uH :: uI :: uJ :: uK :: uM :: uN :: uO :: .bool s.given :: .bool s.minus :: .int .i64 s.arg :: .int .i64 s.yx :: .int .i64 s.Ox :: .int .i64 s.Qi :: .int .i64 s.nR :: .bool s.inn :: .int .i64 s.cls :: .int .i64 vJ :: .int .i64 vK :: .bool s.argues :: .bool s.lS :: .bool s.jc :: wO :: .bool s.whole :: .bool wQ :: []).toArray 58 (0, 0)) • R3)) (fun (k : Nat) => k) (vO.length) vV rJ ⟨by omega, by rw [Nat.sub_self]; exact HR3⟩ ?_
 rintro k w4 ⟨hk, HL⟩
 dsimp only [List.cons_append, List.nil_append]
 refine aI (bT O (aT (vT O O) (jo O (fun h1 => ?_) (fun h1 => ?_))))
 ·(try simp only [aG] at h1)
  refine gX (aI (bK ?_))
  obtain ⟨m, rfl⟩ : ∃ m, k = m + 1 := ⟨k - 1, by omega⟩
  rw [show (((m + 1 : Nat) : Int) - 1) = (m : Int) from by omega]
  have hml : m < vO.length := by omega
  have Hq := (HL.f2).ad8 hml
  obtain ⟨hb1, hb2⟩ := hB m hml
  have hb1 : (vO.getD m default).dl.length ≤ 35184372087808 := hb1
  have hb2 : (vO.getD m default).il.length ≤ 35184372087808 := hb2
  have aix := Hq.drew
  have Lp := V.kp (aix.f5.f5.f5.f5.f5)
  refine tH [4, 8] Lp O (fM 0 O Lp O (jF 1 O Lp O (eP 2 O Lp 1 aA O bZ O (eP 3 O Lp 0 bf O kD O (iD 4 O Lp (fun W hW => jk jf O ((Kp.h hW).f5).get.2 O) (fM 5 O Lp O (fM 6 O Lp O ?_)))))))
  obtain ⟨bgl, ogl, rfl⟩ := Rd.pos ((aix.f3).yU) (by omega)
  refine iE 7 O Lp (fun _ => dP aV bM O O (by omega)) (iD 8 O Lp (fun W hW => mF (ys := [_, _, _]) (((Kp.h hW).f3).yU) (by omega) aQ O bM O (mY gJ.Ah (by omega) default) O) (lC 9 O (qW O func184 (PY aix (fun W HW => (HW).o9) (fun W HW => (HW.f2).o9) (by omega) (by omega))) ?_))
  rintro _ w5 ⟨d5, s5, rfl, H5⟩
  have zQ := V.kp (H5.f7.f7.f7.f7.f7.f7.f7)
  refine dZ zQ (fun W hW => (Kp.h hW).right.right.f5.f5.f5.f5.f5) ?_
  refine lC 10 O (qW O func183 (Us H5.f6 (fun W HW => (HW).aJ) (fun W HW => (HW.f2).aJ) (by (try simp only [List.length_nil]); omega))) ?_
  rintro _ w6 ⟨rfl, H6⟩
  have Am := V.kp (H6.f7.f7.f7.f7.f7.f7.f7)
  refine dX Am (by kernel_rfl) ?_
  refine oH (aS (aZ (aF (cO O (aT (nN O O (by omega)) (lg O (dJ ?_)))))))
  refine fG (m) ?_ ?_ ?_ ?_
  ·exact rJ
  ·exact vV
  ·(try dsimp only)
   first | done | exact ⟨by omega, by rw [aiw (m := m) hml, OH]; exact H6.f2.right.f2.right.f2.right.f2.right.f3.f3.f3⟩
  ·(try dsimp only); omega
 ·(try simp only [aG] at h1)
  refine iZ (bC ?_)
  obtain rfl : k = 0 := by omega
  have HZ := HL
  rw [Nat.sub_zero, List.take_of_length_le (by simp)] at HZ
  subst hR3
  refine bC (dK (nJ (.inr O) results159 ?_))
  exact (V.fE (s := s.Dx ((vO.map gJ.says).reverse.map xP)) (dS.jw _ _ _) HZ.f2.f13.f13.f13.f13.f13.f13.f13.f13.f13.f13.f12.f13).f2
theorem Vt (s : aX) (on : Bool) : (s.dH on).inn = s.inn ∧ (s.dH on).was = s.was ∧ (s.dH on).c.place = s.c.place := by unfold aX.dH; split <;> exact ⟨rfl, rfl, rfl⟩
theorem iY.wC {es : List gJ} {A : List LE} {yf yt : Int} (h : iY s es A yf yt) : iY s.wC es A yf yt := ⟨h.ok, h.rx, h.says, h.Fv, h.placed, h.G9⟩
theorem iY.apps {es : List gJ} {A : List LE} {yf yt : Int} (h : iY s es A yf yt) (l : List jH) : iY (s.Dx l) es A yf yt := h.jw _ _ _
theorem aeW (gs : List (Value × List gJ)) : BG (gs.take (gs.length - 1)) = (BG gs).dropLast := by
  unfold BG; rw [← List.map_dropLast, List.dropLast_eq_take]
theorem aeX {gs : List (Value × List gJ)} {gl : Value} {vO : List gJ} (hne : gs ≠ []) (hg : gs.getD (gs.length - 1) default = (gl, vO)) : (BG gs).getLastD [] = vO.map gJ.says := by
  have h0 := List.length_pos_iff.2 hne
  rw [List.getD_eq_getElem?_getD, List.getElem?_eq_getElem (by omega)] at hg
  simp only [Option.getD_some] at hg
  unfold BG
  rw [List.getLastD_eq_getLast?, List.getLast?_map, List.getLast?_eq_getElem?, List.getElem?_eq_getElem (by omega), hg]; rfl
theorem IK (H : V w0 w (dY y s • F)) : iK prog 105 #[.pointer (some ⟨y, 0, none⟩)] w fun v w' => v = .int .i64 s.oW ∧ V w0 w' (dY y s.o7 • F) := by
 refine jl func105 ntmps105 ?_
 refine kG O (aI (aI ?_))
 obtain ⟨ED, tu, uo, uq, uw, wL, wM, EF, wO, wP, vJ, vK, wQ, uy, uz, uD, uF, uG, uH, uI, uJ, uK, uM, uN, uO, dS, lF, fU⟩ := (H).xq
 refine aF (kY O O (bg 32 aA O aN O (dQ bn O (fU).get.2 O (aT (jG O) (jo O (fun h1 => ?_) (fun h1 => ?_))))))
 ·(try simp only [aG] at h1)
  have hin : s.inn = false := by simpa using h1
  refine jE O (aC (dO results105 O ?_))
  have F9 := fU.f12.f12.f12.f12.f12.f12.f12.f12.f12.f12.f12.f12
  have Fq := V.fE (s := s) dS F9
  exact ⟨by simp [aX.oW, aX.o7, hin], by rw [show s.o7 = s from by simp [aX.oW, aX.o7, hin]]; exact Fq⟩
 ·(try simp only [aG] at h1)
  have hin : s.inn = true := by simpa using h1
  refine gX (aI ?_)
  have LP := fU.f12.f12.f12.f12.f12.f12.f12.f12.f12.f12.f12.f12
  have Ih := V.fE (s := s) dS LP
  refine aF (cO O (fH O func49 (Ll Ih) ?_))
  rintro _ w8 H8
  obtain ⟨t, ht, HT⟩ : ∃ t, s.dH false = t ∧ V w0 w8 (dY y t • F) := ⟨_, rfl, H8⟩
  obtain ⟨ED, tu, uo, uq, uw, wL, wM, EF, wO, wP, vJ, vK, wQ, uy, uz, uD, uF, uG, uH, uI, uJ, uK, uM, uN, uO, dS, lF, fU⟩ := (HT).xq
  refine uV ?_
  have ajP := fU.drew
  have JQ := V.kp (ajP.f12.f12.f12.f12.f12.f12.f12.f12.f12.f12.f12.f12)
  refine tH [9] JQ O (fM 0 O JQ O (jF 1 O JQ O (eP 2 O JQ 1 aA O bZ O (eP 3 O JQ 6 bf O xX O (fM 4 O JQ O (jF 5 O JQ O (eP 6 O JQ 1 aA O bZ O (eP 7 O JQ 2 bf O mJ O (eP 8 O JQ 2 dL O ah O (iD 9 O JQ (fun W hW => jk ay O ((Kp.h hW)).get.2 O) (lC 10 O (qW O func118 (Fa ajP.f8.f8.f8.f4)) ?_)))))))))))
  rintro u10 w10 ⟨gs10, ajQ, rU⟩
  obtain ⟨gu, rfl⟩ : ∃ q, q = u10 := ⟨_, rfl⟩
  obtain ⟨gs, rfl⟩ : ∃ q, q = gs10 := ⟨_, rfl⟩
  have hG : BG gs = t.here := by rw [ajQ, dS.Fv]; rfl
  have hgl : gs.length = t.here.length := by rw [← hG]; exact (List.length_map _).symm
  have aic := Tq dS
  have aiv := rU.f2.f2
  have agx := aiv
  have D6 := V.kp (agx.f14.f14.f14.f14.f14.f14.f14.f14.f14.f14.f14.f14.f14.f14)
  refine dX D6 (by kernel_rfl) ?_
  have LX := agx.f14.f14.f14.f14.f10.f10.f10.f14.f14.f14.f14.f14
  have Fz := V.fE (s := t) dS LX
  refine iE 11 O D6 (fun _ => eH O) (oH (aZ (aI (bT O (aT (fV ((Fz.f2).oC) bP O) (aT (fA O O) (jo O (fun h2 => ?_) (fun h2 => ?_))))))))
  ·(try simp only [aG] at h2)
   have h0 : t.here = [] := List.eq_nil_of_length_eq_zero (by have h9 := h2; omega)
   refine jE O (aC (dO results105 O ?_))
   have hE : s.oW = 6 := by unfold aX.oW; rw [if_pos hin, ht, if_pos h0]
   have hS : s.o7 = t := by unfold aX.o7; rw [if_pos hin]; dsimp only; rw [ht, if_pos h0]
   exact ⟨by rw [hE], by rw [hS]; exact Fz.f2.right.f2.right⟩
  ·(try simp only [aG] at h2)
   have hne : gs ≠ [] := fun hx => h2 (by rw [hx]; rfl)
   have hgp := List.length_pos_iff.2 hne
   have h0 : ¬ t.here = [] := fun hx => hne (List.eq_nil_of_length_eq_zero (by rw [hgl, hx]; rfl))
   refine gX (bT O (ku O O (aT (fV ((Fz.f2).oC) bP O) (aT (nN O O (by omega)) ?_))))
   obtain ⟨bgu, ogu, cgu, egu⟩ := Rd.qX ((Fz.f2).oC) (by omega)
   cases egu
   refine aT (dP bP bU O O (by omega)) ?_
   refine aT (fB (dG aV O) O (by first | exact Rd.yc ((Fz.f2).oC) (by omega) | exact Rd.I8 ((Fz.f2).oC) (by omega) | exact Rd.Ib ((Fz.f2).oC) (by omega))) ?_
   rw [show (gs.map (·.1)).getD (((gs.length : Nat) : Int) - 1).toNat undef = (gs.getD (gs.length - 1) default).1 from by rw [show (((gs.length : Nat) : Int) - 1).toNat = gs.length - 1 from by omega]; simp [List.getD_eq_getElem?_getD, show gs.length - 1 < gs.length from by omega]]
   obtain ⟨gl, vO, hg⟩ : ∃ gl vO, gs.getD (gs.length - 1) default = (gl, vO) := ⟨_, _, rfl⟩
   rw [hg]
   have WU := Fz.f3
   have WV := WU.Iw (by omega) hg
   have hgm : vO.map gJ.says ∈ t.here := by rw [← hG]; exact List.mem_map.2 ⟨(gl, vO), by rw [← hg]; exact vM (by omega), rfl⟩
   have alD : ∀ k, k < vO.length → EB (vO.getD k default).says := fun k hk => (dS.ok.2.2.2.2.2 t.c.place _ hgm _ (List.mem_map.2 ⟨_, vM hk, rfl⟩)).eb
   have alE : vO.length ≤ 16384 := by
    have h1 := Nl hgm
    have h2 : iH t.here t.put ≤ 16384 := dS.ok.2.2.2.2.1
    rw [List.length_map] at h1
    unfold iH at h2
    omega
   have hla := aeX hne hg
   rw [hG] at hla
   have ajR := OG t.here t.put
   refine fH O func159 (Uz WV.f3.f2 alD alE) ?_
   rintro _ U5 DN
   obtain ⟨t2, ht2⟩ : ∃ q, q = t.Dx ((vO.map gJ.says).reverse.map xP) := ⟨_, rfl⟩
   have HT2 := DN
   rw [← ht2] at HT2
   obtain ⟨ED, tu, uo, uq, uw, wL, wM, EF, wO, wP, vJ, vK, wQ, uy, uz, uD, uF, uG, uH, uI, uJ, uK, uM, uN, uO, dS, lF, fU⟩ := (HT2.f2).xq
   have hpl := Iz dS.placed (by obtain ⟨hv9, hk9, _⟩ := (fU.f9).FH; have := hk9.1; have := hk9.2.2; omega)
   refine uV ?_
   have aeY := fU.drew
   have zT := V.kp (aeY.f15.f15.f15.f15.f15.f15.f15.f15.f15.f15.f15.f15.f15.f15.f15)
   refine tH [9] zT O (fM 0 O zT O (jF 1 O zT O (eP 2 O zT 1 aA O bZ O (eP 3 O zT 6 bf O xX O (fM 4 O zT O (jF 5 O zT O (eP 6 O zT 1 aA O bZ O (eP 7 O zT 2 bf O mJ O (eP 8 O zT 2 dL O ah O (iD 9 O zT (fun W hW => jk ay O ((Kp.h hW)).get.2 O) (fM 10 O zT O (fM 11 O zT O (iE 12 O zT (fun _ => kE bP O) (iE 13 O zT (fun _ => nN O O (by omega)) ?_))))))))))))))
   refine iE 14 O zT (fun _ => FW (rP ((aeY.f15).oC) bP bU O O O (by omega)) ((show _ = xI 1 0 (gs.length - 1) (.slice (some ⟨bgu, ogu, none⟩) (gs.length) cgu) from by rw [show (((gs.length : Nat) : Int) - 1).toNat = gs.length - 1 from by omega]; rfl))) ?_
   obtain ⟨gz, hgz⟩ : ∃ gz, gz = xI 1 0 (gs.length - 1) (.slice (some ⟨bgu, ogu, none⟩) (gs.length) cgu) := ⟨_, rfl⟩
   rw [← hgz]
   have aer := aeY.f14.f15
   have aaB := (by have HC := (aer.ahM (l := 0) (h := gs.length - 1) (by omega) (by omega)).f2.Rk (gs.length - 1) |>.f2; rw [Nat.zero_mul, List.drop_zero, Nat.sub_zero, Nat.mul_one, ← List.map_take, ← hgz] at HC; rw [show (gs.take (gs.length - 1)).length = gs.length - 1 from by rw [List.length_take]; omega]; exact HC : V w0 (U5.drew) (yK 1 gz (gs.take (gs.length - 1)).length ((gs.take (gs.length - 1)).map (·.1)) • vW (gs.take (gs.length - 1)) • _))
   refine lC 15 O (qW O func119 (JL aaB.f2.f2.f10.f10.f10.f6 (by assumption))) ?_
   rintro _ w22 ⟨aly, alz, FI⟩
   have EX := V.kp (FI.f13.f13.f13.f13.f13.f13.f13.f13.f13.f13.f13.f13.f13)
   refine dX EX (by kernel_rfl) ?_
   refine oH (aZ (bT O (kY O O (bg 40 aA O aN O (aH (kU 40 FI aN) ?_)))))
   rintro _ Yb BM
   refine dM O (bg 1 aA O bZ O (bg 11 bf O aN O (aH (kU 12 BM aN) ?_)))
   rintro _ w24 Hw
   refine iR (jE O (dO results105 O ?_))
   have hE : s.oW = 0 := by unfold aX.oW; rw [if_pos hin, ht, if_neg h0]
   have hS : s.o7 = ((t.lY t.here.dropLast).Dx ((t.here.getLastD []).reverse.map xP)).wC := by unfold aX.o7; rw [if_pos hin]; dsimp only; rw [ht, if_neg h0]
   have hF : iY ((t2.lY t.here.dropLast).wC) wP (DW EF t2.c.place gz (gs.take (gs.length - 1))) vJ vK := (dS.sub (G := t.here.dropLast) (by rw [ht2]; exact ajR) (fun g hg => by rw [ht2]; exact List.dropLast_subset _ hg) (by rw [QA, dS.Fv, aeW, hG]) (IJ dS.placed ⟨dS.ok.1.1, dS.ok.1.2.1⟩)).wC
   rw [hla] at hS
   subst ht2
   exact ⟨by rw [hE], by rw [hS]; exact V.fE (s := ((t.lY t.here.dropLast).Dx ((vO.map gJ.says).reverse.map xP)).wC) hF Hw.f13.right.f12.f12.f12.f12.f8.f8.f8.f12.f12.f12.f12.f12⟩
end
def RV (t : aX) (k : Nat) : aX := ((t.lY (t.here.take k)).Dx (((t.here.drop k).flatten).reverse.map xP)).wC
theorem aeZ (b : List Int × Int × Int) (l m : List jH) : aX.apps b (l ++ m) = aX.apps (aX.apps b l) m := by unfold aX.apps; rw [List.foldl_append]
theorem Vu (G : List (List jH)) {k : Nat} (hk : k < G.length) : (G.take (k + 1)).getLastD [] = G.getD k [] ∧ (G.take (k + 1)).dropLast = G.take k ∧ (G.drop k) = G.getD k [] :: G.drop (k + 1) := by
  refine ⟨?_, ?_, ?_⟩
  · rw [List.take_succ_eq_append_getElem hk, List.getLastD_eq_getLast?, List.getLast?_concat, List.getD_eq_getElem?_getD, List.getElem?_eq_getElem hk]
  · rw [List.take_succ_eq_append_getElem hk, List.dropLast_concat]
  · rw [List.getD_eq_getElem?_getD, List.getElem?_eq_getElem hk, List.drop_eq_getElem_cons hk]; rfl
theorem Xo (t : aX) (k : Nat) : (RV t k).here = t.here.take k := by
  show um t.c.un t.c.place (t.here.take k) t.c.place = _
  rw [jv]
theorem agy {t : aX} {k : Nat} (hin : t.inn = true) (hp : t.put = []) (hk : k < t.here.length) : (RV t (k + 1)).o7 = RV t k ∧ (RV t (k + 1)).oW = 0 := by
  obtain ⟨h1, h2, h3⟩ := Vu t.here hk
  have hp' : (RV t (k + 1)).put = [] := hp
  have hi' : (RV t (k + 1)).inn = true := hin
  have hne : ¬ (RV t (k + 1)).here = [] := by
    rw [Xo]; intro h
    have := congrArg List.length h
    rw [List.length_take] at this
    simp only [List.length_nil] at this; omega
  unfold aX.o7 aX.oW
  rw [if_pos hi', if_pos hi', CU hp']
  dsimp only
  rw [if_neg hne, if_neg hne]
  refine ⟨?_, rfl⟩
  rw [Xo, h1, h2]
  unfold RV
  rw [h3]
  simp only [List.flatten_cons, List.reverse_append, List.map_append]
  unfold aX.Dx aX.lY aX.wC aX.jw
  dsimp only
  rw [aeZ, aaw]
theorem ae0 {s : aX} (hin : s.inn = true) (h0 : ¬ (s.dH false).here = []) : s.o7 = RV (s.dH false) ((s.dH false).here.length - 1) := by
  have hl := List.length_pos_iff.2 h0
  have hk : (s.dH false).here.length - 1 < (s.dH false).here.length := by omega
  obtain ⟨h1, h2, h3⟩ := Vu (s.dH false).here hk
  rw [Nat.sub_add_cancel hl, List.take_length] at h1 h2
  unfold aX.o7
  rw [if_pos hin]
  dsimp only
  rw [if_neg h0, h2]
  unfold RV
  rw [h3, h1, Nat.sub_add_cancel hl, List.drop_length]
  simp
theorem agz {s : aX} (hin : s.inn = true) (h0 : ¬ (s.dH false).here = []) : RV (s.dH false) 0 = s.GN := by
  unfold aX.GN RV
  rw [if_pos hin]
  dsimp only
  rw [if_neg h0, List.take_zero, List.drop_zero]
section
variable {w0 w : World} {F : HP} {y : Nat} {s : aX}
theorem Zk (H : V w0 w (dY y s • F)) : iK prog 107 #[.pointer (some ⟨y, 0, none⟩)] w fun v w' => v = .int .i64 s.oW ∧ V w0 w' (dY y s.GN • F) := by
 obtain ⟨t, ht⟩ : ∃ t, t = s.dH false := ⟨_, rfl⟩
 have hti : t.inn = s.inn := by rw [ht]; exact (Vt s false).1
 have htp : t.put = [] := by rw [ht]; exact (Lm s false).1
 have htw : t.was = s.was := by rw [ht]; exact (Vt s false).2.1
 have hno : s.oW ≠ 0 → s.o7 = s.GN := fun h => by
  unfold aX.oW at h
  unfold aX.o7 aX.GN
  by_cases hin : s.inn = true
  ·rw [if_pos hin] at h ⊢
   rw [if_pos hin]
   dsimp only
   by_cases h0 : (s.dH false).here = []
   ·rw [if_pos h0, if_pos h0]
   ·rw [if_neg h0] at h; exact absurd rfl h
  ·rw [if_neg hin, if_neg hin]
 refine jl func107 ntmps107 ?_
 refine kG O (aI (bT O (fH O func105 (IK H) ?_)))
 rintro _ w1 ⟨rfl, H1⟩
 refine iU O (bT O (aT (fF O O) (jo O (fun h1 => ?_) (fun h1 => ?_))))
 ·(try simp only [aG] at h1)
  have hbad : s.oW ≠ 0 := h1
  refine bT O (iJ O (aC (dO results107 O ?_)))
  exact ⟨O, by rw [← hno hbad]; exact H1⟩
 ·(try simp only [aG] at h1)
  have h0E : s.oW = 0 := by have h9 := h1; omega
  have hin : s.inn = true := by by_cases hx : s.inn = true; exact hx; unfold aX.oW at h0E; rw [if_neg hx] at h0E; cases h0E
  have hne : ¬ t.here = [] := fun hx => by unfold aX.oW at h0E; rw [if_pos hin, ← ht, if_pos hx] at h0E; cases h0E
  have hl := List.length_pos_iff.2 hne
  have HY0 := H1
  rw [ae0 hin (ht ▸ hne), ← ht] at HY0
  refine gX (aI (bK ?_))
  refine jh [(0, _)] (fun (k : Nat) => []) (fun (k : Nat) W => k < t.here.length ∧ V w0 W (dY y (RV t k) • F)) (fun (k : Nat) => k) (t.here.length - 1) rJ (Sub.nil _) ⟨by omega, HY0⟩ ?_
  rintro k w2 ⟨hk, HL⟩
  dsimp only [List.cons_append, List.nil_append]
  refine aI (aI ?_)
  obtain ⟨tk, htk⟩ : ∃ q, q = RV t k := ⟨_, rfl⟩
  have HK9 := HL
  rw [← htk] at HK9
  obtain ⟨ED, tu, uo, uq, uw, wL, wM, EF, wO, wP, vJ, vK, wQ, uy, uz, uD, uF, uG, uH, uI, uJ, uK, uM, uN, uO, dS, lF, fU⟩ := (HK9).xq
  have ajS := fU.drew
  have JR := V.kp (ajS.f12.f12.f12.f12.f12.f12.f12.f12.f12.f12.f12.f12)
  refine tH [9] JR O (fM 0 O JR O (jF 1 O JR O (eP 2 O JR 1 aA O bZ O (eP 3 O JR 6 bf O xX O (fM 4 O JR O (jF 5 O JR O (eP 6 O JR 1 aA O bZ O (eP 7 O JR 2 bf O mJ O (eP 8 O JR 2 dL O ah O (iD 9 O JR (fun W hW => jk ay O ((Kp.h hW)).get.2 O) (lC 10 O (qW O func118 (Fa ajS.f8.f8.f8.f4)) ?_)))))))))))
  rintro u4 w4 ⟨gs4, alF, H4⟩
  obtain ⟨gu, rfl⟩ : ∃ q, q = u4 := ⟨_, rfl⟩
  obtain ⟨gs, rfl⟩ : ∃ q, q = gs4 := ⟨_, rfl⟩
  have hG : BG gs = t.here.take k := by rw [alF, dS.Fv, htk]; exact Xo t k
  have hgl : gs.length = k := by
   have h9 : (BG gs).length = gs.length := List.length_map _
   rw [← h9, hG, List.length_take]; omega
  have Ho5 := H4.f2.f2
  have Hc6 := Ho5
  have Am := V.kp (Hc6.f14.f14.f14.f14.f14.f14.f14.f14.f14.f14.f14.f14.f14.f14)
  refine dX Am (by kernel_rfl) ?_
  refine iE 11 O Am (fun _ => fV ((Hc6).oC) bP O) (iE 12 O Am (fun _ => fZ O O) ?_)
  have YW := Hc6.f14.f14.f14.f14.f10.f10.f10.f14.f14.f14.f14.f14
  have QC := V.fE (s := tk) dS YW
  have aaf := QC.f2.right
  have ad1 := aaf.f2.right
  have HK8 := ad1
  rw [htk] at HK8
  refine oH (aZ (dw O (fun h2 => ?_) (fun h2 => ?_)))
  ·(try simp only [aG] at h2)
   refine gX (bK (aF (cO O (fH O func105 (IK HK8) ?_))))
   rintro _ w12 ⟨rfl, uP⟩
   refine dJ (aS ?_)
   obtain ⟨m, rfl⟩ : ∃ m, k = m + 1 := ⟨k - 1, by omega⟩
   have HS := uP
   rw [(agy (hti.trans hin) htp (k := m) (by omega)).1] at HS
   refine fG (m) ?_ ?_ ?_ ?_
   ·exact (Sub.nil _)
   ·exact rJ
   ·(try dsimp only)
    first | done | exact ⟨by omega, HS⟩
   ·(try dsimp only); omega
  ·(try simp only [aG] at h2)
   refine iZ (bC (bC (dK (aZ (jE O (dO results107 O ?_))))))
   obtain rfl : k = 0 := by omega
   exact ⟨by rw [h0E], by rw [← agz hin (ht ▸ hne), ← ht]; exact HK8⟩
end
end Go.Proofs.YtnhhmieghbfalaaGreatDoor
end
section
namespace Go.Proofs.YtnhhmieghbfalaaGreatDoor
open Go.RowKit
def Gl (e : TypeId) (k : IntKind) : List Value → List (List Int) → HP
  | [], [] => emp
  | v :: vs, l :: ls => kF e k v l • Gl e k vs ls
  | _, _ => fact False
section
variable {w0 w : World} {F : HP} {e : TypeId} {k : IntKind} {v : Value} {l : List Int}
theorem V.ae1 (H : V w0 w F) : V w0 w (Gl e k [] [] • F) := H.VL
theorem KA : ∀ (vs : List Value) (ls : List (List Int)), (Gl e k vs ls • kF e k v l) = Gl e k (vs ++ [v]) (ls ++ [l])
  | [], [] => by show (emp • kF e k v l) = (kF e k v l • emp); rw [EI]
  | u :: vs, m :: ls => by
    show ((kF e k u m • Gl e k vs ls) • kF e k v l) = (kF e k u m • Gl e k (vs ++ [v]) (ls ++ [l]))
    rw [eX, KA vs ls]
  | [], m :: ls => by
    apply HP.ext; funext I h; apply propext
    constructor
    · intro hp; exact absurd ((Jp _ _ _ _).1 hp).1 id
    · intro hp
      cases ls with
      | nil => exact absurd (show False by obtain ⟨_, _, _, _, _, hb⟩ := hp; exact hb.1) id
      | cons x y => exact absurd (show False by obtain ⟨_, _, _, _, _, hb⟩ := hp; exact hb.1) id
  | u :: vs, [] => by
    apply HP.ext; funext I h; apply propext
    constructor
    · intro hp; exact absurd ((Jp _ _ _ _).1 hp).1 id
    · intro hp
      cases vs with
      | nil => exact absurd (show False by obtain ⟨_, _, _, _, _, hb⟩ := hp; exact hb.1) id
      | cons x y => exact absurd (show False by obtain ⟨_, _, _, _, _, hb⟩ := hp; exact hb.1) id
theorem V.KA {vs : List Value} {ls : List (List Int)} (H : V w0 w (Gl e k vs ls • kF e k v l • F)) : V w0 w (Gl e k (vs ++ [v]) (ls ++ [l]) • F) := H.deep.of_eq (by rw [Go.Proofs.YtnhhmieghbfalaaGreatDoor.KA])
theorem V.Vw : ∀ {vs : List Value} {ls : List (List Int)} {F : HP} {j : Nat}, V w0 w (Gl e k vs ls • F) → j < ls.length →
    ∃ R : HP, V w0 w (kF e k (vs.getD j undef) (ls.getD j []) • R • F) ∧ ∀ l' w' F', V w0 w' (kF e k (vs.getD j undef) l' • R • F') → V w0 w' (Gl e k vs (ls.set j l') • F')
  | [], [], _, j, _, hj => by simp at hj
  | v :: vs, l :: ls, F, 0, H, _ => ⟨Gl e k vs ls, H.flat, fun l' w' F' H' => H'.deep⟩
  | v :: vs, l :: ls, F, j + 1, H, hj => by
    obtain ⟨R, h1, h2⟩ := V.Vw (j := j) H.flat.swap (by simpa using hj)
    refine ⟨R • kF e k v l, by simpa [eX] using h1, fun l' w' F' H' => ?_⟩
    have := h2 l' w' (kF e k v l • F') (H'.of_eq (by simp only [List.getD_cons_succ]; ac_rfl))
    exact this.swap.deep
  | [], _ :: _, _, _, H, _ => absurd H.fact.1 id
  | _ :: _, [], _, _, H, _ => absurd H.fact.1 id
theorem V.QF {vs : List Value} {ls : List (List Int)} {j : Nat} (H : V w0 w (Gl e k vs ls • F)) (hj : j < ls.length) : mP w k (vs.getD j undef) (ls.getD j []) := by
  obtain ⟨R, h, _⟩ := H.Vw hj
  exact h.aJ
end
end Go.Proofs.YtnhhmieghbfalaaGreatDoor
end
