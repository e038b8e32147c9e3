import Derived.Test.YtimndnfpcomhlaaGreatDoorZ4
import Derived.Test.YtimndnfpcomhlaaGreatDoorZ18
import Derived.Test.YtimndnfpcomhlaaGreatDoorZ19
import Derived.Test.YtimndnfpcomhlaaGreatDoorCards
import Derived.Test.YtimndnfpcomhlaaGreatDoorZ5
import Derived.SevenTiedAt
set_option linter.unusedSimpArgs false
set_option linter.unusedVariables false
/- A command that can't be done leaves the editor as it was, but the bells, the argument and what was done last: EditorRefused, as the card states it, for whatever the program's variables hold.
Texts of mine, joined, their names in short: LawERefused1 HasERefused1. -/
section
namespace Go.Proofs.YtimndnfpcomhlaaGreatDoor
open Go.RowKit
open _root_.Go.Proofs.Tryz
def vZ.QG (W : World) (c : vZ) : Prop := Rd W 5 c.v c.parts.length (c.parts.flatMap og.enc) ∧ (∀ k, k < c.parts.length → (c.parts.getD k default).Reads W) ∧ c.parts.length ≤ 4398046511104
theorem O6 {w : World} {v u Y1 : Value} {l : List qE} {Sj : Int} (g1 : Rd w 2 v l.length (l.flatMap kS)) (hb1 : l.length ≤ 5864062014805) (hm : uj l ≠ 0) :
    iU prog 3 #[v, u, .agg #[Y1, .int .i64 Sj]] w fun v w' => v = .bool true ∧ Below w.heap.size w w' := by
  obtain ⟨F, H⟩ : ∃ F, V w w F := ⟨_, V.start w⟩
  have hv : Bl w F 2 v l.length (l.flatMap kS) := Bl.uU g1 F
  refine FQ func3 ntmps3 ?_
  refine jg (jL (jG (l := [_, _]) H O O) ?_)
  rintro _ w1 ⟨b1, rfl, H1⟩
  refine gY O (bM O (dZ O func4 (WW H1 (fun W HW => hv _ (HW.right)) hb1 hm) ?_))
  rintro _ w2 ⟨rfl, H2⟩
  refine cZ O (rO O O (rO O O (rO O O (lU O (lU O (tJ O (bM O (aV (oO O) (JO O (fun h1 => ?_))))))))))
  (try simp only [aH] at h1)
  refine bU (dZ O func5 (OX H2) ?_)
  rintro _ w3 ⟨rfl, H3⟩
  refine bU (aV (oO O) (lV O O (iT (I8 O (fun h2 => ?_)))))
  (try simp only [aH] at h2)
  refine iq (aO (bM O (aV (kV underlying28 O O) (xsE O (fun h3 => ?_)))))
  (try simp only [aH] at h3)
  refine dH (dH (dH (pW O O (iT (EY (lF O (aK (fB results3 O ?_))))))))
  exact ⟨O, H3.base⟩
theorem I5 {w : World} {v u Y1 : Value} {l : List qE} {cs : List vZ} {ps0 : List og} {Sj : Int} (hU : DU w) (g1 : Rd w 2 v l.length (l.flatMap kS)) (hb1 : l.length ≤ 5864062014805) (hm : uj l = 0)
    (g2 : Rd w 2 u cs.length (cs.flatMap vZ.enc)) (g3 : ∀ k, k < cs.length → (cs.getD k default).QG w) (t3 : ∀ c ∈ cs, wo c.parts) (b2 : cs.length ≤ 4398046511104)
    (g4 : Rd w 5 Y1 ps0.length (ps0.flatMap og.enc)) (g5 : ∀ k, k < ps0.length → (ps0.getD k default).Reads w) (t4 : wo ps0) (b4 : ps0.length ≤ 4398046511104) :
    iU prog 3 #[v, u, .agg #[Y1, .int .i64 Sj]] w fun v w' => v = .bool true ∧ Below w.heap.size w w' := by
  obtain ⟨F, H⟩ : ∃ F, V w w F := ⟨_, V.start w⟩
  have hv : Bl w F 2 v l.length (l.flatMap kS) := Bl.uU g1 F
  have hu : Bl w F 2 u cs.length (cs.flatMap vZ.enc) := Bl.uU g2 F
  have hp0 : Bl w F 5 Y1 ps0.length (ps0.flatMap og.enc) := Bl.uU g4 F
  obtain ⟨S0, hS0⟩ : ∃ S0, S0 = aY.new (YZ l) (Y0 l) 4096 := ⟨_, rfl⟩
  have hr0 : RS S0 := hS0 ▸ abx _ _ _
  refine FQ func3 ntmps3 ?_
  refine jg (jL (jG (l := [_, _]) H O O) ?_)
  rintro _ w1 ⟨b1, rfl, H1⟩
  refine gY O (bM O (dZ O func4 (Uk H1 (fun W HW => hv _ (HW.right)) hb1 hm) ?_))
  rintro _ w2 ⟨e2, y2, rfl, H2⟩
  refine cZ O (rO O O (rO O O (rO O O (lU O (lU O (tJ O (bM O (aV (oO O) (JO O (fun h1 => ?_))))))))))
  (try simp only [aH] at h1)
  refine bU (dZ O func5 (OX H2) ?_)
  rintro _ w3 ⟨rfl, H3⟩
  refine bU (aV (oO O) (lV O O (iT (I8 O (fun h2 => ?_)))))
  (try simp only [aH] at h2)
  refine iq (aO (bM O (aV (kV underlying28 O O) (JO O (fun h3 => ?_)))))
  (try simp only [aH] at h3)
  refine bU (bf 1 nX O sizeOf25 O (bU (dQ underlying25 O (H3.f2).get.2 O (bU (aV (ig O O) (lV O O (kK O (fun h4 => ?_) (fun h4 => ?_))))))))
  · (try simp only [aH] at h4)
    refine lF O (aK (fB results3 O ?_))
    exact ⟨O, H3.base⟩
  · (try simp only [aH] at h4)
    have her : Sj ≠ 0 := h4
    refine iq (aO (bM O (aV (iE (hu _ (H3.right.right)) underlying23 O) (cZ O (iT (bn ?_))))))
    refine iR [(5, _), (7, _), (37, _), (38, _)] (fun (k : Nat) => [(39, .int .i64 (k : Int))]) (fun (k : Nat) W => k ≤ cs.length ∧ V w W (eH e2 ((cs.take k).foldl aY.OY S0) • dR b1 (.cells #[Y1, .int .i64 Sj] 27 (0, 0)) • F)) (fun (k : Nat) => cs.length - k) (0) SC sJ ⟨by omega, by rw [hS0]; exact H3.f2.f2⟩ ?_
    rintro k w4 ⟨hk, HL⟩
    dsimp only [List.cons_append, List.nil_append]
    refine jg (aV (fJ O O) (qj (bI O (fun h5 => ?_) (fun h5 => ?_))))
    · (try simp only [aH] at h5)
      refine iq (aO (bn (aO ?_)))
      have hkl : k < cs.length := by omega
      obtain ⟨r1, r2, r3⟩ := g3 k hkl
      have f1 := Bl.uU r1 F
      have tk : wo (cs.getD k default).parts := t3 _ (by rw [List.getD_eq_getElem?_getD, List.getElem?_eq_getElem hkl]; exact List.getElem_mem _)
      have hrk := (RY hr0 (by rw [hS0]; rfl) (cs.take k) (fun c hc => t3 c (List.mem_of_mem_take hc))).1
      refine aC ?_
      obtain ⟨bu, ou, cu, eu⟩ := Rd.vS (hu _ (HL.right.right)) (by omega)
      cases eu
      refine aV (gU underlying23 sizeOf27 O O (by omega)) (aV (jC (ys := [_, _]) (hu _ (HL.right.right)) (by omega) nX O sizeOf27 O (kH vZ.tY (by omega) default) O) (jL (fE (l := [_, _]) HL zeroValue27 O) ?_))
      rintro _ w5 ⟨b5, rfl, H5⟩
      refine aI (dh 0 (l' := [_, _]) (us := [_, _]) H5 sizeOf27 O O O (aZ (by first | rfl | exact Rd.one (f1 _ (H5.right.right.right))) (aF bK)) O O) ?_
      rintro _ w6 H6
      obtain ⟨c, hc⟩ : ∃ c, cs.getD k default = c := ⟨_, rfl⟩
      have HX := H6
      rw [hc] at r1 r2 r3 f1 tk HX
      try rw [hc]
      obtain ⟨pv, ps, er⟩ := c
      dsimp only at r1 r2 r3 f1 tk
      refine sU O (dZ O func6 (zB HX.f2) ?_)
      rintro _ w7 ⟨rfl, H7⟩
      refine qj (jg (bf 0 nX O sizeOf24 O (dQ underlying24 O (H7.f2).get.2 O (aV (iE (f1 _ (H7.right.right.right)) underlying24 O) (cZ O (iT (bn ?_)))))))
      refine iR [(5, _), (7, _), (11, _), (37, _), (38, _), (39, _), (46, _), (47, _)] (fun (j : Nat) => [(48, .int .i64 (j : Int))]) (fun (j : Nat) W => j ≤ ps.length ∧ V w W (eH e2 ((ps.take j).foldl aY.RV ((cs.take k).foldl aY.OY S0).bZ) • dR b1 (.cells #[Y1, .int .i64 Sj] 27 (0, 0)) • dR b5 (.cells #[pv, .int .i64 er] 27 (0, 0)) • F)) (fun (j : Nat) => ps.length - j) (0) (Sub.cons O (Sub.cons O sb6)) sJ ⟨by omega, H7.f2.f3.f3⟩ ?_
      rintro j w8 ⟨hj, HJ⟩
      dsimp only [List.cons_append, List.nil_append]
      refine jg (aV (fJ O O) (qj (bI O (fun h6 => ?_) (fun h6 => ?_))))
      · (try simp only [aH] at h6)
        refine iq (aO (bn (aO ?_)))
        have hjl : j < ps.length := by omega
        obtain ⟨q1, q2⟩ := r2 j hjl
        have f2 := kP.uU q1 F
        have hRj : eP ((ps.take j).foldl aY.RV ((cs.take k).foldl aY.OY S0).bZ).c.L := (MC (Eo hrk) (ps.take j) (fun p hp => tk p (List.mem_of_mem_take hp))).1.c.L
        refine aC ?_
        obtain ⟨bpv, opv, cpv, epv⟩ := Rd.vS (f1 _ (HJ.right.right.right)) (by omega)
        cases epv
        refine aV (gU underlying24 sizeOf36 O O (by omega)) (aV (jC (ys := [_, _, _, _, _]) (f1 _ (HJ.right.right.right)) (by omega) dJ O sizeOf36 O (kH og.tY (by omega) default) O) (jL (fE (l := [_, _, _, _, _]) HJ zeroValue36 O) ?_))
        rintro _ w9 ⟨b9, rfl, H9⟩
        refine aI (dh 0 (l' := [_, _, _, _, _]) (us := [_, _, _, _, _]) H9 sizeOf36 O O O (aF (aF (aF (aF (aZ (by first | rfl | exact Rd.one (f2 _ (H9.right.right.right.right))) bK))))) O O) ?_
        rintro _ w10 sV
        refine iT (aC (cZ O (aV (dG dJ O sizeOf36 O O (sV).get.2) (dZ O func7 (Em (p := (ps.getD j default).m) sV.right.f3.f3.f3 (fun W HW => f2 W HW.right.right) q2 hU hRj) ?_))))
        rintro _ I9 yt
        refine bY (aN (bg (aC (aV (gX O O (by omega)) (cZ O (bY ?_))))))
        refine fG (j + 1) ?_ ?_ ?_ ?_
        · exact sJ
        · exact (Sub.cons O (Sub.cons O sb6))
        · (try dsimp only)
          first | done | exact ⟨by omega, by rw [rU _ _ _ default hjl]; exact yt.f3.f3.f3⟩
        · (try dsimp only); omega
      · (try simp only [aH] at h6)
        refine iJ (aX (aX (dA (bg ?_))))
        obtain rfl : j = ps.length := by omega
        have HY := HJ
        rw [List.take_length] at HY
        refine aC (cZ O (bf 1 nX O sizeOf25 O (dQ underlying25 O (HY.f3).get.2 O (dZ O func8 (Dt HY) ?_))))
        rintro _ w12 ⟨rfl, wz⟩
        refine bY (aN (bg (aC (aV (gX O O (by omega)) (cZ O (bY ?_))))))
        refine fG (k + 1) ?_ ?_ ?_ ?_
        · exact sJ
        · exact SC
        · (try dsimp only)
          first | done | exact ⟨by omega, by rw [rU _ _ _ default hkl, hc]; exact wz.f3.right.f2.f2⟩
        · (try dsimp only); omega
    · (try simp only [aH] at h5)
      refine iJ (aX (aX (dA (bg (aO ?_)))))
      obtain rfl : k = cs.length := by omega
      have HY := HL
      rw [List.take_length] at HY
      obtain ⟨hrF, hiF⟩ := RY hr0 (by rw [hS0]; rfl) cs t3
      obtain ⟨sF, hsF⟩ : ∃ s, s = cs.foldl aY.OY S0 := ⟨_, rfl⟩
      rw [← hsF] at HY hrF hiF
      refine aC (cZ O (dZ O func9 (zH HY) ?_))
      rintro _ O8 ⟨u13, abB, acX, abC, rfl, yY⟩
      obtain ⟨bus, rfl⟩ : ∃ q, q = acX := ⟨_, rfl⟩
      refine jL (fE (l := [_, _, _, _, _, _, _, _, _, _, _, _, _, _, _, _, _]) yY iG O) ?_
      rintro _ MK ⟨b14, rfl, yu⟩
      refine aI (dh 0 (l' := [_, _, _, _, _, _, _, _, _, _, _, _, _, _, _, _, _]) (us := [_, _, _, _, _, _, _, _, _, _, _, _, _, _, _, _, _]) yu kZ O O O (aZ (by first | rfl | exact Rd.one ((yu.f2).aP)) (aF (aF (aF (aF (aF (aF (aF (aF (aF (aF (aZ (by first | rfl | exact Rd.one ((yu.f3).aP)) (aF (aZ (by first | rfl | exact Rd.one ((yu.f5).aP)) (aF (aF (aF bK))))))))))))))))) O O) ?_
      rintro _ SX BA
      refine sU O (dZ O func6 (zB BA.f6) ?_)
      rintro _ w16 ⟨rfl, uO⟩
      refine qj (jg (bf 0 nX O sizeOf24 O (dQ underlying24 O (uO.f7).get.2 O (aV (iE (hp0 _ (uO.right.right.right.right.right.right.right)) underlying24 O) (cZ O (iT (bn ?_)))))))
      refine iR [(5, _), (7, _), (14, _), (66, _), (67, _)] (fun (j2 : Nat) => [(68, .int .i64 (j2 : Int))]) (fun (j2 : Nat) W => j2 ≤ ps0.length ∧ V w W (eH e2 ((ps0.take j2).foldl aY.vN sF.bZ) • dR b1 (.cells #[Y1, .int .i64 Sj] 27 (0, 0)) • dR b14 (.cells (LZ sF u13 abB abC).toArray 44 (0, 0)) • jR 21 .i32 u13 sF.c.L • Row 34 1 abB sF.c.E.length bus • Ae 21 .i32 bus (ug sF.c.E sF.c.at_) • Row 88 2 abC sF.saved.length (sF.saved.flatMap qO) • F)) (fun (j2 : Nat) => ps0.length - j2) (0) sb5 sJ ⟨by omega, uO.f6.f6.f6.f6.f6.f7.f7⟩ ?_
      rintro j2 Xc ⟨hj2, HJ2⟩
      dsimp only [List.cons_append, List.nil_append]
      refine jg (aV (fJ O O) (qj (bI O (fun h7 => ?_) (fun h7 => ?_))))
      · (try simp only [aH] at h7)
        refine iq (aO (bn (aO ?_)))
        have aao : j2 < ps0.length := by omega
        obtain ⟨q3, q4⟩ := g5 j2 aao
        have f3 := kP.uU q3 F
        have acY : eP ((ps0.take j2).foldl aY.vN sF.bZ).c.L := (RX (Eo hrF) (ps0.take j2) (fun p hp => t4 p (List.mem_of_mem_take hp))).1.c.L
        refine aC ?_
        obtain ⟨adP, adQ, adR, acZ⟩ := Rd.vS (hp0 _ (HJ2.right.right.right.right.right.right.right)) (by omega)
        cases acZ
        refine aV (gU underlying24 sizeOf36 O O (by omega)) (aV (jC (ys := [_, _, _, _, _]) (hp0 _ (HJ2.right.right.right.right.right.right.right)) (by omega) dJ O sizeOf36 O (kH og.tY (by omega) default) O) (jL (fE (l := [_, _, _, _, _]) HJ2 zeroValue36 O) ?_))
        rintro _ Xd ⟨b18, rfl, Es⟩
        refine aI (dh 0 (l' := [_, _, _, _, _]) (us := [_, _, _, _, _]) Es sizeOf36 O O O (aF (aF (aF (aF (aZ (by first | rfl | exact Rd.one (f3 _ (Es.right.right.right.right.right.right.right.right))) bK))))) O O) ?_
        rintro _ Xf zO
        refine Xy (bf 0 dJ O aj O (dQ ay O (zO).get.2 O (aV (fJ O O) (kK O (fun h8 => ?_) (fun h8 => ?_)))))
        · (try simp only [aH] at h8)
          have WX : (ps0.getD j2 default).kd < 20 := h8
          refine aC (cZ O (aV (dG dJ O sizeOf36 O O (zO).get.2) (dZ O func7 (Em (p := (ps0.getD j2 default).m) zO.right.f7.f7.f7.f7.f7.f7.f7 (fun W HW => f3 W HW.right.right.right.right.right.right) q4 hU acY) ?_)))
          rintro _ XJ BD
          refine bY (aN (bg (aC (aV (gX O O (by omega)) (cZ O (bY ?_))))))
          refine fG (j2 + 1) ?_ ?_ ?_ ?_
          · exact sJ
          · exact sb5
          · (try dsimp only)
            first | done | exact ⟨by omega, by
                    rw [rU _ _ _ default aao]
                    first
                      | (rw [show aY.vN _ (ps0.getD j2 default) = aY.FM _ (ps0.getD j2 default).m from if_pos (show (ps0.getD j2 default).kd < 20 from WX)]; exact BD.f7.f7.f7.f7.f7.f7.f7)
                      | (rw [show aY.vN _ (ps0.getD j2 default) = _ from if_neg (show ¬ (ps0.getD j2 default).kd < 20 from WX)]; exact BD.f7.f7.f7.f7.f7.f7.f7)⟩
          · (try dsimp only); omega
        · (try simp only [aH] at h8)
          have WX : ¬ (ps0.getD j2 default).kd < 20 := by have h9 := h8; omega
          refine fU (aN (bg (aC (aV (gX O O (by omega)) (cZ O (bY ?_))))))
          refine fG (j2 + 1) ?_ ?_ ?_ ?_
          · exact sJ
          · exact sb5
          · (try dsimp only)
            first | done | exact ⟨by omega, by
                    rw [rU _ _ _ default aao]
                    first
                      | (rw [show aY.vN _ (ps0.getD j2 default) = aY.FM _ (ps0.getD j2 default).m from if_pos (show (ps0.getD j2 default).kd < 20 from WX)]; exact zO.right.f7.f7.f7.f7.f7.f7.f7)
                      | (rw [show aY.vN _ (ps0.getD j2 default) = _ from if_neg (show ¬ (ps0.getD j2 default).kd < 20 from WX)]; exact zO.right.f7.f7.f7.f7.f7.f7.f7)⟩
          · (try dsimp only); omega
      · (try simp only [aH] at h7)
        refine iJ (aX (aX (dA (bg (aO (aO ?_))))))
        obtain rfl : j2 = ps0.length := by omega
        have HY := HJ2
        rw [List.take_length] at HY
        obtain ⟨z1, z2, z3, z4, z5, z6, z7, z8, z9⟩ := refused hiF hrF t4 her
        have WY := HY.drew
        have BO := V.kp (WY.right.f6.f6.f6.f6.f6.f6)
        refine xP [2, 5] BO O (jc 0 O BO O (fV 1 O BO 1 nX O sizeOf25 O (jq 2 O BO (fun W hW => jV underlying25 O ((Kp.h hW)).get.2 O) (fV 4 O BO 1 nX O sizeOf25 O (jq 5 O BO (fun W hW => jV underlying25 O ((Kp.h hW)).get.2 O) (mP 3 O (wu O func8 (Dt WY)) ?_))))))
        rintro _ XK ⟨rfl, sW⟩
        have RD := V.kp (sW.f7.f7.f7.f7.f7.f7.f7)
        refine dK RD (fun W hW => (Kp.h hW).right.f6.f6.f6.f6.f6.f6) ?_
        refine jW 6 O RD (fun _ => dO O O) (qp (bg (bI O (fun h => by exfalso; (try simp only [aH] at h); exact h z1) (fun h9 => ?_))))
        (try simp only [aH] at h9)
        refine iq (bM O (dZ O func9 (zH sW) ?_))
        rintro _ w22 ⟨u22, adS, ac0, adT, rfl, Gi⟩
        obtain ⟨adU, rfl⟩ : ∃ q, q = ac0 := ⟨_, rfl⟩
        refine jL (fE (l := [_, _, _, _, _, _, _, _, _, _, _, _, _, _, _, _, _]) Gi iG O) ?_
        rintro _ UZ ⟨b23, rfl, xu⟩
        refine aI (dh 0 (l' := [_, _, _, _, _, _, _, _, _, _, _, _, _, _, _, _, _]) (us := [_, _, _, _, _, _, _, _, _, _, _, _, _, _, _, _, _]) xu kZ O O O (aZ (by first | rfl | exact Rd.one ((xu.f2).aP)) (aF (aF (aF (aF (aF (aF (aF (aF (aF (aF (aZ (by first | rfl | exact Rd.one ((xu.f3).aP)) (aF (aZ (by first | rfl | exact Rd.one ((xu.f5).aP)) (aF (aF (aF bK))))))))))))))))) O O) ?_
        rintro _ w24 JW
        refine qj (jg (bf 16 aT O jS O (dQ jJ O (JW).get.2 O (bf 16 aT O jS O (dQ jJ O (JW.f8).get.2 O (aV (Y8 O O) (aV (dO O O) (qC O (fun h => by exfalso; (try simp only [aH] at h); exact h z6) (fun h10 => ?_)))))))))
        (try simp only [aH] at h10)
        refine bU (bf 5 aT O aQ O (bU (dQ bW O (JW).get.2 O (lV O O (qC O (fun h => by exfalso; (try simp only [aH] at h); rw [z7] at h; simp at h) (fun h11 => ?_))))))
        (try simp only [aH] at h11)
        refine bU (bf 8 aT O aj O (bU (dQ ay O (JW).get.2 O (bU (aV (dO O O) (lV O O (kK O (fun h => by exfalso; (try simp only [aH] at h); exact h z8) (fun h12 => ?_))))))))
        (try simp only [aH] at h12)
        refine iq (aO ?_)
        have WZ := JW.drew
        have oz := V.kp (WZ.right.f11.f11.f11.f11.f11.f11.f11.f11.f11.f11.f11)
        refine xP [1, 3, 5, 7, 9, 11, 13] oz O (fV 0 O oz 16 aT O jS O (jq 1 O oz (fun W hW => jV jJ O ((Kp.h hW).f7).get.2 O) (fV 2 O oz 5 aT O aQ O (jq 3 O oz (fun W hW => jV bW O ((Kp.h hW).f7).get.2 O) (fV 4 O oz 6 aT O aQ O (jq 5 O oz (fun W hW => jV bW O ((Kp.h hW).f7).get.2 O) (fV 6 O oz 7 aT O aj O (jq 7 O oz (fun W hW => jV ay O ((Kp.h hW).f7).get.2 O) (fV 8 O oz 8 aT O aj O (jq 9 O oz (fun W hW => jV ay O ((Kp.h hW).f7).get.2 O) (fV 10 O oz 9 aT O aj O (jq 11 O oz (fun W hW => jV ay O ((Kp.h hW).f7).get.2 O) (fV 12 O oz 10 aT O aj O (jq 13 O oz (fun W hW => jV ay O ((Kp.h hW).f7).get.2 O) (fV 14 O oz 16 aT O jS O ?_)))))))))))))))
        refine eF 15 O (by kernel_rfl) (Jd 16 WZ jS) ?_
        rintro _ w25 JX
        have J8 := V.kp (JX.right.f11.f11.f11.f11.f11.f11.f11.f11.f11.f11.f11)
        refine dK J8 (fun W hW => (Kp.h hW).f11.f11.f11.f11.f11.f11.f11.f11.f11.f11.f11) ?_
        refine fV 16 O J8 5 aT O aQ O ?_
        refine eF 17 O (by kernel_rfl) (Jd 5 JX aQ) ?_
        rintro _ w26 Nk
        have RF := V.kp (Nk.right.f11.f11.f11.f11.f11.f11.f11.f11.f11.f11.f11)
        refine dK RF (fun W hW => (Kp.h hW).f11.f11.f11.f11.f11.f11.f11.f11.f11.f11.f11) ?_
        refine fV 18 O RF 6 aT O aQ O ?_
        refine eF 19 O (by kernel_rfl) (Jd 6 Nk aQ) ?_
        rintro _ w27 Jh
        have RH := V.kp (Jh.right.f11.f11.f11.f11.f11.f11.f11.f11.f11.f11.f11)
        refine dK RH (fun W hW => (Kp.h hW).f11.f11.f11.f11.f11.f11.f11.f11.f11.f11.f11) ?_
        refine fV 20 O RH 7 aT O aj O ?_
        refine eF 21 O (by kernel_rfl) (Jd 7 Jh aj) ?_
        rintro _ w28 U0
        have OC := V.kp (U0.right.f11.f11.f11.f11.f11.f11.f11.f11.f11.f11.f11)
        refine dK OC (fun W hW => (Kp.h hW).f11.f11.f11.f11.f11.f11.f11.f11.f11.f11.f11) ?_
        refine fV 22 O OC 8 aT O aj O ?_
        refine eF 23 O (by kernel_rfl) (Jd 8 U0 aj) ?_
        rintro _ w29 U1
        have RI := V.kp (U1.right.f11.f11.f11.f11.f11.f11.f11.f11.f11.f11.f11)
        refine dK RI (fun W hW => (Kp.h hW).f11.f11.f11.f11.f11.f11.f11.f11.f11.f11.f11) ?_
        refine fV 24 O RI 9 aT O aj O ?_
        refine eF 25 O (by kernel_rfl) (Jd 9 U1 aj) ?_
        rintro _ w30 PK
        have RJ := V.kp (PK.f12.f12.f12.f12.f12.f12.f12.f12.f12.f12.f12.f12)
        refine dK RJ (fun W hW => (Kp.h hW).right.f11.f11.f11.f11.f11.f11.f11.f11.f11.f11.f11) ?_
        refine fV 26 O RJ 10 aT O aj O ?_
        refine eF 27 O (by kernel_rfl) (Jd 10 PK aj) ?_
        rintro _ w31 KZ
        have Ob := V.kp (KZ.f12.f12.f12.f12.f12.f12.f12.f12.f12.f12.f12.f12)
        refine iC Ob (by kernel_rfl) ?_
        refine qp (bg (aO ?_))
        have HX := KZ.f6.right.f6.right.f5.f5.f5.f5.f10.f10.f10.f10.f9.f10
        rw [z2, z3, z4, z5, show (((ps0.foldl aY.vN sF.bZ).jP Sj).c.pt) = sF.c.pt from (congrArg Xh.pt z9).symm, show (((ps0.foldl aY.vN sF.bZ).jP Sj).c.mark) = sF.c.mark from (congrArg Xh.mrk z9).symm, show (((ps0.foldl aY.vN sF.bZ).jP Sj).c.mode) = sF.c.mode from (congrArg Xh.mode z9).symm,
          show (((ps0.foldl aY.vN sF.bZ).jP Sj).c.over) = sF.c.over from (congrArg Xh.over z9).symm, show (((ps0.foldl aY.vN sF.bZ).jP Sj).c.place) = sF.c.place from (congrArg Xh.place z9).symm, show (((ps0.foldl aY.vN sF.bZ).jP Sj).yg) = sF.yg from (congrArg Xh.YW z9).symm, show (((ps0.foldl aY.vN sF.bZ).jP Sj).c.res) = sF.c.res from (congrArg Xh.res z9).symm] at HX
        have hlen : sF.c.E.length = (ug sF.c.E sF.c.at_).length := by have h1 := HX.f4.y7; have h2 := HX.f5.Oy; omega
        refine aC (aV (dG aT O kZ O O (HX).get.2) (aV (dG aT O kZ O O (HX.f2).get.2) (dZ O func10 (IX (x := Yl sF) (l := sF.c.L) (ls := ug sF.c.E sF.c.at_) (S := sF.saved) HX (fun W HW => HW.f3.aP) (fun W HW => HW.f7.aP) (fun W HW => hlen ▸ HW.f4.aP) (fun W HW => hlen ▸ HW.f8.aP) (fun k hk W HW => HW.f5.Rz hk) (fun k hk W HW => HW.f9.Rz hk) (fun W HW => HW.f6.aP) (fun W HW => HW.f10.aP)) ?_)))
        rintro _ Zg ⟨rfl, Ja⟩
        refine iW O (fB results3 O ?_)
        exact ⟨O, Ja.base⟩
end Go.Proofs.YtimndnfpcomhlaaGreatDoor
end
section
set_option maxRecDepth 100000
namespace Go.Proofs.YtimndnfpcomhlaaGreatDoor
open Go.ChangeShapes Go.WideShapes Go.ChangeAt Go.RowKit
theorem aap {H : Type} {enc : TypeId × Value → H} {W : World} {B : Nat} {cs : List Value} (h : yX B enc Tryz.prog W 152 cs) : ∃ x0 x1, cs = [.string x0, .int .i64 x1] ∧ x0.size ≤ B ∧ (Lit.int .i64 x1).wf = true := by
  obtain ⟨hl, hf⟩ := h.struct Tryz.underlying152
  rw [show Tryz.prog.cellsOf 152 = 2 from by kernel_rfl] at hl
  match cs, hl with
  | [c0, c1], _ =>
    have h0 : yX B enc Tryz.prog W 9 (([c0, c1].drop 0).take (Tryz.prog.cellsOf 9)) := hf 0 _ rfl
    rw [show Tryz.prog.cellsOf 9 = 1 from by kernel_rfl] at h0
    obtain ⟨x0, e0, w0⟩ := h0.string Tryz.underlying9
    have h1 : yX B enc Tryz.prog W 2 (([c0, c1].drop 1).take (Tryz.prog.cellsOf 2)) := hf 1 _ rfl
    rw [show Tryz.prog.cellsOf 2 = 1 from by kernel_rfl] at h1
    obtain ⟨x1, e1, w1⟩ := h1.int Tryz.underlying2
    simp only [List.drop, List.take, List.cons.injEq, and_true] at e0 e1
    exact ⟨x0, x1, by simp_all, w0, w1⟩
theorem Ul {H : Type} {enc : TypeId × Value → H} {W : World} {n : Nat} {xs : List Value} (hx : xs.length = n * 2) (h : ∀ k, k < n → In enc Tryz.prog W 152 ((xs.drop (k * 2)).take 2)) :
    ∃ l : List qE, l.length = n ∧ xs = l.flatMap kS := by
  obtain ⟨l, h1, h2, -⟩ := Lm (enc := kS) (p := fun _ => True) hx (fun k hk => by
    obtain ⟨x0, x1, e, -⟩ := aap (h k hk)
    exact ⟨(x0, x1), e, trivial⟩)
  exact ⟨l, h1, h2⟩
theorem Zg {l : List Int} (h : ∀ n ∈ l, (Lit.int .i32 n).wf = true) : eP l := fun n hn => by
  have h := h n hn
  simp [Lit.wf, IntKind.min, IntKind.max, IntKind.signed, IntKind.bits] at h
  omega
theorem KL {H : Type} {enc : TypeId × Value → H} {W : World} {n : Nat} {xs : List Value} (hx : xs.length = n * 5) (h : ∀ k, k < n → In enc Tryz.prog W 36 ((xs.drop (k * 5)).take 5)) :
    ∃ l : List og, l.length = n ∧ xs = l.flatMap og.enc ∧ (∀ k, k < n → (l.getD k default).Reads W) ∧ wo l := by
  obtain ⟨l, h1, h2, h3⟩ := Lm (enc := og.enc) (p := fun o => o.Reads W ∧ eP o.text) hx (fun k hk => by
    obtain ⟨x0, x1, x2, x3, v4, x4, e, -, -, -, ⟨gt, bt, wt⟩⟩ := XH (h k hk)
    unfold reachBytes at bt
    exact ⟨⟨x0, x1, x2, x3, v4, x4⟩, e, ⟨gt, by dsimp only; omega⟩, Zg wt⟩)
  refine ⟨l, h1, h2, fun k hk => (h3 k hk).1, fun p hp => ?_⟩
  obtain ⟨k, hk, rfl⟩ := List.getElem_of_mem hp
  have := (h3 k (by omega)).2
  rwa [List.getD_eq_getElem?_getD, List.getElem?_eq_getElem hk] at this
theorem W9 {H : Type} {enc : TypeId × Value → H} {W : World} {n : Nat} {xs : List Value} (hx : xs.length = n * 2) (h : ∀ k, k < n → In enc Tryz.prog W 27 ((xs.drop (k * 2)).take 2)) :
    ∃ l : List vZ, l.length = n ∧ xs = l.flatMap vZ.enc ∧ (∀ k, k < n → (l.getD k default).QG W) ∧ ∀ c ∈ l, wo c.parts := by
  obtain ⟨l, h1, h2, h3⟩ := Lm (enc := vZ.enc) (p := fun o => o.QG W ∧ wo o.parts) hx (fun k hk => by
    obtain ⟨v0, n0, x0, x1, e, ⟨g0, b0, s0⟩, -⟩ := UU (h k hk)
    obtain ⟨ps, k1, k2, k3, k4⟩ := KL g0.len s0
    rw [show Tryz.prog.bytesOf 36 = 56 from by kernel_rfl] at b0
    unfold reachBytes at b0
    subst k1 k2
    exact ⟨⟨v0, ps, x1⟩, e, ⟨g0, k3, by dsimp only; omega⟩, k4⟩)
  refine ⟨l, h1, h2, fun k hk => (h3 k hk).1, fun p hp => ?_⟩
  obtain ⟨k, hk, rfl⟩ := List.getElem_of_mem hp
  have := (h3 k (by omega)).2
  rwa [List.getD_eq_getElem?_getD, List.getElem?_eq_getElem hk] at this
set_option maxRecDepth 100000 in
theorem Bh (os : Os) (started : os.Started) (H : Type) (enc : TypeId × Value → H) :
    ReturnsInHanded {} Tryz.checked os 3 .any (fun w args => (Rows.editorRefusedSpec.pre enc Tryz.prog Tryz.f3 Rows.editorRefusedRow.domain false w args ∧ laidMetH Tryz.prog GL w) ∧ sizedMet enc Tryz.prog Tryz.f3 (OpenSpec.ofChange Rows.editorRefusedSpec) false w args) (Rows.editorRefusedSpec.post enc Tryz.prog Tryz.f3 false true false false) := by
  refine Je (C := Tryz.checked) (tb := 4) _ own laid started (by kernel_rfl) Tryz.func3 (congrArg Array.toList Tryz.params3) rfl Tryz.underlying4 rfl (by kernel_rfl) (fun ds hd => ?_)
    (ChangeSpec.witness_shaped (enc := enc) (C := Tryz.checked) (os := os) (X := fun w _ => laidMetH Tryz.prog GL w) false (World.laidAll Tryz.prog os GL) #[.slice none 0 0, .slice none 0 0, .agg #[.slice none 0 0, .int .i64 0]] 8 (World.laidAll_os _ _ _) (World.shaped_of_ZipB (by kernel_rfl) (by kernel_rfl)) (by kernel_rfl) (by kernel_rfl) (by kernel_rfl) (UE os _)) ?_
  · obtain ⟨a0, a1, a2, rfl⟩ := SG hd
    rfl
  intro W args hL hin
  have hT := XC hL
  obtain ⟨v1, v2, v3, rfl, ⟨⟨_, o1⟩, i1⟩, ⟨⟨_, o2⟩, i2⟩, ⟨⟨_, o3⟩, i3⟩⟩ := hin.three
  obtain ⟨a1, n1, c1, rfl⟩ := okWide_slice Tryz.underlying22 o1
  obtain ⟨a2, n2, c2, rfl⟩ := okWide_slice Tryz.underlying23 o2
  obtain ⟨cs3, rfl, -⟩ := okWide_struct Tryz.underlying27 o3
  obtain ⟨u1, n, xs, e1, p1, p2, p3⟩ := i1.slice Tryz.underlying22 (by rw [show Tryz.prog.cellsOf 152 = 2 from by kernel_rfl]; decide)
  rw [show Tryz.prog.cellsOf 152 = 2 from by kernel_rfl] at p1 p3
  rw [show Tryz.prog.bytesOf 152 = 24 from by kernel_rfl] at p2
  obtain rfl := List.singleton_inj.1 e1
  obtain ⟨l, l1, l2⟩ := Ul p1.len p3
  subst l1 l2
  obtain ⟨u, n', xs', e2, h1, h2, h3⟩ := i2.slice Tryz.underlying23 (by rw [show Tryz.prog.cellsOf 27 = 2 from by kernel_rfl]; decide)
  rw [show Tryz.prog.cellsOf 27 = 2 from by kernel_rfl] at h1 h3
  rw [show Tryz.prog.bytesOf 27 = 32 from by kernel_rfl] at h2
  obtain rfl := List.singleton_inj.1 e2
  obtain ⟨cs, k1, k2, k3, k4⟩ := W9 h1.len h3
  subst k1 k2
  obtain ⟨v0, n0, x0, x1, e3, ⟨g0, b0, s0⟩, -⟩ := UU i3
  obtain ⟨ps, q1, q2, q3, q4⟩ := KL g0.len s0
  rw [show Tryz.prog.bytesOf 36 = 56 from by kernel_rfl] at b0
  subst q1 q2
  unfold reachBytes at p2 h2 b0
  obtain rfl : cs3 = #[v0, .int .i64 x1] := Array.ext' e3
  by_cases hm : uj l = 0
  · exact I5 (UR hL) p1 (by omega) hm h1 k3 k4 (by omega) g0 q3 q4 (by omega)
  · exact O6 p1 (by omega) hm
theorem Bj : Rows.EditorRefusedSaid :=
  OpenClaim.holds_of_wide 3 Tryz.f3 rfl rfl rfl rfl rfl rfl rfl ⟨rfl, rfl, rfl, rfl, rfl⟩ rfl rfl rfl rfl rfl (by kernel_rfl) Tryz.func3 (by kernel_rfl)
    (of_decide_eq_true (by kernel_rfl)) (by unfold Func.isWrapper; first | (rw [if_pos (by decide +kernel)]; kernel_rfl) | (rw [if_neg (by decide +kernel)]; exact ⟨rfl, rfl⟩))
    (fun os started H enc _ => Bh os started H enc)
theorem editorRefused_card : Rows.EditorRefusedCardSaid :=
  Claim7.holds_tied_plain_at .later [] [.data, .pinned] true (true, "d63d39ac9632b35c6586dbedab4b8a2737849513813477d4caab08bf9c1a4566") false
    Bj (fun _ h => by cases h) (by kernel_rfl) (fun _ h => by cases h) editorRefused_row_tie rfl ⟨rfl, rfl⟩ (by kernel_rfl) rfl
    (fun f fn hf hfn => by
      obtain rfl : f = 3 := Option.some.inj ((show Tryz.prog.funcNamed "lanyard/lanyardlaw17.EditorRefused" = some 3 by kernel_rfl).symm.trans hf) |>.symm
      obtain rfl : fn = Tryz.f3 := (Option.some.inj (Tryz.func3.symm.trans hfn)).symm
      exact ⟨by kernel_rfl, fun j t ht => by
        rw [Tryz.params3] at ht
        have hm : t ∈ [22, 23, 27] := by simpa using Array.mem_of_getElem? ht
        have hall : ([22, 23, 27].all fun u => !Tryz.prog.wantsStandIn u) = true := by kernel_rfl
        exact (show Tryz.prog.wantsStandIn t = false by simpa using List.all_eq_true.1 hall t hm)⟩)
    (by kernel_rfl)
end Go.Proofs.YtimndnfpcomhlaaGreatDoor
end
