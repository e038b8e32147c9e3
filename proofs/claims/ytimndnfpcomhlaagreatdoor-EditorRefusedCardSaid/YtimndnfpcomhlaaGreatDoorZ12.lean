import Derived.Test.YtimndnfpcomhlaaGreatDoorZ4
import Derived.Test.YtimndnfpcomhlaaGreatDoorZ11
set_option linter.unusedSimpArgs false
set_option linter.unusedVariables false
/- Texts of mine, joined, their names in short: EdR EdK. -/
section
namespace Go.Proofs.YtimndnfpcomhlaaGreatDoor
open Go.RowKit
open _root_.Go.Proofs.Tryz
theorem uH {L : List Int} {i j : Int} {l : List Int} (h : kC L i j l ≠ 0) : lg L i j l = [] ∧ lq L i j l = [] := by unfold lg lq; rw [if_neg h, if_neg h]; exact ⟨rfl, rfl⟩
theorem X5 {L : List Int} {i j : Int} {l : List Int} (hL : L.length ≤ 1024) (h : 0 < (lg L i j l).length + (lq L i j l).length) : zA (qK L i j l, lg L i j l, lq L i j l) := by
  by_cases h0 : kC L i j l = 0
  · refine ⟨?_, h, ?_, ?_⟩
    · show 0 ≤ qK L i j l
      unfold qK; rw [if_pos h0]
      unfold kC at h0
      split at h0
      · cases h0
      · omega
    · show (lg L i j l).length ≤ 1024
      unfold lg; rw [if_pos h0]
      simp only [List.length_take, List.length_drop]; omega
    · show (lq L i j l).length ≤ 1024
      unfold lq; rw [if_pos h0]
      unfold kC at h0
      split at h0
      · cases h0
      · split at h0
        · cases h0
        · omega
  · rw [(uH h0).1, (uH h0).2] at h
    simp at h
theorem VP {L : List Int} {i j : Int} {l : List Int} (hL : L.length ≤ 1024) : (lg L i j l).length ≤ 1024 ∧ (lq L i j l).length ≤ 1024 := by
  by_cases h0 : kC L i j l = 0
  · refine ⟨?_, ?_⟩
    · unfold lg; rw [if_pos h0]
      simp only [List.length_take, List.length_drop]; omega
    · unfold lq; rw [if_pos h0]
      unfold kC at h0
      split at h0
      · cases h0
      · split at h0
        · cases h0
        · omega
  · rw [(uH h0).1, (uH h0).2]; simp
theorem Ef {s : aY} {x : gV} (h : x.2.1.length + x.2.2.length = 0) : s.nO x = s := by unfold aY.nO; rw [if_pos h]
theorem EN {s : aY} {x : gV} (h : 0 < x.2.1.length + x.2.2.length) (k : ¬ 16384 ≤ gI s.here s.put) : s.nO x = { s with put := s.put ++ [x] } := by unfold aY.nO; rw [if_neg (by omega), if_neg k]
theorem EO {s : aY} {x : gV} (h : 0 < x.2.1.length + x.2.2.length) (k : 16384 ≤ gI s.here s.put) : s.nO x = { s.kT [] with put := [x], c := { (s.kT []).c with run := false } } := by unfold aY.nO; rw [if_neg (by omega), if_pos k]
theorem uI (G : List (List gV)) (N : List gV) : gI G N = gI G [] + N.length := by unfold gI; simp
theorem Rw {s : aY} {x : gV} (h : oV s) (hx : 0 < x.2.1.length + x.2.2.length → zA x) : oV (s.nO x) := by
  by_cases h0 : x.2.1.length + x.2.2.length = 0
  · rw [Ef h0]; exact h
  · have hx' := hx (by omega)
    obtain ⟨h1, h2, h3, h4, h5, h6⟩ := h
    by_cases hf : 16384 ≤ gI s.here s.put
    · rw [EO (by omega) hf]
      refine ⟨h1, h2, h3, fun e he => by rw [List.mem_singleton.1 he]; exact hx', ?_, ?_⟩
      · show gI (vF s.c.un s.c.place [] s.c.place) [x] ≤ 16384
        rw [gZ]; simp [gI]
      · intro k g hg
        have hg' : g ∈ vF s.c.un s.c.place [] k := hg
        by_cases hk : k = s.c.place
        · subst hk; rw [gZ] at hg'; cases hg'
        · rw [vG _ _ hk] at hg'; exact h6 k g hg'
    · rw [EN (by omega) hf]
      refine ⟨h1, h2, h3, fun e he => ?_, ?_, h6⟩
      · rcases List.mem_append.1 he with he | he
        · exact h4 e he
        · rw [List.mem_singleton.1 he]; exact hx'
      · show gI s.here (s.put ++ [x]) ≤ 16384
        rw [Ls]; omega
section
variable {w0 w : World} {F : HP} {e p h pr : Nat} {s : aY} {i j x : Int} {b : Bool} {v : Value} {l : List Int}
theorem oG (H : V w0 w (eH e s • F)) (hr : kP w0 F .i32 v l) : iU prog 21 #[.pointer (some ⟨e, 0, none⟩), .int .i64 i, .int .i64 j, v] w fun v' w' => v' = .int .i64 (s.mD i j l) ∧ V w0 w' (eH e (s.iw i j l) • F) := by
 refine SE func21 ntmps21 ?_
 refine lZ O (aO (bM O (dZ O func32 (jm H) ?_)))
 rintro _ _ ⟨rfl, rfl⟩
 refine gY O (bM O (aV (dO O O) (kK O (fun h1 => ?_) (fun h1 => ?_))))
 ·(try simp only [aH] at h1)
  obtain ⟨hin, hpe⟩ := rQ h1
  refine bM O (iW O (aK (fB results21 O ?_)))
  rw [hpe]
  exact ⟨by simp [aY.mD, aY.iw, hin], by rw [show s.iw i j l = s from by simp [aY.mD, aY.iw, hin]]; exact H⟩
 ·(try simp only [aH] at h1)
  have hin := oW h1
  refine iq (aO ?_)
  obtain ⟨qV, rC, rD, rZ, rE, rF, rG, rH, qA, oZ, o7, o8, o9, pq, pz, pF, pG, pI, pJ, pK, dV, bP, jh, dY⟩ := (H).Dy
  have hL : s.c.L.length ≤ 1024 := by obtain ⟨a, c, xs, f, t, h1, h2, h3, h4, h5, h6, h7, hc1, hc2, hl, H1⟩ := (dY.f2).buf; exact h4
  have hE : s.mD i j l = kC s.c.L i j l := by unfold aY.mD; rw [if_pos hin]
  have hS : s.iw i j l = (s.lJ (kL s.c.L i j l) (qJ s.c.L s.c.pt i j l) (qZ s.c.L s.c.mark i j l)).nO (qK s.c.L i j l, lg s.c.L i j l, lq s.c.L i j l) := by unfold aY.iw; rw [if_pos hin]
  have hln := VP (i := i) (j := j) (l := l) hL
  have hput : gI s.here s.put ≤ 16384 := dV.2.2.2.2.1
  have hsp : gI s.here s.put = gI (s.c.un s.c.place) [] + s.put.length := uI _ _
  have hok := X5 (i := i) (j := j) (l := l) hL
  have hno := uH (L := s.c.L) (i := i) (j := j) (l := l)
  refine aC (ny O O (bf 0 ah O aJ O (bf 0 aA O iD O (dQ dU O (dY).get.2 O (mQ O O (cZ O (dZ O func54 (zQ dY.f2 (fun W HW => hr _ (HW.right.right.right.right.right.right.right.right.right.right))) ?_)))))))
  rintro _ w3 ⟨d3, s3, rfl, H3⟩
  refine cZ O (rO O O (rO O O (jL (fE (l := [_, _, _]) H3 dB O) ?_)))
  rintro _ w4 ⟨b4, rfl, H4⟩
  refine aI (dh 0 (l' := [_, _, _]) (us := [_, _, _]) H4 bG O O O (aF (aZ (by first | rfl | exact Rd.one ((H4.f2).aP)) (aZ (by first | rfl | exact Rd.one ((H4.f3).aP)) bK))) O O) ?_
  rintro _ w5 H5
  refine tJ O (bM O (aV (ig O O) (qC O (fun h2 => ?_) (fun h2 => ?_))))
  ·(try simp only [aH] at h2)
   refine bU (bf 1 aS O dD O (bU (dQ aG O (H5).get.2 O (bU (aV (rX ((H5.f2).aP) aG O) (bU (bf 2 aS O dD O (bU (dQ aG O (H5).get.2 O (bU (aV (rX ((H5.f3).aP) aG O) (bU (aV (gX O O (by omega)) (bU (aV (fZ O O) (pW O O (kK O (fun h3 => ?_) (fun h3 => ?_))))))))))))))))))
   ·(try simp only [aH] at h3)
    have hlen : 0 < (lg s.c.L i j l).length + (lq s.c.L i j l).length := by omega
    refine aO (aO ?_)
    have ZP := H5.drew
    have IB := V.kp (ZP.f9.right.f13.f13.f13.f13.f13.f13.f13.f13.f13.f13.f13.f13.f13)
    refine xP [6] IB O (jc 0 O IB O (jc 3 O IB O (kN 4 O IB O (fV 5 O IB 33 ah O bV O (jq 6 O IB (fun W hW => jV aU O ((Kp.h hW).f5).get.2 O) (jW 7 O IB (fun _ => iE ((ZP.f12).aP) aU O) (mP 1 O (wu O func55 (xH ZP.f9.f8.f7)) ?_)))))))
    rintro _ w6 ⟨lp6, rfl, H6⟩
    have yF := V.kp (H6.right.f14.f14.f14.f14.f14.f14.f14.f14.f14.f14.f14.f14.f14.f14)
    refine dK yF (fun W hW => (Kp.h hW).right.f13.f13.f13.f13.f13.f13.f8.f13.f9.f13.f13.f13.f13) ?_
    refine mP 2 O (wu O func56 (Hl H6)) ?_
    rintro _ w7 ⟨rfl, H7⟩
    have yM := V.kp (H7.f15.f15.f15.f15.f15.f15.f15.f15.f15.f15.f15.f15.f15.f15.f15)
    refine dK yM (fun W hW => (Kp.h hW).right.f14.f14.f14.f14.f14.f14.f14.f14.f14.f14.f14.f14.f14.f14) ?_
    refine jW 8 O yM (fun _ => gX O O (by omega)) (jW 9 O yM (fun _ => Gv O O) ?_)
    have ZQ := H7.f2
    have Xg := V.LV ZQ
    refine qp (bg (bI O (fun h4 => ?_) (fun h4 => ?_)))
    ·(try simp only [aH] at h4)
     have Oi : 16384 ≤ gI (s.lJ (kL s.c.L i j l) (qJ s.c.L s.c.pt i j l) (qZ s.c.L s.c.mark i j l)).here (s.lJ (kL s.c.L i j l) (qJ s.c.L s.c.pt i j l) (qZ s.c.L s.c.mark i j l)).put := by show 16384 ≤ gI s.here s.put; omega
     refine bM O (dZ O func55 (xH Xg.f3.f3) ?_)
     rintro _ w10 ⟨adv, rfl, sV⟩
     refine dZ O func57 (Ib sV) ?_
     rintro _ I9 yt
     have Qi := yt.f2
     have Qj := V.wO Qi
     refine iT (aC (mQ O O (dM O (bf 33 ah O bV O (aI (dN 33 Qj.f2 bV) ?_)))))
     rintro _ MK yu
     refine dM O (bf 0 ah O aJ O (bf 10 aA O aQ O (aI (dN 10 yu aQ) ?_)))
     rintro _ SX BA
     refine iT ?_
     have YN := BA.drew
     have Dn := V.kp (YN.f14.f14.f14.f14.f14.f14.f14.f14.f14.f14.f14.f14.f14.f14)
     refine xP [4, 5] Dn O (jc 0 O Dn O (jc 1 O Dn O (kN 2 O Dn O (fV 3 O Dn 33 ah O bV O (jq 4 O Dn (fun W hW => jV aU O ((Kp.h hW)).get.2 O) (jq 5 O Dn (fun W hW => dG aS O bG O O ((Kp.h hW).f4).get.2) (mP 6 O (sH YN aU bG dB O O O (by decide) (by decide)) ?_)))))))
     rintro l16 w16 uO
     have D7 := V.kp (uO.f15.f15.f15.f15.f15.f15.f15.f15.f15.f15.f15.f15.f15.f15.f15)
     refine dK D7 (fun W hW => (Kp.h hW).right.f14.f14.f14.f14.f14.f14.f14.f14.f14.f14.f14.f14.f14.f14) ?_
     refine mP 7 O (iQ (uO.jH none) aU AB O O O ((uO).aP) (aF (aZ (by first | rfl | exact Rd.one ((uO.f6).aP)) (aZ (by first | rfl | exact Rd.one ((uO.f7).aP)) bK))) (by omega) (by omega)) ?_
     rintro l17 Xc Dx
     have VQ := Dx.f2.right
     have Hw := V.kp (VQ.f15.f15.f15.f15.f15.f15.f15.f15.f15.f15.f15.f15.f15.f15.f15)
     refine iC Hw (by kernel_rfl) ?_
     refine kN 8 O Hw O (fV 9 O Hw 33 ah O bV O ?_)
     refine eF 10 O (by kernel_rfl) (fM 33 (l' := [_, _, _, _, _, _, _, _, _, _, _, _, _, _, _, _, _, _, _, _, _, _, _, _, _, _, _, _, _, _, _, _, _, _]) VQ.f2 bV O O (by first | rfl | exact Rd.one ((VQ).aP)) O O) ?_
     rintro _ Xf zO
     have NW := V.kp (zO.f15.f15.f15.f15.f15.f15.f15.f15.f15.f15.f15.f15.f15.f15.f15)
     refine iC NW (by kernel_rfl) ?_
     refine qp (bg (bM O (iW O (fB results21 O ?_))))
     have X := (zO.f5.right.f12.right.f12.right.f12.f12.f12.f6.f12.f8.f12.f12.f9.f10.f12.f12).oJ.swap.oJ.swap
     have X2 := V.yN (es := []) X.Hg.f3.f3.f4
     exact ⟨by rw [hE]; rfl, by rw [hS, EO (x := (qK s.c.L i j l, lg s.c.L i j l, lq s.c.L i j l)) hlen Oi]; exact V.VL (s := { (s.lJ (kL s.c.L i j l) (qJ s.c.L s.c.pt i j l) (qZ s.c.L s.c.mark i j l)).kT [] with put := [(qK s.c.L i j l, lg s.c.L i j l, lq s.c.L i j l)], c := { ((s.lJ (kL s.c.L i j l) (qJ s.c.L s.c.pt i j l) (qZ s.c.L s.c.mark i j l)).kT []).c with run := false } }) (EO (x := (qK s.c.L i j l, lg s.c.L i j l, lq s.c.L i j l)) hlen Oi ▸ Rw (uG dV _ _ _) hok) O X2⟩
    ·(try simp only [aH] at h4)
     have Oi : ¬ 16384 ≤ gI (s.lJ (kL s.c.L i j l) (qJ s.c.L s.c.pt i j l) (qZ s.c.L s.c.mark i j l)).here (s.lJ (kL s.c.L i j l) (qJ s.c.L s.c.pt i j l) (qZ s.c.L s.c.mark i j l)).put := by show ¬ 16384 ≤ gI s.here s.put; omega
     refine iq ?_
     have Kq := Xg.drew
     have su := V.kp (Kq.f14.f14.f14.f14.f14.f14.f14.f14.f14.f14.f14.f14.f14.f14)
     refine xP [4, 5] su O (jc 0 O su O (jc 1 O su O (kN 2 O su O (fV 3 O su 33 ah O bV O (jq 4 O su (fun W hW => jV aU O ((Kp.h hW).f2).get.2 O) (jq 5 O su (fun W hW => dG aS O bG O O ((Kp.h hW).f4).get.2) (mP 6 O (sH Kq aU bG dB O O O (by decide) (by decide)) ?_)))))))
     rintro l20 XJ BD
     have Ec := V.kp (BD.f15.f15.f15.f15.f15.f15.f15.f15.f15.f15.f15.f15.f15.f15.f15)
     refine dK Ec (fun W hW => (Kp.h hW).right.f14.f14.f14.f14.f14.f14.f14.f14.f14.f14.f14.f14.f14.f14) ?_
     refine mP 7 O (iQ BD.f13 aU AB O O O ((BD).aP) (aF (aZ (by first | rfl | exact Rd.one ((BD.f6).aP)) (aZ (by first | rfl | exact Rd.one ((BD.f7).aP)) bK))) (by omega) (by omega)) ?_
     rintro l21 XK sW
     have LQ := sW.f2.right
     have Ed := V.kp (LQ.f14.f14.f14.f14.f14.f14.f14.f14.f14.f14.f14.f14.f14.f14)
     refine iC Ed (by kernel_rfl) ?_
     refine kN 8 O Ed O (fV 9 O Ed 33 ah O bV O ?_)
     refine eF 10 O (by kernel_rfl) (fM 33 (l' := [_, _, _, _, _, _, _, _, _, _, _, _, _, _, _, _, _, _, _, _, _, _, _, _, _, _, _, _, _, _, _, _, _, _]) LQ.f3 bV O O (by first | rfl | exact Rd.one ((LQ).aP)) O O) ?_
     rintro _ UZ xu
     have Fq := V.kp (xu.f14.f14.f14.f14.f14.f14.f14.f14.f14.f14.f14.f14.f14.f14)
     refine iC Fq (by kernel_rfl) ?_
     refine qp (bg (bM O (iW O (fB results21 O ?_))))
     have X := (xu.f5.right.f13.f12.f12.f6.f12.f8.f12.f12.f9.f13.f11.f13.f13).oJ.swap.oJ.swap
     rw [← jh] at X
     have X2 := V.yN X.f3
     exact ⟨by rw [hE]; rfl, by rw [hS, EN (x := (qK s.c.L i j l, lg s.c.L i j l, lq s.c.L i j l)) hlen Oi]; exact V.VL (s := { s.lJ (kL s.c.L i j l) (qJ s.c.L s.c.pt i j l) (qZ s.c.L s.c.mark i j l) with put := s.put ++ [(qK s.c.L i j l, lg s.c.L i j l, lq s.c.L i j l)] }) (EN (x := (qK s.c.L i j l, lg s.c.L i j l, lq s.c.L i j l)) hlen Oi ▸ Rw (uG dV _ _ _) hok) (by rw [List.map_append, bP]; rfl) X2⟩
   ·(try simp only [aH] at h3)
    have hlen : (lg s.c.L i j l).length + (lq s.c.L i j l).length = 0 := by omega
    refine iq (bM O (iW O (fB results21 O ?_)))
    exact ⟨by rw [hE]; rfl, by rw [hS, Ef (x := (qK s.c.L i j l, lg s.c.L i j l, lq s.c.L i j l)) hlen]; exact V.eY (s := s.lJ (kL s.c.L i j l) (qJ s.c.L s.c.pt i j l) (qZ s.c.L s.c.mark i j l)) (uG dV _ _ _) bP H5.right.right.right.f11.f11.f11.f11.f11.f11.f11.f11.f11.f10.f11⟩
  ·(try simp only [aH] at h2)
   have hlen : (lg s.c.L i j l).length + (lq s.c.L i j l).length = 0 := by rw [(hno h2).1, (hno h2).2]; rfl
   refine dH (dH (dH (dH (dH (dH (dH (dH (lV O O (iT (vO (iq (bM O (iW O (fB results21 O ?_))))))))))))))
   exact ⟨by rw [hE]; rfl, by rw [hS, Ef (x := (qK s.c.L i j l, lg s.c.L i j l, lq s.c.L i j l)) hlen]; exact V.eY (s := s.lJ (kL s.c.L i j l) (qJ s.c.L s.c.pt i j l) (qZ s.c.L s.c.mark i j l)) (uG dV _ _ _) bP H5.right.right.right.f11.f11.f11.f11.f11.f11.f11.f11.f11.f10.f11⟩
theorem CG (H : V w0 w (eH e s • F)) (hr : kP w0 F .i32 v l) : iU prog 19 #[.pointer (some ⟨e, 0, none⟩), v] w fun v' w' => v' = .int .i64 (s.Qd l) ∧ V w0 w' (eH e (s.BQ l) • F) := by
 refine oP func19 ntmps19 ?_
 refine lZ O (aO (bM O (dZ O func32 (jm H) ?_)))
 rintro _ _ ⟨rfl, rfl⟩
 refine gY O (bM O (aV (dO O O) (kK O (fun h1 => ?_) (fun h1 => ?_))))
 ·(try simp only [aH] at h1)
  obtain ⟨hin, hpe⟩ := rQ h1
  refine bM O (iW O (aK (fB results19 O ?_)))
  rw [hpe]
  exact ⟨by simp [aY.Qd, aY.BQ, aY.mD, aY.iw, hin], by rw [show s.BQ l = s from by simp [aY.Qd, aY.BQ, aY.mD, aY.iw, hin]]; exact H⟩
 ·(try simp only [aH] at h1)
  have hin := oW h1
  refine iq (aO ?_)
  obtain ⟨qV, rC, rD, rZ, rE, rF, rG, rH, qA, oZ, o7, o8, o9, pq, pz, pF, pG, pI, pJ, pK, dV, bP, jh, dY⟩ := (H).Dy
  have TF := dY.drew
  have yT := V.kp (TF.f11.f11.f11.f11.f11.f11.f11.f11.f11.f11.f11)
  refine xP [5, 11] yT O (jc 0 O yT O (jc 1 O yT O (kN 2 O yT O (fV 3 O yT 0 ah O aJ O (fV 4 O yT 0 aA O iD O (jq 5 O yT (fun W hW => jV dU O ((Kp.h hW)).get.2 O) (jc 7 O yT O (kN 8 O yT O (fV 9 O yT 0 ah O aJ O (fV 10 O yT 0 aA O iD O (jq 11 O yT (fun W hW => jV dU O ((Kp.h hW)).get.2 O) (jc 13 O yT O (mP 6 O (wu O func49 (nS TF.f2)) ?_)))))))))))))
  rintro _ _ ⟨rfl, rfl⟩
  have wG := V.kp (TF.f11.f11.f11.f11.f11.f11.f11.f11.f11.f11.f11)
  refine dK wG (fun W hW => (Kp.h hW).f11.f11.f11.f11.f11.f11.f11.f11.f11.f11.f11) ?_
  refine mP 12 O (wu O func49 (nS TF.f2)) ?_
  rintro _ _ ⟨rfl, rfl⟩
  have kW := V.kp (TF.f11.f11.f11.f11.f11.f11.f11.f11.f11.f11.f11)
  refine iC kW (by kernel_rfl) ?_
  have XU := TF.f11.f11.f11.f11.f11.f11.f11.f11.f11.f11.f11
  have XV := V.eY (s := s) dV bP XU
  refine mP 14 O (wu O func21 (oG XV (fun W HW => hr _ (HW)))) ?_
  rintro _ w8 ⟨rfl, H8⟩
  have Lu := V.kp (H8)
  refine iC Lu (by kernel_rfl) ?_
  refine jW 15 O Lu (fun _ => iV O) (qp (bg (rV (fB results19 O ?_))))
  exact ⟨O, H8⟩
theorem Eh (H : V w0 w (eH e s • F)) : iU prog 20 #[.pointer (some ⟨e, 0, none⟩), .int .i64 i, .int .i64 j] w fun v' w' => v' = .int .i64 (s.mD i j []) ∧ V w0 w' (eH e (s.iw i j []) • F) := by
  refine FQ func20 ntmps20 ?_
  refine lZ O (bM O (mQ O O (dZ O func21 (oG H (fun W _ => mM.nil W _ none 0 (by decide))) ?_)))
  rintro _ w1 ⟨rfl, H1⟩
  refine iW O (fB results20 O ?_)
  exact ⟨O, H1⟩
theorem TG (s : aY) (x : gV) : (s.nO x).cls = s.cls := by unfold aY.nO; split; rfl; split <;> rfl
theorem Kr (s : aY) (i j : Int) (l : List Int) : (s.iw i j l).cls = s.cls := by unfold aY.iw; split; rw [TG]; rfl; rfl
theorem FB (H : V w0 w (eH e s • F)) (hr : kP w0 F .i32 v l) (hl : (l.length : Int) ≤ 4611686018427387904) : iU prog 16 #[.pointer (some ⟨e, 0, none⟩), v] w fun v' w' => v' = .int .i64 (s.Ea l) ∧ V w0 w' (eH e (s.mX l) • F) := by
 refine oP func16 ntmps16 ?_
 refine lZ O (aO (bM O (dZ O func32 (jm H) ?_)))
 rintro _ _ ⟨rfl, rfl⟩
 refine gY O (bM O (aV (dO O O) (kK O (fun h1 => ?_) (fun h1 => ?_))))
 ·(try simp only [aH] at h1)
  obtain ⟨hin, hpe⟩ := rQ h1
  refine bM O (iW O (aK (fB results16 O ?_)))
  rw [hpe]
  exact ⟨by simp [aY.Ea, aY.mX, aY.mD, aY.iw, hin], by rw [show s.mX l = s from by simp [aY.Ea, aY.mX, aY.mD, aY.iw, hin]]; exact H⟩
 ·(try simp only [aH] at h1)
  have hin := oW h1
  refine iq (aO ?_)
  obtain ⟨qV, rC, rD, rZ, rE, rF, rG, rH, qA, oZ, o7, o8, o9, pq, pz, pF, pG, pI, pJ, pK, dV, bP, jh, dY⟩ := (H).Dy
  have hL : s.c.L.length ≤ 1024 ∧ 0 ≤ s.c.pt ∧ s.c.pt ≤ s.c.L.length := by obtain ⟨a, c, xs, f, t, h1, h2, h3, h4, h5, h6, h7, hc1, hc2, hl, H1⟩ := (dY.f2).buf; exact ⟨h4, h6⟩
  refine aC (ny O O (bf 0 ah O aJ O (bf 0 aA O iD O (dQ dU O (dY).get.2 O (dZ O func49 (nS dY.f2) ?_)))))
  rintro _ _ ⟨rfl, rfl⟩
  refine tJ O (bM O (dM O (bf 0 ah O aJ O (bf 5 aA O aQ O (dQ bW O (dY).get.2 O (kK O (fun h2 => ?_) (fun h2 => ?_)))))))
  ·(try simp only [aH] at h2)
   have hto : s.kX l = min (s.c.pt + l.length) s.c.L.length := by unfold aY.kX; rw [if_pos h2]
   refine aC (mQ O O (aV (rX (hr _ (dY.right.right.right.right.right.right.right.right.right.right.right)) aG O) (aV (gX O O (by omega)) (ny O O (bf 0 ah O aJ O (bf 0 aA O iD O (dQ dU O (dY).get.2 O (dZ O func50 (mG dY.f2) ?_))))))))
   rintro _ w4 ⟨rfl, hD4⟩
   have HD4 := dY.qW hD4
   refine aV (QK O O) (gY O (bM O (ny O O (bf 0 ah O aJ O (bf 0 aA O iD O (dQ dU O (HD4).get.2 O (dZ O func49 (nS HD4.f2) ?_)))))))
   rintro _ _ ⟨rfl, rfl⟩
   have Zq := HD4.f11.f11.f11.f11.f11.f11.f11.f11.f11.f11.f11
   have Zr := V.eY (s := s) dV bP Zq
   refine mQ O O (dZ O func21 (oG Zr (fun W HW => hr _ (HW))) ?_)
   rintro _ w9 ⟨rfl, H9⟩
   have HT : V w0 w9 (eH e (s.iw s.c.pt (s.kX l) l) • F) := by rw [hto]; exact H9
   have hc0 := Kr s s.c.pt (s.kX l) l
   have hE : s.Ea l = s.mD s.c.pt (s.kX l) l := rfl
   rw [hto] at hE
   refine tJ O (bM O (aV (ig O O) (qC O (fun h3 => ?_) (fun h3 => ?_))))
   ·(try simp only [aH] at h3)
    have hE0 := h3
    obtain ⟨qV, rC, rD, rZ, rE, rF, rG, rH, qA, oZ, o7, o8, o9, pq, pz, pF, pG, pI, pJ, pK, dV, bP, jh, dY⟩ := (HT).Dy
    refine bU (cZ O (bU (dM O (bU (bf 28 ah O aj O (bU (dQ ay O (dY).get.2 O (bU (aV (ig O O) (pW O O (kK O (fun h4 => ?_) (fun h4 => ?_))))))))))))
    ·(try simp only [aH] at h4)
     have hcl := h4
     refine aC (ny O O (bf 28 ah O aj O (aI (dN 28 dY aj) ?_)))
     rintro _ I9 yt
     refine sU O (iW O (fB results16 O ?_))
     have e1 : s.mX l = { s.iw s.c.pt (s.kX l) l with cls := 3 } := by unfold aY.mX; rw [if_pos hin]; dsimp only; rw [if_pos ⟨hE.trans hE0, hc0.symm.trans hcl⟩]
     exact ⟨by rw [hE], by rw [e1]; exact V.eY (s := { s.iw s.c.pt (s.kX l) l with cls := 3 }) dV bP yt.f11.f11.f11.f11.f11.f11.f11.f11.f11.f11.f11⟩
    ·(try simp only [aH] at h4)
     have hcl := h4
     refine iq (bM O (iW O (fB results16 O ?_)))
     have e1 : s.mX l = s.iw s.c.pt (s.kX l) l := by unfold aY.mX; rw [if_pos hin]; dsimp only; rw [if_neg (fun h => hcl (hc0.trans h.2))]
     exact ⟨by rw [hE], by rw [e1]; exact V.eY (s := s.iw s.c.pt (s.kX l) l) dV bP dY.f11.f11.f11.f11.f11.f11.f11.f11.f11.f11.f11⟩
   ·(try simp only [aH] at h3)
    have hE0 := h3
    refine dH (dH (dH (dH (dH (lV O O (iT (vO (iq (bM O (iW O (fB results16 O ?_)))))))))))
    have e1 : s.mX l = s.iw s.c.pt (s.kX l) l := by unfold aY.mX; rw [if_pos hin]; dsimp only; rw [if_neg (fun h => hE0 (hE.symm.trans h.1))]
    exact ⟨by rw [hE], by rw [e1]; exact HT⟩
  ·(try simp only [aH] at h2)
   have hto : s.kX l = s.c.pt := by unfold aY.kX; rw [if_neg (by simp [h2])]
   refine iq (bM O (ny O O (bf 0 ah O aJ O (bf 0 aA O iD O (dQ dU O (dY).get.2 O (dZ O func49 (nS dY.f2) ?_))))))
   rintro _ _ ⟨rfl, rfl⟩
   have VE := dY.f11.f11.f11.f11.f11.f11.f11.f11.f11.f11.f11
   have VF := V.eY (s := s) dV bP VE
   refine mQ O O (dZ O func21 (oG VF (fun W HW => hr _ (HW))) ?_)
   rintro _ w16 ⟨rfl, uO⟩
   have HT : V w0 w16 (eH e (s.iw s.c.pt (s.kX l) l) • F) := by rw [hto]; exact uO
   have hc0 := Kr s s.c.pt (s.kX l) l
   have hE : s.Ea l = s.mD s.c.pt (s.kX l) l := rfl
   rw [hto] at hE
   refine tJ O (bM O (aV (ig O O) (qC O (fun h5 => ?_) (fun h5 => ?_))))
   ·(try simp only [aH] at h5)
    have hE0 := h5
    obtain ⟨qV, rC, rD, rZ, rE, rF, rG, rH, qA, oZ, o7, o8, o9, pq, pz, pF, pG, pI, pJ, pK, dV, bP, jh, dY⟩ := (HT).Dy
    refine bU (cZ O (bU (dM O (bU (bf 28 ah O aj O (bU (dQ ay O (dY).get.2 O (bU (aV (ig O O) (pW O O (kK O (fun h6 => ?_) (fun h6 => ?_))))))))))))
    ·(try simp only [aH] at h6)
     have hcl := h6
     refine aC (ny O O (bf 28 ah O aj O (aI (dN 28 dY aj) ?_)))
     rintro _ Xd Es
     refine sU O (iW O (fB results16 O ?_))
     have e1 : s.mX l = { s.iw s.c.pt (s.kX l) l with cls := 3 } := by unfold aY.mX; rw [if_pos hin]; dsimp only; rw [if_pos ⟨hE.trans hE0, hc0.symm.trans hcl⟩]
     exact ⟨by rw [hE], by rw [e1]; exact V.eY (s := { s.iw s.c.pt (s.kX l) l with cls := 3 }) dV bP Es.f11.f11.f11.f11.f11.f11.f11.f11.f11.f11.f11⟩
    ·(try simp only [aH] at h6)
     have hcl := h6
     refine iq (bM O (iW O (fB results16 O ?_)))
     have e1 : s.mX l = s.iw s.c.pt (s.kX l) l := by unfold aY.mX; rw [if_pos hin]; dsimp only; rw [if_neg (fun h => hcl (hc0.trans h.2))]
     exact ⟨by rw [hE], by rw [e1]; exact V.eY (s := s.iw s.c.pt (s.kX l) l) dV bP dY.f11.f11.f11.f11.f11.f11.f11.f11.f11.f11.f11⟩
   ·(try simp only [aH] at h5)
    have hE0 := h5
    refine dH (dH (dH (dH (dH (lV O O (iT (vO (iq (bM O (iW O (fB results16 O ?_)))))))))))
    have e1 : s.mX l = s.iw s.c.pt (s.kX l) l := by unfold aY.mX; rw [if_pos hin]; dsimp only; rw [if_neg (fun h => hE0 (hE.symm.trans h.1))]
    exact ⟨by rw [hE], by rw [e1]; exact HT⟩
end
theorem TI {E : List (List Int)} {a : Nat} {way : Int} {l : List Int} (h : (yH E a way l).1 ≠ 0) : (yH E a way l).2 = (E, a) := by
  unfold yH at *
  repeat' split at h
  all_goals first | (simp at h; done) | skip
  all_goals (repeat' (first | rw [if_pos (by assumption)] | rw [if_neg (by assumption)])) <;> rfl
theorem TJ {s : aY} {i j : Int} {back : Bool} (h : (s.ru i j back).1 ≠ 0) : (s.ru i j back).2 = (s.c.E, s.c.at_) := TI h
theorem Oj (s : aY) : s.lJ s.c.L s.c.pt s.c.mark = s := rfl
theorem Kt {s : aY} {i j : Int} {l : List Int} (h : s.mD i j l ≠ 0) : s.iw i j l = s := by
  unfold aY.iw aY.mD at *
  split
  · rename_i hin
    rw [if_pos hin] at h
    rw [Ef (by rw [(uH h).1, (uH h).2]; rfl)]
    unfold kL qJ qZ
    rw [if_neg h, if_neg h, if_neg h]
    exact Oj s
  · rfl
theorem BK {s : aY} {i j : Int} {back : Bool} (h : s.qM i j back ≠ 0) : s.qN i j back = s := by unfold aY.qN; rw [if_neg h]
section
variable {w0 w : World} {F : HP} {e p h pr : Nat} {s : aY} {i j x : Int} {back : Bool} {v : Value} {l : List Int}
theorem FC (H : V w0 w (eH e s • F)) : iU prog 23 #[.pointer (some ⟨e, 0, none⟩), .int .i64 i, .int .i64 j, .bool back] w fun v' w' => v' = .int .i64 (s.qM i j back) ∧ V w0 w' (eH e (s.qN i j back) • F) := by
 refine SE func23 ntmps23 ?_
 refine lZ O (aO (bM O (dZ O func32 (jm H) ?_)))
 rintro _ _ ⟨rfl, rfl⟩
 refine gY O (bM O (aV (dO O O) (kK O (fun h1 => ?_) (fun h1 => ?_))))
 ·(try simp only [aH] at h1)
  obtain ⟨hin, hpe⟩ := rQ h1
  refine bM O (iW O (aK (fB results23 O ?_)))
  rw [hpe]
  exact ⟨by simp [aY.qM, aY.qN, hin], by rw [show s.qN i j back = s from by simp [aY.qM, aY.qN, hin]]; exact H⟩
 ·(try simp only [aH] at h1)
  have hin := oW h1
  refine iq (aO (aO ?_))
  obtain ⟨qV, rC, rD, rZ, rE, rF, rG, rH, qA, oZ, o7, o8, o9, pq, pz, pF, pG, pI, pJ, pK, dV, bP, jh, dY⟩ := (H).Dy
  have hL : s.c.L.length ≤ 1024 := by obtain ⟨a, c, xs, f, t, h1, h2, h3, h4, h5, h6, h7, hc1, hc2, hl, H1⟩ := (dY.f2).buf; exact h4
  refine aC (cZ O (aV (fJ O O) (qC O (fun h2 => ?_) (fun h2 => ?_))))
  ·(try simp only [aH] at h2)
   refine dH (dH (dH (dH (dH (dH (dH (dH (pW O O (cZ O (dH (dH (dH (pW O O (cZ O (dH (dH (dH (dH (dH (dH (dH (dH (pW O O (iT (EY (lF O (aK (fB results23 O ?_))))))))))))))))))))))))))))
   have hb : s.pY i j := by unfold aY.pY; omega
   have hc : s.qM i j back = 70 := by unfold aY.qM; rw [if_pos hin, if_pos hb]
   exact ⟨by rw [hc], by rw [BK (by rw [hc]; decide)]; exact V.eY dV bP dY.f11.f11.f11.f11.f11.f11.f11.f11.f11.f11.f11⟩
  ·(try simp only [aH] at h2)
   refine bU (cZ O (bU (cZ O (bU (dM O (bU (bf 0 ah O aJ O (bU (bf 0 aA O iD O (bU (dQ dU O (dY).get.2 O (bU (dZ O func50 (mG dY.f2) ?_)))))))))))))
   rintro _ w3 ⟨rfl, hD3⟩
   have HD3 := dY.qW hD3
   refine bU (aV (fZ O O) (lV O O (qC O (fun h3 => ?_) (fun h3 => ?_))))
   ·(try simp only [aH] at h3)
    refine dH (dH (dH (pW O O (cZ O (dH (dH (dH (dH (dH (dH (dH (dH (pW O O (iT (EY (lF O (aK (fB results23 O ?_))))))))))))))))))
    have hb : s.pY i j := by unfold aY.pY; omega
    have hc : s.qM i j back = 70 := by unfold aY.qM; rw [if_pos hin, if_pos hb]
    exact ⟨by rw [hc], by rw [BK (by rw [hc]; decide)]; exact V.eY dV bP HD3.f11.f11.f11.f11.f11.f11.f11.f11.f11.f11.f11⟩
   ·(try simp only [aH] at h3)
    refine bU (cZ O (bU (cZ O (bU (aV (fJ O O) (lV O O (qC O (fun h4 => ?_) (fun h4 => ?_))))))))
    ·(try simp only [aH] at h4)
     refine dH (dH (dH (dH (dH (dH (dH (dH (pW O O (iT (EY (lF O (aK (fB results23 O ?_)))))))))))))
     have hb : s.pY i j := by unfold aY.pY; omega
     have hc : s.qM i j back = 70 := by unfold aY.qM; rw [if_pos hin, if_pos hb]
     exact ⟨by rw [hc], by rw [BK (by rw [hc]; decide)]; exact V.eY dV bP HD3.f11.f11.f11.f11.f11.f11.f11.f11.f11.f11.f11⟩
    ·(try simp only [aH] at h4)
     refine bU (cZ O (bU (cZ O (bU (dM O (bU (bf 0 ah O aJ O (bU (bf 0 aA O iD O (bU (dQ dU O (HD3).get.2 O (bU (dZ O func50 (mG HD3.f2) ?_)))))))))))))
     rintro _ w4 ⟨rfl, hD4⟩
     have HD4 := HD3.qW hD4
     refine bU (aV (fZ O O) (lV O O (kK O (fun h5 => ?_) (fun h5 => ?_))))
     ·(try simp only [aH] at h5)
      refine lF O (aK (fB results23 O ?_))
      have hb : s.pY i j := by unfold aY.pY; omega
      have hc : s.qM i j back = 70 := by unfold aY.qM; rw [if_pos hin, if_pos hb]
      exact ⟨by rw [hc], by rw [BK (by rw [hc]; decide)]; exact V.eY dV bP HD4.f11.f11.f11.f11.f11.f11.f11.f11.f11.f11.f11⟩
     ·(try simp only [aH] at h5)
      refine iq (aO ?_)
      have hb : ¬ s.pY i j := by unfold aY.pY; omega
      have hc : s.qM i j back = (s.ru i j back).1 := by unfold aY.qM; rw [if_pos hin, if_neg hb]
      refine aC (gY O ?_)
      refine Dz [(0, _), (1, _), (2, _)] (fun (_ : Unit) => [(10, .int .i64 (s.way back))]) (fun (_ : Unit) W => W = w4) Gf ?_ ?_
      ·rintro _ w5 rfl
       dsimp only [List.cons_append, List.nil_append]
       refine aO (aO ?_)
       have YO := HD4.drew
       have uf := V.kp (YO.f11.f11.f11.f11.f11.f11.f11.f11.f11.f11.f11)
       refine xP [4, 10] uf O (jc 0 O uf O (kN 1 O uf O (fV 2 O uf 0 ah O aJ O (fV 3 O uf 1 aA O sizeOf61 O (jq 4 O uf (fun W hW => jV nT O ((Kp.h hW)).get.2 O) (jc 5 O uf O (jc 6 O uf O (kN 7 O uf O (fV 8 O uf 0 ah O aJ O (fV 9 O uf 0 aA O iD O (jq 10 O uf (fun W hW => jV dU O ((Kp.h hW)).get.2 O) (jc 12 O uf O (jc 13 O uf O (mP 11 O (wu O func59 (oK YO.f2)) ?_))))))))))))))
       rintro u6 w6 H6
       have yF := V.kp (H6.f12.f12.f12.f12.f12.f12.f12.f12.f12.f12.f12.f12)
       refine dK yF (fun W hW => (Kp.h hW).right.f11.f11.f11.f11.f11.f11.f11.f11.f11.f10.f11) ?_
       refine jW 14 O yF (fun _ => yx ((H6).aP) aG jr O O O (by omega)) ?_
       refine mP 15 O (wu O func58 (Jq H6.f4 (fun W HW => mM.cut ((HW).aP) (by omega) (by omega)))) ?_
       rintro _ w7 ⟨rfl, H7⟩
       have yM := V.kp (H7.f12.f12.f12.f12.f12.f12.f12.f12.f12.f12.f12.f12)
       refine iC yM (by kernel_rfl) ?_
       refine jW 16 O yM (fun _ => iV O) (qp (bg (bM O (aV (dO O O) (kK O (fun h6 => ?_) (fun h6 => ?_))))))
       ·(try simp only [aH] at h6)
        refine bM O (iW O (aK (fB results23 O ?_)))
        exact ⟨by rw [hc]; rfl, by rw [BK (by rw [hc]; assumption)]; have HX := H7.f2.right.f11.f11.f11.f11.f11.f11.f11.f11.f9.f10.f11; rw [show yH s.c.E s.c.at_ (s.way back) ((s.c.L.drop i.toNat).take (j.toNat - i.toNat)) = s.ru i j back from O, TJ (by assumption)] at HX; exact V.eY dV bP HX⟩
       ·(try simp only [aH] at h6)
        refine iq (bM O (ny O O (bf 29 ah O aQ O (aI (dN 29 H7.f4 aQ) ?_))))
        rintro _ w8 H8
        refine dM O (bf 28 ah O aj O (aI (dN 28 H8 aj) ?_))
        rintro _ w9 H9
        refine iT (lF O (fB results23 O ?_))
        have hc0 : s.qM i j back = 0 := by rw [hc]; assumption
        have hs : s.qN i j back = { s.Gm (s.ru i j back).2.1 (s.ru i j back).2.2 with killed := true, cls := 1 } := by unfold aY.qN; rw [if_pos hc0]
        exact ⟨by rw [hc0], by rw [hs]; exact V.eY (s := { s.Gm (s.ru i j back).2.1 (s.ru i j back).2.2 with killed := true, cls := 1 }) dV bP H9.f3.right.f11.f11.f11.f11.f11.f11.f11.f11.f10.f11.f11⟩
      ·skip
       refine bM O (dM O (bf 0 ah O aJ O (bf 6 aA O aj O (dQ ay O (HD4).get.2 O (aV (ig O O) (qC O (fun h7 => ?_) (fun h7 => ?_)))))))
       ·(try simp only [aH] at h7)
        refine dH (dH (dH (dH (pW O O (iT (EY (lZ O (bM O (kK O (fun h8 => ?_) (fun h8 => ?_))))))))))
        ·(try simp only [aH] at h8)
         refine aC (lU O (bY ?_))
         refine nJ (()) ?_ ?_ ?_
         ·exact (Sub.BU O (by unfold aY.way; simp_all) (Sub.nil _))
         ·exact Gf
         ·(try dsimp only)
          first | done | exact rfl
        ·(try simp only [aH] at h8)
         refine fU ?_
         refine nJ (()) ?_ ?_ ?_
         ·exact (Sub.BU O (by unfold aY.way; simp_all) (Sub.nil _))
         ·exact Gf
         ·(try dsimp only)
          first | done | exact rfl
       ·(try simp only [aH] at h7)
        refine bU (cZ O (bU (dM O (bU (bf 29 ah O aQ O (bU (dQ bW O (HD4).get.2 O (lV O O (kK O (fun h9 => ?_) (fun h9 => ?_))))))))))
        ·(try simp only [aH] at h9)
         refine lZ O (bM O (kK O (fun h10 => ?_) (fun h10 => ?_)))
         ·(try simp only [aH] at h10)
          refine aC (lU O (bY ?_))
          refine nJ (()) ?_ ?_ ?_
          ·exact (Sub.BU O (by unfold aY.way; simp_all) (Sub.nil _))
          ·exact Gf
          ·(try dsimp only)
           first | done | exact rfl
         ·(try simp only [aH] at h10)
          refine fU ?_
          refine nJ (()) ?_ ?_ ?_
          ·exact (Sub.BU O (by unfold aY.way; simp_all) (Sub.nil _))
          ·exact Gf
          ·(try dsimp only)
           first | done | exact rfl
        ·(try simp only [aH] at h9)
         refine fU ?_
         refine nJ (()) ?_ ?_ ?_
         ·exact (Sub.BU O (by unfold aY.way; simp_all) (Sub.nil _))
         ·exact Gf
         ·(try dsimp only)
          first | done | exact rfl
theorem Ol (H : V w0 w (eH e s • F)) : iU prog 22 #[.pointer (some ⟨e, 0, none⟩), .int .i64 i, .int .i64 j, .bool back] w fun v' w' => v' = .int .i64 (s.Vs i j back) ∧ V w0 w' (eH e (s.wC i j back) • F) := by
  refine SE func22 ntmps22 ?_
  refine lZ O (aO (bM O (mQ O O (cZ O (dZ O func23 (FC H) ?_)))))
  rintro _ w1 ⟨rfl, H1⟩
  refine gY O (bM O (aV (dO O O) (kK O (fun h1 => ?_) (fun h1 => ?_))))
  · (try simp only [aH] at h1)
    have hc := h1
    refine bM O (iW O (aK (fB results22 O ?_)))
    exact ⟨by unfold aY.Vs; rw [if_neg hc], by unfold aY.wC; rw [if_neg hc]; have HX := H1; rw [BK hc] at HX; exact HX⟩
  · (try simp only [aH] at h1)
    have hc := h1
    refine iq (bM O (mQ O O (dZ O func20 (Eh H1) ?_)))
    rintro _ w2 ⟨rfl, H2⟩
    refine iW O (fB results22 O ?_)
    exact ⟨by unfold aY.Vs; rw [if_pos hc], by unfold aY.wC; rw [if_pos hc]; exact H2⟩
theorem Om {E : List (List Int)} (h : ∀ x ∈ E, x.length ≤ 1024) (k : Nat) : (E.getD k []).length ≤ 1024 := by
  rw [List.getD_eq_getElem?_getD]
  cases hk : E[k]? with
  | none => simp
  | some x => exact h x (List.mem_of_getElem? hk)
theorem Oo (H : V w0 w (eH e s • F)) : iU prog 24 #[.pointer (some ⟨e, 0, none⟩)] w fun v' w' => v' = .int .i64 s.Ii ∧ V w0 w' (eH e s.xE • F) := by
 refine ji func24 ntmps24 ?_
 refine lZ O (aO (bM O (dZ O func32 (jm H) ?_)))
 rintro _ _ ⟨rfl, rfl⟩
 refine gY O (bM O (aV (dO O O) (kK O (fun h1 => ?_) (fun h1 => ?_))))
 ·(try simp only [aH] at h1)
  obtain ⟨hin, hpe⟩ := rQ h1
  refine bM O (iW O (aK (fB results24 O ?_)))
  rw [hpe]
  exact ⟨by simp [aY.Ii, aY.xE, hin], by rw [show s.xE = s from by simp [aY.Ii, aY.xE, hin]]; exact H⟩
 ·(try simp only [aH] at h1)
  have hin := oW h1
  refine iq (aO ?_)
  obtain ⟨qV, rC, rD, rZ, rE, rF, rG, rH, qA, oZ, o7, o8, o9, pq, pz, pF, pG, pI, pJ, pK, dV, bP, jh, dY⟩ := (H).Dy
  have hL : s.c.L.length ≤ 1024 ∧ 0 ≤ s.c.pt ∧ s.c.pt ≤ s.c.L.length := by obtain ⟨a, c, xs, f, t, h1, h2, h3, h4, h5, h6, h7, hc1, hc2, hl, H1⟩ := (dY.f2).buf; exact ⟨h4, h6⟩
  have hR := Om (Df (dY.f3)).2.2 s.c.at_
  have hY : s.Ii = if s.c.E.length = 0 then 6 else s.Qd s.top := by unfold aY.Ii; rw [if_pos hin]
  refine aC (ny O O (bf 0 ah O aJ O (bf 1 aA O sizeOf61 O (dQ nT O (dY).get.2 O (dZ O func60 (Js dY.f3) ?_)))))
  rintro _ w3 ⟨u3, rfl, H3⟩
  refine cZ O (rO O O (rO O O (lU O (tJ O (bM O (aV (dO O O) (kK O (fun h2 => ?_) (fun h2 => ?_))))))))
  ·(try simp only [aH] at h2)
   have h6 : s.c.E.length = 0 := by by_cases hx : s.c.E.length = 0; exact hx; exact absurd (if_neg hx) h2
   rw [if_pos h6] at hY
   refine bM O (iW O (aK (fB results24 O ?_)))
   exact ⟨by rw [hY]; show Value.int _ (if s.c.E.length = 0 then 6 else 0) = _; rw [if_pos h6], by rw [show s.xE = s from by unfold aY.xE; rw [if_neg (by rw [hY]; decide)]]; exact V.eY dV bP H3.right.f11.f11.f11.f11.f11.f11.f11.f11.f9.f11.f11⟩
  ·(try simp only [aH] at h2)
   have h6 : ¬ s.c.E.length = 0 := fun hx => by rw [if_pos hx] at h2; exact absurd h2 (by decide)
   rw [if_neg h6] at hY
   refine iq (bM O (dM O (bf 0 ah O aJ O (bf 0 aA O iD O (dQ dU O (H3.f3).get.2 O (dZ O func49 (nS H3.f4) ?_))))))
   rintro _ _ ⟨rfl, rfl⟩
   refine lU O ?_
   have XU := H3.f12.f12.f12.f12.f12.f12.f12.f12.f10.f12.f12
   have XV := V.eY (s := s) dV bP XU
   refine qj (bM O (cZ O (dZ O func19 (CG XV (fun W HW => (HW).aP)) ?_)))
   rintro _ w8 ⟨rfl, H8⟩
   refine gY O (bM O (aV (dO O O) (kK O (fun h3 => ?_) (fun h3 => ?_))))
   ·(try simp only [aH] at h3)
    have hI : s.Qd s.top ≠ 0 := h3
    refine bM O (iW O (aK (fB results24 O ?_)))
    exact ⟨by rw [hY]; rfl, by rw [show s.xE = s from by unfold aY.xE; rw [if_neg (by rw [hY]; exact hI)]]; have HX := H8.f2.right; rw [show s.BQ (s.c.E.getD s.c.at_ []) = s from Kt hI] at HX; exact HX⟩
   ·(try simp only [aH] at h3)
    have hI : s.Qd s.top = 0 := h3
    obtain ⟨qV, rC, rD, rZ, rE, rF, rG, rH, qA, oZ, o7, o8, o9, pq, pz, pF, pG, pI, pJ, pK, dV, bP, jh, dY⟩ := (H8).Dy
    refine iq (bM O (dM O (bf 0 ah O aJ O (bf 0 aA O iD O (dQ dU O (dY).get.2 O (cZ O (dZ O func61 (zS dY.f2) ?_)))))))
    rintro _ w10 ⟨rfl, sV⟩
    refine sU O (ny O O (bf 30 ah O aQ O (aI (dN 30 sV.f2 aQ) ?_)))
    rintro _ I9 yt
    refine dM O (bf 28 ah O aj O (aI (dN 28 yt aj) ?_))
    rintro _ w12 wz
    refine sU O (mQ O O (mQ O O (aV (rX ((wz.f12).aP) aG O) (aV (gX O O (by omega)) (dM O (bf 0 ah O aJ O (bf 7 aA O aj O (aI (dN 7 wz aj) ?_))))))))
    rintro _ O8 yY
    refine dM O (bf 0 ah O aJ O (bf 8 aA O aj O (aI (dN 8 yY aj) ?_)))
    rintro _ MK yu
    refine iT (lF O (fB results24 O ?_))
    have hs : s.xE = { s.BQ s.top with lW := true, cls := 2, c := { (s.BQ s.top).c with mark := Zi (s.BQ s.top).c.L (s.BQ s.top).c.mark s.c.pt, fr := s.c.pt, to := s.c.pt + s.top.length } } := by unfold aY.xE; rw [if_pos (hY.trans hI)]
    exact ⟨by rw [hY, hI], by rw [hs]; exact V.eY (s := { s.BQ s.top with lW := true, cls := 2, c := { (s.BQ s.top).c with mark := Zi (s.BQ s.top).c.L (s.BQ s.top).c.mark s.c.pt, fr := s.c.pt, to := s.c.pt + s.top.length } }) dV bP yu.f12.right.f11.f11.f11.f11.f11.f11.f11.f11.f11.f11.f11⟩
theorem Qn {L : List Int} {i j : Int} {l : List Int} (h : kC L i j l = 0) : 0 ≤ i ∧ i ≤ L.length := by
  unfold kC at h
  split at h
  · cases h
  · omega
theorem VR (s : aY) (x : gV) : (s.nO x).c.fr = s.c.fr := by unfold aY.nO; split; rfl; split <;> rfl
theorem VT (s : aY) (i j : Int) (l : List Int) : (s.iw i j l).c.fr = s.c.fr := by unfold aY.iw; split; rw [VR]; rfl; rfl
theorem X6 (s : aY) (x : gV) : (s.nO x).c.E = s.c.E := by unfold aY.nO; split; rfl; split <;> rfl
theorem X7 (s : aY) (i j : Int) (l : List Int) : (s.iw i j l).c.E = s.c.E := by unfold aY.iw; split; rw [X6]; rfl; rfl
theorem Qo (H : V w0 w (eH e s • F)) : iU prog 25 #[.pointer (some ⟨e, 0, none⟩), .int .i64 x] w fun v' w' => v' = .int .i64 (s.Ij x) ∧ V w0 w' (eH e (s.Ad x) • F) := by
 refine oP func25 ntmps25 ?_
 refine lZ O (aO (bM O (dZ O func32 (jm H) ?_)))
 rintro _ _ ⟨rfl, rfl⟩
 refine gY O (bM O (aV (dO O O) (kK O (fun h1 => ?_) (fun h1 => ?_))))
 ·(try simp only [aH] at h1)
  obtain ⟨hin, hpe⟩ := rQ h1
  refine bM O (iW O (aK (fB results25 O ?_)))
  rw [hpe]
  exact ⟨by simp [aY.Ij, aY.Ad, hin], by rw [show s.Ad x = s from by simp [aY.Ij, aY.Ad, hin]]; exact H⟩
 ·(try simp only [aH] at h1)
  have hin := oW h1
  refine iq (aO (aO ?_))
  obtain ⟨qV, rC, rD, rZ, rE, rF, rG, rH, qA, oZ, o7, o8, o9, pq, pz, pF, pG, pI, pJ, pK, dV, bP, jh, dY⟩ := (H).Dy
  have hL : s.c.L.length ≤ 1024 := by obtain ⟨a, c, xs, f, t, h1, h2, h3, h4, h5, h6, h7, hc1, hc2, hl, H1⟩ := (dY.f2).buf; exact h4
  have hR := Om (Df (dY.f3)).2.2 (yI s.c.E.length s.c.at_ x)
  refine aC (ny O O (bf 0 ah O aJ O (bf 6 aA O aj O (dQ ay O (dY).get.2 O (aV (dO O O) (qC O (fun h2 => ?_) (fun h2 => ?_)))))))
  ·(try simp only [aH] at h2)
   refine dH (dH (dH (dH (pW O O (iT (EY (lF O (aK (fB results25 O ?_)))))))))
   have hb : s.c.last ≠ 2 ∨ s.lW = true := by simp_all
   have hP : s.Ij x = 6 := by unfold aY.Ij; rw [if_pos hin, if_pos hb]
   exact ⟨by rw [hP], by rw [show s.Ad x = s from by unfold aY.Ad; rw [if_neg (by rw [hP]; decide)]]; exact V.eY dV bP dY.f11.f11.f11.f11.f11.f11.f11.f11.f11.f11.f11⟩
  ·(try simp only [aH] at h2)
   refine bU (cZ O (bU (dM O (bU (bf 30 ah O aQ O (bU (dQ bW O (dY).get.2 O (lV O O (kK O (fun h3 => ?_) (fun h3 => ?_))))))))))
   ·(try simp only [aH] at h3)
    refine lF O (aK (fB results25 O ?_))
    have hb : s.c.last ≠ 2 ∨ s.lW = true := by simp_all
    have hP : s.Ij x = 6 := by unfold aY.Ij; rw [if_pos hin, if_pos hb]
    exact ⟨by rw [hP], by rw [show s.Ad x = s from by unfold aY.Ad; rw [if_neg (by rw [hP]; decide)]]; exact V.eY dV bP dY.f11.f11.f11.f11.f11.f11.f11.f11.f11.f11.f11⟩
   ·(try simp only [aH] at h3)
    refine iq (aO ?_)
    have hb : ¬ (s.c.last ≠ 2 ∨ s.lW = true) := by simp_all
    have hP : s.Ij x = if s.c.E.length = 0 then 6 else s.mD s.c.fr s.c.to (s.AQ x) := by unfold aY.Ij; rw [if_pos hin, if_neg hb]
    refine aC (ny O O (bf 0 ah O aJ O (bf 1 aA O sizeOf61 O (dQ nT O (dY).get.2 O (dZ O func52 (wZ dY.f3) ?_)))))
    rintro _ w3 ⟨pc3, rfl, H3⟩
    refine gY O (bM O (cZ O (dZ O func62 (zU H3) ?_)))
    rintro _ w4 ⟨u4, rfl, H4⟩
    refine cZ O (rO O O (rO O O (lU O (tJ O (bM O (aV (dO O O) (kK O (fun h4 => ?_) (fun h4 => ?_))))))))
    ·(try simp only [aH] at h4)
     have h6 : s.c.E.length = 0 := by by_cases hx : s.c.E.length = 0; exact hx; exact absurd (if_neg hx) h4
     rw [if_pos h6] at hP
     refine bM O (iW O (aK (fB results25 O ?_)))
     exact ⟨by rw [hP]; show Value.int _ (if s.c.E.length = 0 then 6 else 0) = _; rw [if_pos h6], by rw [show s.Ad x = s from by unfold aY.Ad; rw [if_neg (by rw [hP]; decide)]]; exact V.eY dV bP H4.right.right.f11.f11.f11.f11.f11.f11.f11.f11.f9.f11.f11⟩
    ·(try simp only [aH] at h4)
     have h6 : ¬ s.c.E.length = 0 := fun hx => by rw [if_pos hx] at h4; exact absurd h4 (by decide)
     rw [if_neg h6] at hP
     have HX := H4
     simp only [if_neg h6] at HX
     refine iq (aO (aO ?_))
     have YP := HX.drew
     have uJ := V.kp (YP.f13.f13.f13.f13.f13.f13.f13.f13.f13.f13.f13.f13.f13)
     refine xP [5, 10] uJ O (jc 0 O uJ O (jc 1 O uJ O (kN 2 O uJ O (fV 3 O uJ 0 ah O aJ O (fV 4 O uJ 7 aA O aj O (jq 5 O uJ (fun W hW => jV ay O ((Kp.h hW).f4).get.2 O) (jc 6 O uJ O (kN 7 O uJ O (fV 8 O uJ 0 ah O aJ O (fV 9 O uJ 8 aA O aj O (jq 10 O uJ (fun W hW => jV ay O ((Kp.h hW).f4).get.2 O) (jc 11 O uJ O ?_))))))))))))
     have XU := YP.f13.f13.f13.f13.f13.f13.f13.f13.f11.f13.f13
     have XV := V.eY (s := s) dV bP XU
     refine mP 12 O (wu O func21 (oG XV (fun W HW => (HW).aP))) ?_
     rintro _ w8 ⟨rfl, H8⟩
     have Lu := V.kp (H8.f3.f3.f3)
     refine iC Lu (by kernel_rfl) ?_
     refine jW 13 O Lu (fun _ => iV O) (qp (bg (bM O (aV (dO O O) (kK O (fun h5 => ?_) (fun h5 => ?_))))))
     ·(try simp only [aH] at h5)
      have hI : s.mD s.c.fr s.c.to (s.AQ x) ≠ 0 := h5
      refine bM O (iW O (aK (fB results25 O ?_)))
      exact ⟨by rw [hP]; rfl, by rw [show s.Ad x = s from by unfold aY.Ad; rw [if_neg (by rw [hP]; exact hI)]]; have HX := H8.f2.right.f2.right; rw [show s.iw s.c.fr s.c.to (s.c.E.getD (yI s.c.E.length s.c.at_ x) []) = s from Kt hI] at HX; exact HX⟩
     ·(try simp only [aH] at h5)
      have hI : s.mD s.c.fr s.c.to (s.AQ x) = 0 := h5
      have hrg : 0 ≤ s.c.fr ∧ s.c.fr ≤ s.c.L.length := Qn (by unfold aY.mD at hI; rw [if_pos hin] at hI; exact hI)
      obtain ⟨qV, rC, rD, rZ, rE, rF, rG, rH, qA, oZ, o7, o8, o9, pq, pz, pF, pG, pI, pJ, pK, dV, bP, jh, dY⟩ := (H8).Dy
      have hfr := VT s s.c.fr s.c.to (s.AQ x)
      have hEE := X7 s s.c.fr s.c.to (s.AQ x)
      unfold aY.AQ at hfr
      refine iq (bM O (mQ O O (ny O O (bf 0 ah O aJ O (bf 1 aA O sizeOf61 O (aI (dN 1 dY sizeOf61) ?_))))))
      rintro _ w10 sV
      refine dM O (bf 30 ah O aQ O (aI (dN 30 sV aQ) ?_))
      rintro _ I9 yt
      refine dM O (bf 28 ah O aj O (aI (dN 28 yt aj) ?_))
      rintro _ w12 wz
      refine sU O (ny O O (bf 0 ah O aJ O (bf 7 aA O aj O (dQ ay O (wz).get.2 O (cZ O (aV (rX ((wz.f12).aP) aG O) (aV (gX O O (by omega)) (dM O (bf 0 ah O aJ O (bf 8 aA O aj O (aI (dN 8 wz aj) ?_)))))))))))
      rintro _ O8 yY
      refine iT (lF O (fB results25 O ?_))
      have hs : s.Ad x = { s.iw s.c.fr s.c.to (s.AQ x) with lW := true, cls := 2, c := { (s.iw s.c.fr s.c.to (s.AQ x)).c with E := s.c.E, at_ := yI s.c.E.length s.c.at_ x, fr := s.c.fr, to := s.c.fr + (s.AQ x).length } } := by unfold aY.Ad; rw [if_pos (hP.trans hI)]
      have HX := yY.f3.right.f11.right.f10.f10.f10.f10.f10.f10.f10.f10.f11.f11.f11
      rw [hfr] at HX
      exact ⟨by rw [hP, hI], by rw [hs]; exact V.eY (s := { s.iw s.c.fr s.c.to (s.AQ x) with lW := true, cls := 2, c := { (s.iw s.c.fr s.c.to (s.AQ x)).c with E := s.c.E, at_ := yI s.c.E.length s.c.at_ x, fr := s.c.fr, to := s.c.fr + (s.AQ x).length } }) dV bP HX⟩
end
end Go.Proofs.YtimndnfpcomhlaaGreatDoor
end
