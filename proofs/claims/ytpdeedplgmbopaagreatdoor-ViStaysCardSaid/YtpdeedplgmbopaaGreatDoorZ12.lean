import Derived.Test.YtpdeedplgmbopaaGreatDoorZ4
import Derived.Test.YtpdeedplgmbopaaGreatDoorZ11
set_option linter.unusedSimpArgs false
set_option linter.unusedVariables false
/- Texts of mine, joined, their names in short: EdR EdK EdF. -/
section
namespace Go.Proofs.YtpdeedplgmbopaaGreatDoor
open Go.RowKit
open _root_.Go.Proofs.Tryz
theorem Ah {L : List Int} {i j : Int} {l : List Int} (h : nP L i j l ≠ 0) : qB L i j l = [] ∧ qC L i j l = [] := by unfold qB qC; rw [if_neg h, if_neg h]; exact ⟨rfl, rfl⟩
theorem afG {L : List Int} {i j : Int} {l : List Int} (hL : L.length ≤ 1024) (h : 0 < (qB L i j l).length + (qC L i j l).length) : Cj (xK L i j l, qB L i j l, qC L i j l) := by
  by_cases h0 : nP L i j l = 0
  · refine ⟨?_, h, ?_, ?_⟩
    · show 0 ≤ xK L i j l
      unfold xK; rw [if_pos h0]
      unfold nP at h0
      split at h0
      · cases h0
      · omega
    · show (qB L i j l).length ≤ 1024
      unfold qB; rw [if_pos h0]
      simp only [List.length_take, List.length_drop]; omega
    · show (qC L i j l).length ≤ 1024
      unfold qC; rw [if_pos h0]
      unfold nP at h0
      split at h0
      · cases h0
      · split at h0
        · cases h0
        · omega
  · rw [(Ah h0).1, (Ah h0).2] at h
    simp at h
theorem ac1 {L : List Int} {i j : Int} {l : List Int} (hL : L.length ≤ 1024) : (qB L i j l).length ≤ 1024 ∧ (qC L i j l).length ≤ 1024 := by
  by_cases h0 : nP L i j l = 0
  · refine ⟨?_, ?_⟩
    · unfold qB; rw [if_pos h0]
      simp only [List.length_take, List.length_drop]; omega
    · unfold qC; rw [if_pos h0]
      unfold nP at h0
      split at h0
      · cases h0
      · split at h0
        · cases h0
        · omega
  · rw [(Ah h0).1, (Ah h0).2]; simp
theorem Ia {s : bQ} {x : jL} (h : x.2.1.length + x.2.2.length = 0) : s.vJ x = s := by unfold bQ.vJ; rw [if_pos h]
theorem IU {s : bQ} {x : jL} (h : 0 < x.2.1.length + x.2.2.length) (k : ¬ 16384 ≤ iK s.here s.put) : s.vJ x = { s with put := s.put ++ [x] } := by unfold bQ.vJ; rw [if_neg (by omega), if_neg k]
theorem L9 {s : bQ} {x : jL} (h : 0 < x.2.1.length + x.2.2.length) (k : 16384 ≤ iK s.here s.put) : s.vJ x = { s.lV [] with put := [x], c := { (s.lV []).c with run := false } } := by unfold bQ.vJ; rw [if_neg (by omega), if_pos k]
theorem tq (G : List (List jL)) (N : List jL) : iK G N = iK G [] + N.length := by unfold iK; simp
theorem UU {s : bQ} {x : jL} (h : qE s) (hx : 0 < x.2.1.length + x.2.2.length → Cj x) : qE (s.vJ x) := by
  by_cases h0 : x.2.1.length + x.2.2.length = 0
  · rw [Ia h0]; exact h
  · have hx' := hx (by omega)
    obtain ⟨h1, h2, h3, h4, h5, h6⟩ := h
    by_cases hf : 16384 ≤ iK s.here s.put
    · rw [L9 (by omega) hf]
      refine ⟨h1, h2, h3, fun e he => by rw [List.mem_singleton.1 he]; exact hx', ?_, ?_⟩
      · show iK (zD s.c.un s.c.place [] s.c.place) [x] ≤ 16384
        rw [jo]; simp [iK]
      · intro k g hg
        have hg' : g ∈ zD s.c.un s.c.place [] k := hg
        by_cases hk : k = s.c.place
        · subst hk; rw [jo] at hg'; cases hg'
        · rw [zF _ _ hk] at hg'; exact h6 k g hg'
    · rw [IU (by omega) hf]
      refine ⟨h1, h2, h3, fun e he => ?_, ?_, h6⟩
      · rcases List.mem_append.1 he with he | he
        · exact h4 e he
        · rw [List.mem_singleton.1 he]; exact hx'
      · show iK s.here (s.put ++ [x]) ≤ 16384
        rw [Uw]; omega
section
variable {w0 w : World} {F : HP} {e p h pr : Nat} {s : bQ} {i j x : Int} {b : Bool} {v : Value} {l : List Int}
theorem uJ (H : V w0 w (dZ e s • F)) (hr : jO w0 F .i32 v l) : jf prog 188 #[.pointer (some ⟨e, 0, none⟩), .int .i64 i, .int .i64 j, v] w fun v' w' => v' = .int .i64 (s.rD i j l) ∧ V w0 w' (dZ e (s.nR i j l) • F) := by
 refine Ug func188 ntmps188 ?_
 refine kH O (aI (bI O (dX O func81 (mZ H) ?_)))
 rintro _ _ ⟨rfl, rfl⟩
 refine fO O (bI O (aV (fF O O) (iW O (fun h1 => ?_) (fun h1 => ?_))))
 ·(try simp only [Z] at h1)
  obtain ⟨hin, hpe⟩ := AL h1
  refine bI O (fP O (aC (dL results188 O ?_)))
  rw [hpe]
  exact ⟨by simp [bQ.rD, bQ.nR, hin], by rw [show s.nR i j l = s from by simp [bQ.rD, bQ.nR, hin]]; exact H⟩
 ·(try simp only [Z] at h1)
  have hin := yA h1
  refine gy (aI ?_)
  obtain ⟨xE, yB, yC, y9, yD, yE, yF, yG, xG, vM, vN, vO, vP, vS, vT, vU, vV, vW, vX, vY, iT, dQ, lT, jm⟩ := (H).Jp
  have hL : s.c.L.length ≤ 1024 := by obtain ⟨a, c, xs, f, t, h1, h2, h3, h4, h5, h6, h7, hc1, hc2, hl, H1⟩ := (jm.f2).buf; exact h4
  have hE : s.rD i j l = nP s.c.L i j l := by unfold bQ.rD; rw [if_pos hin]
  have hS : s.nR i j l = (s.pR (nY s.c.L i j l) (wH s.c.L s.c.pt i j l) (yc s.c.L s.c.mark i j l)).vJ (xK s.c.L i j l, qB s.c.L i j l, qC s.c.L i j l) := by unfold bQ.nR; rw [if_pos hin]
  have hln := ac1 (i := i) (j := j) (l := l) hL
  have hput : iK s.here s.put ≤ 16384 := iT.2.2.2.2.1
  have hsp : iK s.here s.put = iK (s.c.un s.c.place) [] + s.put.length := tq _ _
  have hok := afG (i := i) (j := j) (l := l) hL
  have hno := Ah (L := s.c.L) (i := i) (j := j) (l := l)
  refine aF (mX O O (bM 0 ay O aY O (bM 0 aS O nX O (eH jX O (jm).get.2 O (jU O O (bW O (dX O func202 (Gl jm.f2 (fun W HW => hr _ (HW.right.right.right.right.right.right.right.right.right.right))) ?_)))))))
  rintro _ w3 ⟨d3, s3, rfl, H3⟩
  refine bW O (oZ O O (oZ O O (kV (iO (l := [_, _, _]) H3 fJ O) ?_)))
  rintro _ w4 ⟨b4, rfl, H4⟩
  refine aQ (dM 0 (l' := [_, _, _]) (us := [_, _, _]) H4 dB O O O (aJ (bG (by first | rfl | exact Rd.one ((H4.f2).aO)) (bG (by first | rfl | exact Rd.one ((H4.f3).aO)) dn))) O O) ?_
  rintro _ w5 H5
  refine tX O (bI O (aV (fB O O) (jY O (fun h2 => ?_) (fun h2 => ?_))))
  ·(try simp only [Z] at h2)
   refine bF (bM 1 bn O bD O (bF (eH ah O (H5).get.2 O (bF (aV (gZ ((H5.f2).aO) ah O) (bF (bM 2 bn O bD O (bF (eH ah O (H5).get.2 O (bF (aV (gZ ((H5.f3).aO) ah O) (bF (aV (fH O O (by omega)) (bF (aV (gK O O) (jQ O O (iW O (fun h3 => ?_) (fun h3 => ?_))))))))))))))))))
   ·(try simp only [Z] at h3)
    have hlen : 0 < (qB s.c.L i j l).length + (qC s.c.L i j l).length := by omega
    refine aI (aI ?_)
    have ahS := H5.drew
    have PI := V.kp (ahS.f9.right.f13.f13.f13.f13.f13.f13.f13.f13.f13.f13.f13.f13.f13)
    refine nG [6] PI O (fD 0 O PI O (fD 3 O PI O (iG 4 O PI O (dJ 5 O PI 33 ay O dA O (fM 6 O PI (fun W hW => fQ aZ O ((Kp.h hW).f5).get.2 O) (dS 7 O PI (fun _ => ku ((ahS.f12).aO) aZ O) (ny 1 O (wM O func134 (y7 ahS.f9.f8.f7)) ?_)))))))
    rintro _ w6 ⟨lp6, rfl, H6⟩
    have jV := V.kp (H6.right.f14.f14.f14.f14.f14.f14.f14.f14.f14.f14.f14.f14.f14.f14)
    refine dK jV (fun W hW => (Kp.h hW).right.f13.f13.f13.f13.f13.f13.f8.f13.f9.f13.f13.f13.f13) ?_
    refine ny 2 O (wM O func203 (O4 H6)) ?_
    rintro _ w7 ⟨rfl, H7⟩
    have Ae := V.kp (H7.f15.f15.f15.f15.f15.f15.f15.f15.f15.f15.f15.f15.f15.f15.f15)
    refine dK Ae (fun W hW => (Kp.h hW).right.f14.f14.f14.f14.f14.f14.f14.f14.f14.f14.f14.f14.f14.f14) ?_
    refine dS 8 O Ae (fun _ => fH O O (by omega)) (dS 9 O Ae (fun _ => mJ O O) ?_)
    have Ho8 := H7.f2
    have Tf := V.KH Ho8
    refine lJ (aU (bg O (fun h4 => ?_) (fun h4 => ?_)))
    ·(try simp only [Z] at h4)
     have WJ : 16384 ≤ iK (s.pR (nY s.c.L i j l) (wH s.c.L s.c.pt i j l) (yc s.c.L s.c.mark i j l)).here (s.pR (nY s.c.L i j l) (wH s.c.L s.c.pt i j l) (yc s.c.L s.c.mark i j l)).put := by show 16384 ≤ iK s.here s.put; omega
     refine bI O (dX O func134 (y7 Tf.f3.f3) ?_)
     rintro _ w10 ⟨ame, rfl, pG⟩
     refine dX O func204 (Ht pG) ?_
     rintro _ FK ru
     have Px := ru.f2
     have NV := V.Ag Px
     refine iR (aF (jU O O (dV O (bM 33 ay O dA O (aQ (iw 33 NV.f2 dA) ?_)))))
     rintro _ OG rU
     refine dV O (bM 0 ay O aY O (bM 10 aS O aT O (aQ (iw 10 rU aT) ?_)))
     rintro _ OM zV
     refine iR ?_
     have agK := zV.drew
     have JO := V.kp (agK.f14.f14.f14.f14.f14.f14.f14.f14.f14.f14.f14.f14.f14.f14)
     refine nG [4, 5] JO O (fD 0 O JO O (fD 1 O JO O (iG 2 O JO O (dJ 3 O JO 33 ay O dA O (fM 4 O JO (fun W hW => fQ aZ O ((Kp.h hW)).get.2 O) (fM 5 O JO (fun W hW => dH bn O dB O O ((Kp.h hW).f4).get.2) (ny 6 O (yU agK aZ dB fJ O O O (by decide) (by decide)) ?_)))))))
     rintro l16 w16 uT
     have yY := V.kp (uT.f15.f15.f15.f15.f15.f15.f15.f15.f15.f15.f15.f15.f15.f15.f15)
     refine dK yY (fun W hW => (Kp.h hW).right.f14.f14.f14.f14.f14.f14.f14.f14.f14.f14.f14.f14.f14.f14) ?_
     refine ny 7 O (jy (uT.kF none) aZ DF O O O ((uT).aO) (aJ (bG (by first | rfl | exact Rd.one ((uT.f6).aO)) (bG (by first | rfl | exact Rd.one ((uT.f7).aO)) dn))) (by omega) (by omega)) ?_
     rintro l17 Yp BX
     have YS := BX.f2.right
     have Gp := V.kp (YS.f15.f15.f15.f15.f15.f15.f15.f15.f15.f15.f15.f15.f15.f15.f15)
     refine gU Gp (by kernel_rfl) ?_
     refine iG 8 O Gp O (dJ 9 O Gp 33 ay O dA O ?_)
     refine dF 10 O (by kernel_rfl) (ig 33 (l' := [_, _, _, _, _, _, _, _, _, _, _, _, _, _, _, _, _, _, _, _, _, _, _, _, _, _, _, _, _, _, _, _, _, _]) YS.f2 dA O O (by first | rfl | exact Rd.one ((YS).aO)) O O) ?_
     rintro _ w19 EP
     have Nc := V.kp (EP.f15.f15.f15.f15.f15.f15.f15.f15.f15.f15.f15.f15.f15.f15.f15)
     refine gU Nc (by kernel_rfl) ?_
     refine lJ (aU (bI O (fP O (dL results188 O ?_))))
     have X := (EP.f5.right.f12.right.f12.right.f12.f12.f12.f6.f12.f8.f12.f12.f9.f10.f12.f12).oC.swap.oC.swap
     have X2 := V.E5 (es := []) X.OX.f3.f3.f4
     exact ⟨by rw [hE]; rfl, by rw [hS, L9 (x := (xK s.c.L i j l, qB s.c.L i j l, qC s.c.L i j l)) hlen WJ]; exact V.acZ (s := { (s.pR (nY s.c.L i j l) (wH s.c.L s.c.pt i j l) (yc s.c.L s.c.mark i j l)).lV [] with put := [(xK s.c.L i j l, qB s.c.L i j l, qC s.c.L i j l)], c := { ((s.pR (nY s.c.L i j l) (wH s.c.L s.c.pt i j l) (yc s.c.L s.c.mark i j l)).lV []).c with run := false } }) (L9 (x := (xK s.c.L i j l, qB s.c.L i j l, qC s.c.L i j l)) hlen WJ ▸ UU (Dt iT _ _ _) hok) O X2⟩
    ·(try simp only [Z] at h4)
     have WJ : ¬ 16384 ≤ iK (s.pR (nY s.c.L i j l) (wH s.c.L s.c.pt i j l) (yc s.c.L s.c.mark i j l)).here (s.pR (nY s.c.L i j l) (wH s.c.L s.c.pt i j l) (yc s.c.L s.c.mark i j l)).put := by show ¬ 16384 ≤ iK s.here s.put; omega
     refine gy ?_
     have Ti := Tf.drew
     have yP := V.kp (Ti.f14.f14.f14.f14.f14.f14.f14.f14.f14.f14.f14.f14.f14.f14)
     refine nG [4, 5] yP O (fD 0 O yP O (fD 1 O yP O (iG 2 O yP O (dJ 3 O yP 33 ay O dA O (fM 4 O yP (fun W hW => fQ aZ O ((Kp.h hW).f2).get.2 O) (fM 5 O yP (fun W hW => dH bn O dB O O ((Kp.h hW).f4).get.2) (ny 6 O (yU Ti aZ dB fJ O O O (by decide) (by decide)) ?_)))))))
     rintro l20 ZP BL
     have zI := V.kp (BL.f15.f15.f15.f15.f15.f15.f15.f15.f15.f15.f15.f15.f15.f15.f15)
     refine dK zI (fun W hW => (Kp.h hW).right.f14.f14.f14.f14.f14.f14.f14.f14.f14.f14.f14.f14.f14.f14) ?_
     refine ny 7 O (jy BL.f13 aZ DF O O O ((BL).aO) (aJ (bG (by first | rfl | exact Rd.one ((BL.f6).aO)) (bG (by first | rfl | exact Rd.one ((BL.f7).aO)) dn))) (by omega) (by omega)) ?_
     rintro l21 w21 wP
     have UL := wP.f2.right
     have KG := V.kp (UL.f14.f14.f14.f14.f14.f14.f14.f14.f14.f14.f14.f14.f14.f14)
     refine gU KG (by kernel_rfl) ?_
     refine iG 8 O KG O (dJ 9 O KG 33 ay O dA O ?_)
     refine dF 10 O (by kernel_rfl) (ig 33 (l' := [_, _, _, _, _, _, _, _, _, _, _, _, _, _, _, _, _, _, _, _, _, _, _, _, _, _, _, _, _, _, _, _, _, _]) UL.f3 dA O O (by first | rfl | exact Rd.one ((UL).aO)) O O) ?_
     rintro _ w23 AQ
     have Fa := V.kp (AQ.f14.f14.f14.f14.f14.f14.f14.f14.f14.f14.f14.f14.f14.f14)
     refine gU Fa (by kernel_rfl) ?_
     refine lJ (aU (bI O (fP O (dL results188 O ?_))))
     have X := (AQ.f5.right.f13.f12.f12.f6.f12.f8.f12.f12.f9.f13.f11.f13.f13).oC.swap.oC.swap
     rw [← lT] at X
     have X2 := V.E5 X.f3
     exact ⟨by rw [hE]; rfl, by rw [hS, IU (x := (xK s.c.L i j l, qB s.c.L i j l, qC s.c.L i j l)) hlen WJ]; exact V.acZ (s := { s.pR (nY s.c.L i j l) (wH s.c.L s.c.pt i j l) (yc s.c.L s.c.mark i j l) with put := s.put ++ [(xK s.c.L i j l, qB s.c.L i j l, qC s.c.L i j l)] }) (IU (x := (xK s.c.L i j l, qB s.c.L i j l, qC s.c.L i j l)) hlen WJ ▸ UU (Dt iT _ _ _) hok) (by rw [List.map_append, dQ]; rfl) X2⟩
   ·(try simp only [Z] at h3)
    have hlen : (qB s.c.L i j l).length + (qC s.c.L i j l).length = 0 := by omega
    refine gy (bI O (fP O (dL results188 O ?_)))
    exact ⟨by rw [hE]; rfl, by rw [hS, Ia (x := (xK s.c.L i j l, qB s.c.L i j l, qC s.c.L i j l)) hlen]; exact V.ji (s := s.pR (nY s.c.L i j l) (wH s.c.L s.c.pt i j l) (yc s.c.L s.c.mark i j l)) (Dt iT _ _ _) dQ H5.right.right.right.f11.f11.f11.f11.f11.f11.f11.f11.f11.f10.f11⟩
  ·(try simp only [Z] at h2)
   have hlen : (qB s.c.L i j l).length + (qC s.c.L i j l).length = 0 := by rw [(hno h2).1, (hno h2).2]; rfl
   refine bK (bK (bK (bK (bK (bK (bK (bK (iH O O (iR (oL (gy (bI O (fP O (dL results188 O ?_))))))))))))))
   exact ⟨by rw [hE]; rfl, by rw [hS, Ia (x := (xK s.c.L i j l, qB s.c.L i j l, qC s.c.L i j l)) hlen]; exact V.ji (s := s.pR (nY s.c.L i j l) (wH s.c.L s.c.pt i j l) (yc s.c.L s.c.mark i j l)) (Dt iT _ _ _) dQ H5.right.right.right.f11.f11.f11.f11.f11.f11.f11.f11.f11.f10.f11⟩
theorem Rn (H : V w0 w (dZ e s • F)) (hr : jO w0 F .i32 v l) : jf prog 206 #[.pointer (some ⟨e, 0, none⟩), v] w fun v' w' => v' = .int .i64 (s.V7 l) ∧ V w0 w' (dZ e (s.DK l) • F) := by
 refine qo func206 ntmps206 ?_
 refine kH O (aI (bI O (dX O func81 (mZ H) ?_)))
 rintro _ _ ⟨rfl, rfl⟩
 refine fO O (bI O (aV (fF O O) (iW O (fun h1 => ?_) (fun h1 => ?_))))
 ·(try simp only [Z] at h1)
  obtain ⟨hin, hpe⟩ := AL h1
  refine bI O (fP O (aC (dL results206 O ?_)))
  rw [hpe]
  exact ⟨by simp [bQ.V7, bQ.DK, bQ.rD, bQ.nR, hin], by rw [show s.DK l = s from by simp [bQ.V7, bQ.DK, bQ.rD, bQ.nR, hin]]; exact H⟩
 ·(try simp only [Z] at h1)
  have hin := yA h1
  refine gy (aI ?_)
  obtain ⟨xE, yB, yC, y9, yD, yE, yF, yG, xG, vM, vN, vO, vP, vS, vT, vU, vV, vW, vX, vY, iT, dQ, lT, jm⟩ := (H).Jp
  have abj := jm.drew
  have Fb := V.kp (abj.f11.f11.f11.f11.f11.f11.f11.f11.f11.f11.f11)
  refine nG [5, 11] Fb O (fD 0 O Fb O (fD 1 O Fb O (iG 2 O Fb O (dJ 3 O Fb 0 ay O aY O (dJ 4 O Fb 0 aS O nX O (fM 5 O Fb (fun W hW => fQ jX O ((Kp.h hW)).get.2 O) (fD 7 O Fb O (iG 8 O Fb O (dJ 9 O Fb 0 ay O aY O (dJ 10 O Fb 0 aS O nX O (fM 11 O Fb (fun W hW => fQ jX O ((Kp.h hW)).get.2 O) (fD 13 O Fb O (ny 6 O (wM O func127 (Az abj.f2)) ?_)))))))))))))
  rintro _ _ ⟨rfl, rfl⟩
  have uQ := V.kp (abj.f11.f11.f11.f11.f11.f11.f11.f11.f11.f11.f11)
  refine dK uQ (fun W hW => (Kp.h hW).f11.f11.f11.f11.f11.f11.f11.f11.f11.f11.f11) ?_
  refine ny 12 O (wM O func127 (Az abj.f2)) ?_
  rintro _ _ ⟨rfl, rfl⟩
  have oH := V.kp (abj.f11.f11.f11.f11.f11.f11.f11.f11.f11.f11.f11)
  refine gU oH (by kernel_rfl) ?_
  have UA := abj.f11.f11.f11.f11.f11.f11.f11.f11.f11.f11.f11
  have QU := V.ji (s := s) iT dQ UA
  refine ny 14 O (wM O func188 (uJ QU (fun W HW => hr _ (HW)))) ?_
  rintro _ w8 ⟨rfl, H8⟩
  have LX := V.kp (H8)
  refine gU LX (by kernel_rfl) ?_
  refine dS 15 O LX (fun _ => aW O) (lJ (aU (iL (dL results206 O ?_))))
  exact ⟨O, H8⟩
theorem UW (H : V w0 w (dZ e s • F)) : jf prog 200 #[.pointer (some ⟨e, 0, none⟩), .int .i64 i, .int .i64 j] w fun v' w' => v' = .int .i64 (s.rD i j []) ∧ V w0 w' (dZ e (s.nR i j []) • F) := by
  refine EU func200 ntmps200 ?_
  refine kH O (bI O (jU O O (dX O func188 (uJ H (fun W _ => gB.nil W _ none 0 (by decide))) ?_)))
  rintro _ w1 ⟨rfl, H1⟩
  refine fP O (dL results200 O ?_)
  exact ⟨O, H1⟩
end
theorem abk {E : List (List Int)} {a : Nat} {way : Int} {l : List Int} (h : (Hf E a way l).1 ≠ 0) : (Hf E a way l).2 = (E, a) := by
  unfold Hf at *
  repeat' split at h
  all_goals first | (simp at h; done) | skip
  all_goals (repeat' (first | rw [if_pos (by assumption)] | rw [if_neg (by assumption)])) <;> rfl
theorem abl {s : bQ} {i j : Int} {back : Bool} (h : (s.yj i j back).1 ≠ 0) : (s.yj i j back).2 = (s.c.E, s.c.at_) := abk h
theorem WM (s : bQ) : s.pR s.c.L s.c.pt s.c.mark = s := rfl
theorem abm {s : bQ} {i j : Int} {l : List Int} (h : s.rD i j l ≠ 0) : s.nR i j l = s := by
  unfold bQ.nR bQ.rD at *
  split
  · rename_i hin
    rw [if_pos hin] at h
    rw [Ia (by rw [(Ah h).1, (Ah h).2]; rfl)]
    unfold nY wH yc
    rw [if_neg h, if_neg h, if_neg h]
    exact WM s
  · rfl
theorem IV {s : bQ} {i j : Int} {back : Bool} (h : s.xO i j back ≠ 0) : s.yu i j back = s := by unfold bQ.yu; rw [if_neg h]
section
variable {w0 w : World} {F : HP} {e p h pr : Nat} {s : bQ} {i j x : Int} {back : Bool} {v : Value} {l : List Int}
theorem Ib (H : V w0 w (dZ e s • F)) : jf prog 185 #[.pointer (some ⟨e, 0, none⟩), .int .i64 i, .int .i64 j, .bool back] w fun v' w' => v' = .int .i64 (s.xO i j back) ∧ V w0 w' (dZ e (s.yu i j back) • F) := by
 refine Ug func185 ntmps185 ?_
 refine kH O (aI (bI O (dX O func81 (mZ H) ?_)))
 rintro _ _ ⟨rfl, rfl⟩
 refine fO O (bI O (aV (fF O O) (iW O (fun h1 => ?_) (fun h1 => ?_))))
 ·(try simp only [Z] at h1)
  obtain ⟨hin, hpe⟩ := AL h1
  refine bI O (fP O (aC (dL results185 O ?_)))
  rw [hpe]
  exact ⟨by simp [bQ.xO, bQ.yu, hin], by rw [show s.yu i j back = s from by simp [bQ.xO, bQ.yu, hin]]; exact H⟩
 ·(try simp only [Z] at h1)
  have hin := yA h1
  refine gy (aI (aI ?_))
  obtain ⟨xE, yB, yC, y9, yD, yE, yF, yG, xG, vM, vN, vO, vP, vS, vT, vU, vV, vW, vX, vY, iT, dQ, lT, jm⟩ := (H).Jp
  have hL : s.c.L.length ≤ 1024 := by obtain ⟨a, c, xs, f, t, h1, h2, h3, h4, h5, h6, h7, hc1, hc2, hl, H1⟩ := (jm.f2).buf; exact h4
  refine aF (bW O (aV (gG O O) (jY O (fun h2 => ?_) (fun h2 => ?_))))
  ·(try simp only [Z] at h2)
   refine bK (bK (bK (bK (bK (bK (bK (bK (jQ O O (bW O (bK (bK (bK (jQ O O (bW O (bK (bK (bK (bK (bK (bK (bK (bK (jQ O O (iR (ET (jS O (aC (dL results185 O ?_))))))))))))))))))))))))))))
   have hb : s.wJ i j := by unfold bQ.wJ; omega
   have hc : s.xO i j back = 70 := by unfold bQ.xO; rw [if_pos hin, if_pos hb]
   exact ⟨by rw [hc], by rw [IV (by rw [hc]; decide)]; exact V.ji iT dQ jm.f11.f11.f11.f11.f11.f11.f11.f11.f11.f11.f11⟩
  ·(try simp only [Z] at h2)
   refine bF (bW O (bF (bW O (bF (dV O (bF (bM 0 ay O aY O (bF (bM 0 aS O nX O (bF (eH jX O (jm).get.2 O (bF (dX O func132 (sH jm.f2) ?_)))))))))))))
   rintro _ w3 ⟨rfl, hD3⟩
   have HD3 := jm.zh hD3
   refine bF (aV (gK O O) (iH O O (jY O (fun h3 => ?_) (fun h3 => ?_))))
   ·(try simp only [Z] at h3)
    refine bK (bK (bK (jQ O O (bW O (bK (bK (bK (bK (bK (bK (bK (bK (jQ O O (iR (ET (jS O (aC (dL results185 O ?_))))))))))))))))))
    have hb : s.wJ i j := by unfold bQ.wJ; omega
    have hc : s.xO i j back = 70 := by unfold bQ.xO; rw [if_pos hin, if_pos hb]
    exact ⟨by rw [hc], by rw [IV (by rw [hc]; decide)]; exact V.ji iT dQ HD3.f11.f11.f11.f11.f11.f11.f11.f11.f11.f11.f11⟩
   ·(try simp only [Z] at h3)
    refine bF (bW O (bF (bW O (bF (aV (gG O O) (iH O O (jY O (fun h4 => ?_) (fun h4 => ?_))))))))
    ·(try simp only [Z] at h4)
     refine bK (bK (bK (bK (bK (bK (bK (bK (jQ O O (iR (ET (jS O (aC (dL results185 O ?_)))))))))))))
     have hb : s.wJ i j := by unfold bQ.wJ; omega
     have hc : s.xO i j back = 70 := by unfold bQ.xO; rw [if_pos hin, if_pos hb]
     exact ⟨by rw [hc], by rw [IV (by rw [hc]; decide)]; exact V.ji iT dQ HD3.f11.f11.f11.f11.f11.f11.f11.f11.f11.f11.f11⟩
    ·(try simp only [Z] at h4)
     refine bF (bW O (bF (bW O (bF (dV O (bF (bM 0 ay O aY O (bF (bM 0 aS O nX O (bF (eH jX O (HD3).get.2 O (bF (dX O func132 (sH HD3.f2) ?_)))))))))))))
     rintro _ w4 ⟨rfl, hD4⟩
     have HD4 := HD3.zh hD4
     refine bF (aV (gK O O) (iH O O (iW O (fun h5 => ?_) (fun h5 => ?_))))
     ·(try simp only [Z] at h5)
      refine jS O (aC (dL results185 O ?_))
      have hb : s.wJ i j := by unfold bQ.wJ; omega
      have hc : s.xO i j back = 70 := by unfold bQ.xO; rw [if_pos hin, if_pos hb]
      exact ⟨by rw [hc], by rw [IV (by rw [hc]; decide)]; exact V.ji iT dQ HD4.f11.f11.f11.f11.f11.f11.f11.f11.f11.f11.f11⟩
     ·(try simp only [Z] at h5)
      refine gy (aI ?_)
      have hb : ¬ s.wJ i j := by unfold bQ.wJ; omega
      have hc : s.xO i j back = (s.yj i j back).1 := by unfold bQ.xO; rw [if_pos hin, if_neg hb]
      refine aF (fO O ?_)
      refine kE [(0, _), (1, _), (2, _)] (fun (_ : Unit) => [(10, .int .i64 (s.way back))]) (fun (_ : Unit) W => W = w4) wW ?_ ?_
      ·rintro _ w5 rfl
       dsimp only [List.cons_append, List.nil_append]
       refine aI (aI ?_)
       have agL := HD4.drew
       have zK := V.kp (agL.f11.f11.f11.f11.f11.f11.f11.f11.f11.f11.f11)
       refine nG [4, 10] zK O (fD 0 O zK O (iG 1 O zK O (dJ 2 O zK 0 ay O aY O (dJ 3 O zK 1 aS O sizeOf73 O (fM 4 O zK (fun W hW => fQ wC O ((Kp.h hW)).get.2 O) (fD 5 O zK O (fD 6 O zK O (iG 7 O zK O (dJ 8 O zK 0 ay O aY O (dJ 9 O zK 0 aS O nX O (fM 10 O zK (fun W hW => fQ jX O ((Kp.h hW)).get.2 O) (fD 12 O zK O (fD 13 O zK O (ny 11 O (wM O func126 (zy agL.f2)) ?_))))))))))))))
       rintro u6 w6 H6
       have jV := V.kp (H6.f12.f12.f12.f12.f12.f12.f12.f12.f12.f12.f12.f12)
       refine dK jV (fun W hW => (Kp.h hW).right.f11.f11.f11.f11.f11.f11.f11.f11.f11.f10.f11) ?_
       refine dS 14 O jV (fun _ => pF ((H6).aO) ah bP O O O (by omega)) ?_
       refine ny 15 O (wM O func199 (Rf H6.f4 (fun W HW => gB.cut ((HW).aO) (by omega) (by omega)))) ?_
       rintro _ w7 ⟨rfl, H7⟩
       have Ae := V.kp (H7.f12.f12.f12.f12.f12.f12.f12.f12.f12.f12.f12.f12)
       refine gU Ae (by kernel_rfl) ?_
       refine dS 16 O Ae (fun _ => aW O) (lJ (aU (bI O (aV (fF O O) (iW O (fun h6 => ?_) (fun h6 => ?_))))))
       ·(try simp only [Z] at h6)
        refine bI O (fP O (aC (dL results185 O ?_)))
        exact ⟨by rw [hc]; rfl, by rw [IV (by rw [hc]; assumption)]; have HX := H7.f2.right.f11.f11.f11.f11.f11.f11.f11.f11.f9.f10.f11; rw [show Hf s.c.E s.c.at_ (s.way back) ((s.c.L.drop i.toNat).take (j.toNat - i.toNat)) = s.yj i j back from O, abl (by assumption)] at HX; exact V.ji iT dQ HX⟩
       ·(try simp only [Z] at h6)
        refine gy (bI O (mX O O (bM 29 ay O aT O (aQ (iw 29 H7.f4 aT) ?_))))
        rintro _ w8 H8
        refine dV O (bM 28 ay O aj O (aQ (iw 28 H8 aj) ?_))
        rintro _ w9 H9
        refine iR (jS O (dL results185 O ?_))
        have hc0 : s.xO i j back = 0 := by rw [hc]; assumption
        have hs : s.yu i j back = { s.Oc (s.yj i j back).2.1 (s.yj i j back).2.2 with killed := true, cls := 1 } := by unfold bQ.yu; rw [if_pos hc0]
        exact ⟨by rw [hc0], by rw [hs]; exact V.ji (s := { s.Oc (s.yj i j back).2.1 (s.yj i j back).2.2 with killed := true, cls := 1 }) iT dQ H9.f3.right.f11.f11.f11.f11.f11.f11.f11.f11.f10.f11.f11⟩
      ·skip
       refine bI O (dV O (bM 0 ay O aY O (bM 6 aS O aj O (eH aA O (HD4).get.2 O (aV (fB O O) (jY O (fun h7 => ?_) (fun h7 => ?_)))))))
       ·(try simp only [Z] at h7)
        refine bK (bK (bK (bK (jQ O O (iR (ET (kH O (bI O (iW O (fun h8 => ?_) (fun h8 => ?_))))))))))
        ·(try simp only [Z] at h8)
         refine aF (gW O (bT ?_))
         refine dG (()) ?_ ?_ ?_
         ·exact (Sub.kJ O (by unfold bQ.way; simp_all) (Sub.nil _))
         ·exact wW
         ·(try dsimp only)
          first | done | exact rfl
        ·(try simp only [Z] at h8)
         refine bU ?_
         refine dG (()) ?_ ?_ ?_
         ·exact (Sub.kJ O (by unfold bQ.way; simp_all) (Sub.nil _))
         ·exact wW
         ·(try dsimp only)
          first | done | exact rfl
       ·(try simp only [Z] at h7)
        refine bF (bW O (bF (dV O (bF (bM 29 ay O aT O (bF (eH bJ O (HD4).get.2 O (iH O O (iW O (fun h9 => ?_) (fun h9 => ?_))))))))))
        ·(try simp only [Z] at h9)
         refine kH O (bI O (iW O (fun h10 => ?_) (fun h10 => ?_)))
         ·(try simp only [Z] at h10)
          refine aF (gW O (bT ?_))
          refine dG (()) ?_ ?_ ?_
          ·exact (Sub.kJ O (by unfold bQ.way; simp_all) (Sub.nil _))
          ·exact wW
          ·(try dsimp only)
           first | done | exact rfl
         ·(try simp only [Z] at h10)
          refine bU ?_
          refine dG (()) ?_ ?_ ?_
          ·exact (Sub.kJ O (by unfold bQ.way; simp_all) (Sub.nil _))
          ·exact wW
          ·(try dsimp only)
           first | done | exact rfl
        ·(try simp only [Z] at h9)
         refine bU ?_
         refine dG (()) ?_ ?_ ?_
         ·exact (Sub.kJ O (by unfold bQ.way; simp_all) (Sub.nil _))
         ·exact wW
         ·(try dsimp only)
          first | done | exact rfl
theorem WO (H : V w0 w (dZ e s • F)) : jf prog 186 #[.pointer (some ⟨e, 0, none⟩), .int .i64 i, .int .i64 j, .bool back] w fun v' w' => v' = .int .i64 (s.Nb i j back) ∧ V w0 w' (dZ e (s.zG i j back) • F) := by
  refine Ug func186 ntmps186 ?_
  refine kH O (aI (bI O (jU O O (bW O (dX O func185 (Ib H) ?_)))))
  rintro _ w1 ⟨rfl, H1⟩
  refine fO O (bI O (aV (fF O O) (iW O (fun h1 => ?_) (fun h1 => ?_))))
  · (try simp only [Z] at h1)
    have hc := h1
    refine bI O (fP O (aC (dL results186 O ?_)))
    exact ⟨by unfold bQ.Nb; rw [if_neg hc], by unfold bQ.zG; rw [if_neg hc]; have HX := H1; rw [IV hc] at HX; exact HX⟩
  · (try simp only [Z] at h1)
    have hc := h1
    refine gy (bI O (jU O O (dX O func200 (UW H1) ?_)))
    rintro _ w2 ⟨rfl, H2⟩
    refine fP O (dL results186 O ?_)
    exact ⟨by unfold bQ.Nb; rw [if_pos hc], by unfold bQ.zG; rw [if_pos hc]; exact H2⟩
theorem WR {E : List (List Int)} (h : ∀ x ∈ E, x.length ≤ 1024) (k : Nat) : (E.getD k []).length ≤ 1024 := by
  rw [List.getD_eq_getElem?_getD]
  cases hk : E[k]? with
  | none => simp
  | some x => exact h x (List.mem_of_getElem? hk)
theorem WS (H : V w0 w (dZ e s • F)) : jf prog 191 #[.pointer (some ⟨e, 0, none⟩)] w fun v' w' => v' = .int .i64 s.xg ∧ V w0 w' (dZ e s.oI • F) := by
 refine jE func191 ntmps191 ?_
 refine kH O (aI (bI O (dX O func81 (mZ H) ?_)))
 rintro _ _ ⟨rfl, rfl⟩
 refine fO O (bI O (aV (fF O O) (iW O (fun h1 => ?_) (fun h1 => ?_))))
 ·(try simp only [Z] at h1)
  obtain ⟨hin, hpe⟩ := AL h1
  refine bI O (fP O (aC (dL results191 O ?_)))
  rw [hpe]
  exact ⟨by simp [bQ.xg, bQ.oI, hin], by rw [show s.oI = s from by simp [bQ.xg, bQ.oI, hin]]; exact H⟩
 ·(try simp only [Z] at h1)
  have hin := yA h1
  refine gy (aI ?_)
  obtain ⟨xE, yB, yC, y9, yD, yE, yF, yG, xG, vM, vN, vO, vP, vS, vT, vU, vV, vW, vX, vY, iT, dQ, lT, jm⟩ := (H).Jp
  have hL : s.c.L.length ≤ 1024 ∧ 0 ≤ s.c.pt ∧ s.c.pt ≤ s.c.L.length := by obtain ⟨a, c, xs, f, t, h1, h2, h3, h4, h5, h6, h7, hc1, hc2, hl, H1⟩ := (jm.f2).buf; exact ⟨h4, h6⟩
  have hR := WR (OW (jm.f3)).2.2 s.c.at_
  have hY : s.xg = if s.c.E.length = 0 then 6 else s.V7 s.top := by unfold bQ.xg; rw [if_pos hin]
  refine aF (mX O O (bM 0 ay O aY O (bM 1 aS O sizeOf73 O (eH wC O (jm).get.2 O (dX O func205 (Ri jm.f3) ?_)))))
  rintro _ w3 ⟨u3, rfl, H3⟩
  refine bW O (oZ O O (oZ O O (gW O (tX O (bI O (aV (fF O O) (iW O (fun h2 => ?_) (fun h2 => ?_))))))))
  ·(try simp only [Z] at h2)
   have h6 : s.c.E.length = 0 := by by_cases hx : s.c.E.length = 0; exact hx; exact absurd (if_neg hx) h2
   rw [if_pos h6] at hY
   refine bI O (fP O (aC (dL results191 O ?_)))
   exact ⟨by rw [hY]; show Value.int _ (if s.c.E.length = 0 then 6 else 0) = _; rw [if_pos h6], by rw [show s.oI = s from by unfold bQ.oI; rw [if_neg (by rw [hY]; decide)]]; exact V.ji iT dQ H3.right.f11.f11.f11.f11.f11.f11.f11.f11.f9.f11.f11⟩
  ·(try simp only [Z] at h2)
   have h6 : ¬ s.c.E.length = 0 := fun hx => by rw [if_pos hx] at h2; exact absurd h2 (by decide)
   rw [if_neg h6] at hY
   refine gy (bI O (dV O (bM 0 ay O aY O (bM 0 aS O nX O (eH jX O (H3.f3).get.2 O (dX O func127 (Az H3.f4) ?_))))))
   rintro _ _ ⟨rfl, rfl⟩
   refine gW O ?_
   have UA := H3.f12.f12.f12.f12.f12.f12.f12.f12.f10.f12.f12
   have QU := V.ji (s := s) iT dQ UA
   refine rW (bI O (bW O (dX O func206 (Rn QU (fun W HW => (HW).aO)) ?_)))
   rintro _ w8 ⟨rfl, H8⟩
   refine fO O (bI O (aV (fF O O) (iW O (fun h3 => ?_) (fun h3 => ?_))))
   ·(try simp only [Z] at h3)
    have hI : s.V7 s.top ≠ 0 := h3
    refine bI O (fP O (aC (dL results191 O ?_)))
    exact ⟨by rw [hY]; rfl, by rw [show s.oI = s from by unfold bQ.oI; rw [if_neg (by rw [hY]; exact hI)]]; have HX := H8.f2.right; rw [show s.DK (s.c.E.getD s.c.at_ []) = s from abm hI] at HX; exact HX⟩
   ·(try simp only [Z] at h3)
    have hI : s.V7 s.top = 0 := h3
    obtain ⟨xE, yB, yC, y9, yD, yE, yF, yG, xG, vM, vN, vO, vP, vS, vT, vU, vV, vW, vX, vY, iT, dQ, lT, jm⟩ := (H8).Jp
    refine gy (bI O (dV O (bM 0 ay O aY O (bM 0 aS O nX O (eH jX O (jm).get.2 O (bW O (dX O func207 (NJ jm.f2) ?_)))))))
    rintro _ w10 ⟨rfl, pG⟩
    refine uS O (mX O O (bM 30 ay O aT O (aQ (iw 30 pG.f2 aT) ?_)))
    rintro _ FK ru
    refine dV O (bM 28 ay O aj O (aQ (iw 28 ru aj) ?_))
    rintro _ w12 wQ
    refine uS O (jU O O (jU O O (aV (gZ ((wQ.f12).aO) ah O) (aV (fH O O (by omega)) (dV O (bM 0 ay O aY O (bM 7 aS O aj O (aQ (iw 7 wQ aj) ?_))))))))
    rintro _ OL wB
    refine dV O (bM 0 ay O aY O (bM 8 aS O aj O (aQ (iw 8 wB aj) ?_)))
    rintro _ OG rU
    refine iR (jS O (dL results191 O ?_))
    have hs : s.oI = { s.DK s.top with mM := true, cls := 2, c := { (s.DK s.top).c with mark := smM (s.DK s.top).c.L (s.DK s.top).c.mark s.c.pt, fr := s.c.pt, to := s.c.pt + s.top.length } } := by unfold bQ.oI; rw [if_pos (hY.trans hI)]
    exact ⟨by rw [hY, hI], by rw [hs]; exact V.ji (s := { s.DK s.top with mM := true, cls := 2, c := { (s.DK s.top).c with mark := smM (s.DK s.top).c.L (s.DK s.top).c.mark s.c.pt, fr := s.c.pt, to := s.c.pt + s.top.length } }) iT dQ rU.f12.right.f11.f11.f11.f11.f11.f11.f11.f11.f11.f11.f11⟩
end
theorem afH : (prog.info? 189).map (fun i => (i.zero, i.size, i.bytes)) = some (some (.agg #[.int .i64 0, .slice none 0 0, .slice none 0 0]), 3, 56) := by kernel_rfl
def aao (c : Nat) (g : List jL) : HP := zX fun (x : Value × List gX) => fact (x.2.map gX.says = g) • gJ c (.cells #[x.1] 80 (0, 0)) • Row 189 3 x.1 x.2.length (x.2.flatMap gX.enc) • nD x.2
section
variable {w0 w : World} {F : HP} {e p c n m : Nat} {s : bQ} {i j x : Int} {on : Bool} {v : Value} {g : List jL} {EK es : List gX} {xs : List Value}
theorem Gt (H : V w0 w F) (hr : Ua w0 F 3 v n xs) (hon : ∀ u ∈ xs, u.oneCell' = true) (hb : n ≤ 1099511627776) :
    jf prog 122 #[v] w fun v' w' => V w0 w' (Row 189 3 v' n xs • F) := by
  obtain ⟨hlen, a, c, rfl, h2, h3, h4⟩ := hr w H
  refine jE func122 ntmps122 ?_
  refine kH O (aI (bI O (aV (GK aZ O O) ?_)))
  refine iW O (fun h1 => ?_) (fun h1 => ?_)
  · (try simp only [Z] at h1)
    refine jS O (aC (dL results122 O ?_))
    obtain rfl : a = none := by simpa using h1
    obtain rfl : n = 0 := by
      rcases Nat.eq_zero_or_pos n with h | h
      · exact h
      · obtain ⟨b, o, e, _⟩ := h4 h; cases e
    obtain rfl : xs = [] := List.eq_nil_of_length_eq_zero (by omega)
    exact H.kF none
  · (try simp only [Z] at h1)
    refine gy (jg (kV (Ph H aZ dB fJ) ?_))
    rintro _ w1 H1
    refine bW O (kV (jy H1 aZ afH O O O (hr.under _ H1) hon (by omega) (by omega)) ?_)
    rintro _ w2 H2
    refine fP O (dL results122 O ?_)
    exact H2.of_eq (by rw [Nat.zero_add, List.nil_append])
theorem V.old (H : V w0 w (aao c g • F)) : ∃ v es, es.map gX.says = g ∧ V w0 w (gJ c (.cells #[v] 80 (0, 0)) • Row 189 3 v es.length (es.flatMap gX.enc) • nD es • F) := by
  obtain ⟨⟨v, es⟩, H⟩ := H.qY
  obtain ⟨h, H⟩ := H.flat.fact
  exact ⟨v, es, h, H.of_eq (by simp only [dY])⟩
theorem V.ac2 (h : es.map gX.says = g) (H : V w0 w (gJ c (.cells #[v] 80 (0, 0)) • Row 189 3 v es.length (es.flatMap gX.enc) • nD es • F)) : V w0 w (aao c g • F) :=
  V.kT (v, es) (V.deep (V.oQ h (H.of_eq (by simp only [dY]))))
theorem V.afI (hg : g = []) (H : V w0 w (gJ c (.cells #[.slice none 0 0] 80 (0, 0)) • F)) : V w0 w (aao c g • F) :=
  V.ac2 (v := .slice none 0 0) (es := []) hg.symm ((H.xB none).of_eq (by unfold QT; ac_rfl))
theorem V.Oe (hm : m = es.length) (H : V w0 w (Row 189 3 v (EK.length + m) (EK.flatMap gX.enc ++ es.flatMap gX.enc) • nD EK • nD es • F)) : V w0 w (Row 189 3 v (EK ++ es).length ((EK ++ es).flatMap gX.enc) • nD (EK ++ es) • F) := by
  subst hm
  have h1 : V w0 w (nD EK • nD es • Row 189 3 v (EK.length + es.length) (EK.flatMap gX.enc ++ es.flatMap gX.enc) • F) := H.of_eq (by ac_rfl)
  have h2 : V w0 w (nD (EK ++ es) • Row 189 3 v (EK.length + es.length) (EK.flatMap gX.enc ++ es.flatMap gX.enc) • F) := h1.JD (vH (fun I h g => h.app g) _)
  exact h2.swap.of_eq (by rw [List.length_append, List.flatMap_append])
def ac3 (s : bQ) (on : Bool) (EK : List gX) (G1 : List (List jL)) : Prop := iK G1 [] + EK.length = iK s.here [] ∧ (∀ e ∈ EK, Cj e.says) ∧ s.jr on = G1 ++ [EK.map gX.says ++ s.put]
theorem abn (hp : s.put ≠ []) (hn : on = false) : ac3 s on [] s.here := by
  subst hn
  refine ⟨by simp, by simp, ?_⟩
  unfold bQ.jr
  rw [if_neg hp, if_neg (by decide)]
  rfl
theorem Cm : ∀ {G : List (List jL)}, G ≠ [] → (G.dropLast.map List.length).sum + (G.getLastD []).length = (G.map List.length).sum := by
  intro G hG
  have h := List.dropLast_concat_getLast hG
  have h2 : G.getLastD [] = G.getLast hG := by rw [List.getLastD_eq_getLast?, List.getLast?_eq_some_getLast hG]; rfl
  rw [h2]
  conv => rhs; rw [← h]
  simp
theorem WT (hp : s.put ≠ []) (hn : on = true) (hO : ∀ g ∈ s.here, ∀ e ∈ g, Cj e) (h : EK.map gX.says = s.here.getLastD []) : ac3 s on EK s.here.dropLast := by
  subst hn
  have hlen : EK.length = (s.here.getLastD []).length := by rw [← h]; simp
  have hm : ∀ e ∈ EK, e.says ∈ s.here.getLastD [] := fun e he => by rw [← h]; exact List.mem_map.2 ⟨e, he, rfl⟩
  unfold ac3 bQ.jr
  rw [if_neg hp, if_pos rfl]
  by_cases h0 : s.here = []
  · rw [h0] at h hlen hm
    have : EK = [] := List.eq_nil_of_length_eq_zero (by simpa using hlen)
    subst this
    rw [h0]
    exact ⟨by simp, by simp, rfl⟩
  · have h2 : s.here.getLastD [] = s.here.getLast h0 := by rw [List.getLastD_eq_getLast?, List.getLast?_eq_some_getLast h0]; rfl
    refine ⟨?_, fun e he => hO _ (List.getLast_mem h0) _ (h2 ▸ hm e he), ?_⟩
    · have := Cm h0
      show (s.here.dropLast.map List.length).sum + 0 + EK.length = (s.here.map List.length).sum + 0
      rw [hlen]; omega
    · rw [List.getLast?_eq_some_getLast h0, h, h2]
theorem PK (G : List (List jL)) : JJ G [] = G.reverse := by unfold JJ qL; rw [if_pos rfl]
theorem YT (G : List (List jL)) : (JJ G []).getD 0 [] = G.getLastD [] := by
  rw [PK, List.getD_eq_getElem?_getD, List.getLastD_eq_getLast?]
  congr 1
  cases G.eq_nil_or_concat with
  | inl h => subst h; rfl
  | inr h => obtain ⟨L, b, rfl⟩ := h; simp
theorem ac4 {G : List (List jL)} (h : UOk G [] 0) : (∀ g ∈ JJ G [], ∀ e ∈ g, EB e) ∧ ∀ g ∈ JJ G [], g.length ≤ 16384 := by
  rw [PK]
  refine ⟨fun g hg => h.2.2.2.2.1 g (List.mem_reverse.1 hg), fun g hg => ?_⟩
  have h1 := Ob (List.mem_reverse.1 hg)
  have h2 := h.2.1
  unfold iK at h2
  simp at h2; omega
theorem UY (G : List (List jL)) (N : List jL) : ahz G N (0 + 1) = qL G N ∧ ahA N (0 + 1) = [] ∧ afx (0 + 1) = 0 := ⟨if_pos rfl, if_pos rfl, by unfold afx; rw [if_neg (by decide)]; rfl⟩
theorem Mc (G : List (List jL)) : ZX G [] = G.dropLast ∧ ZY G [] = [] ∧ Z4 G [] 0 = 0 := by
  unfold ZX ZY Z4 qL
  by_cases h : G.length + ([] : List jL).length = 0
  · have : G = [] := List.eq_nil_of_length_eq_zero (by simpa using h)
    subst this
    simp
  · rw [if_neg h, if_neg h, if_neg h, if_pos rfl]; simp
theorem FY {s : bQ} (h : s.put = []) : s.eX on = s := by unfold bQ.eX; rw [if_pos h]
theorem pV {s : bQ} (h : s.put ≠ []) : s.eX on = { s.lV (s.jr on) with put := [] } := by unfold bQ.eX; rw [if_neg h]
theorem KP (G : List (List jL)) (g : List jL) : iK (G ++ [g]) [] = iK G [] + g.length := by unfold iK; simp
theorem PL (h : qE s) {G1 : List (List jL)} (hF : ac3 s on EK G1) (hp : s.put ≠ []) (hG : ∀ g ∈ G1, ∀ e ∈ g, Cj e) : qE (s.eX on) := by
  rw [pV hp]
  obtain ⟨h1, h2, h3, h4, h5, h6⟩ := h
  obtain ⟨f1, f2, f3⟩ := hF
  refine ⟨h1, h2, h3, by simp, ?_, ?_⟩
  · show iK (zD s.c.un s.c.place (s.jr on) s.c.place) [] ≤ 16384
    rw [jo, f3, KP]
    have := tq s.here s.put
    simp; omega
  · intro k g hg e he
    have hg' : g ∈ zD s.c.un s.c.place (s.jr on) k := hg
    by_cases hk : k = s.c.place
    · subst hk
      rw [jo, f3] at hg'
      rcases List.mem_append.1 hg' with hg' | hg'
      · exact hG g hg' e he
      · rw [List.mem_singleton.1 hg'] at he
        rcases List.mem_append.1 he with he | he
        · obtain ⟨q, hq, rfl⟩ := List.mem_map.1 he; exact f2 q hq
        · exact h4 e he
    · rw [zF _ _ hk] at hg'; exact h6 k g hg' e he
theorem Fe {es : List gX} {k : Nat} (hk : k < es.length) : (es.take (k + 1)).map gX.says = (es.take k).map gX.says ++ [(es.getD k default).says] := by
  rw [List.take_succ_eq_append_getElem hk, List.map_append, List.getD_eq_getElem?_getD, List.getElem?_eq_getElem hk]; rfl
theorem sJ (H : V w0 w (dZ e s • F)) : jf prog 84 #[.pointer (some ⟨e, 0, none⟩), .bool on] w fun _ w' => V w0 w' (dZ e (s.eX on) • F) := by
  refine qo func84 ntmps84 ?_
  refine aI (aI ?_)
  obtain ⟨xE, yB, yC, y9, yD, yE, yF, yG, xG, vM, vN, vO, vP, vS, vT, vU, vV, vW, vX, vY, iT, dQ, lT, jm⟩ := (H).Jp
  have hput : iK s.here s.put ≤ 16384 := iT.2.2.2.2.1
  have hsp := tq s.here s.put
  have hO : ∀ g ∈ s.here, ∀ x ∈ g, Cj x := iT.2.2.2.2.2 s.c.place
  have hPO : ∀ x ∈ xG, Cj x.says := fun x hx => iT.2.2.2.1 _ (by rw [← dQ]; exact List.mem_map.2 ⟨x, hx, rfl⟩)
  have ajf := (jm.f10).Hl
  refine aF (mX O O (bM 33 ay O dA O (eH aZ O (jm).get.2 O (aV (ku ((jm.f9).aO) aZ O) (aV (fB O O) (iW O (fun h1 => ?_) (fun h1 => ?_)))))))
  · (try simp only [Z] at h1)
    refine iL (aC (we0 results84 ?_))
    rw [FY (List.eq_nil_of_length_eq_zero (by omega))]
    exact V.ji iT dQ jm.f11.f11.f11.f11.f11.f11.f11.f11.f11.f11.f11
  · (try simp only [Z] at h1)
    have hp : s.put ≠ [] := by rintro hz; rw [hz] at h1; simp at h1
    refine gy (bI O (dX O func134 (y7 jm.f6.f5.f3) ?_))
    rintro _ w2 ⟨lp2, rfl, H2⟩
    refine fO O (jg (kV (iO (l := [_]) H2 qQ O) ?_))
    rintro _ w3 ⟨b3, rfl, H3⟩
    refine rW (aI ?_)
    obtain ⟨R4, hR4, HR4⟩ := V.aiQ (H3.f2.f2)
    refine aF (bW O (iW O (fun h2 => ?_) (fun h2 => ?_)))
    · (try simp only [Z] at h2)
      have hn : on = true := h2
      refine aI (bI O (dX O func135 (NT HR4.f2) ?_))
      rintro _ w5 ⟨bG5, rfl, H5⟩
      refine iR (bf ?_)
      obtain ⟨_, _, _, _, k1, _⟩ := (H5.f2).BM
      obtain ⟨hB, hL⟩ := ac4 k1
      have HF0 := V.oQ (q := (0 : Nat) = 0) rfl H5
      obtain ⟨R6, hR6, HR6⟩ := V.Oq (HF0.f4.f2.f3)
      refine FQ O (Wn bG5 hB hL) (fun j => fact (j = 0) • gJ b3 (.cells #[.slice none 0 0] 80 (0, 0)) • R6) (fact False) (fun id => if id = 0 then aao b3 (s.here.getLastD []) • R6 else fact False) (HR6.f3.f3.f3.f3.f3.f3.comm) (by rfl) ?_ ?_ ?_ ?_
      · rintro l7 j ahx vs7 A7 ⟨u1, fs1, ajp, rfl, rfl⟩ G7 w7 H7
        try simp only [dY, tV, BR] at H7
        refine ⟨O, ?_⟩
        dsimp only [YB]
        have HQ := (H7).edL
        obtain rfl : j = 0 := (HQ.f3).fact.1
        have hon := (HQ.f2).Hl
        have hlen1 : fs1.length ≤ 16384 := by
          have h9 := hL _ (Ad (d := []) ahx)
          rw [← ajp] at h9
          simpa using h9
        refine aF (gW O (bT ?_))
        refine YA (HQ.g5) ?_
        intro G8 w8 H8
        try simp only [dY] at H8
        refine bf (bI O (dX O func122 (Gt H8 (fun W HW => (HW).aO) hon (by omega)) ?_))
        rintro u9 w9 H9
        refine aQ (ig 0 (l' := [_]) H9.f5 dA O O (by first | rfl | exact Rd.one ((H9).aO)) O O) ?_
        rintro _ w10 pG
        refine iR (dR ?_)
        refine Ew (by decide) ?_
        refine acH ?_
        rw [if_pos rfl]
        exact (V.ac2 (ajp.trans (YT _)) pG.f3.right.f4.right.f3.f3.f3).deep
      · rintro D11 FK ru
        have acy := ru.ed
        try simp only [dY, tV, BR] at acy
        have ajq := acy.ZJ
        have hz := (ajq.f3).fact.1
        rw [PK, List.length_reverse] at hz
        have hg0 : s.here.getLastD [] = [] := by show (s.c.un s.c.place).getLastD [] = []; rw [List.eq_nil_of_length_eq_zero hz]; rfl
        have Px := ajq.f4
        have NV := V.afI hg0 Px
        have afJ := NV.f4.right
        subst hR6
        subst hR4
        refine aH (aU (aF (bW O (dX O func136 (EH afJ.f4) ?_))))
        rintro _ OM ⟨u15, aks, rfl, acQ, zV⟩
        have akS := zV.right
        have Yz := akS.right
        have YS := Yz.f4.right
        obtain ⟨h9a, h9b, h9c⟩ := Mc (s.c.un s.c.place)
        have HX := YS
        rw [h9a, h9b, h9c] at HX
        obtain ⟨ov, EK, ahT, HO⟩ := (HX.f2).old
        have hF := WT hp hn hO ahT
        have hG1 : ∀ g ∈ s.here.dropLast, ∀ x ∈ g, Cj x := fun g hg => hO g (List.dropLast_subset _ hg)
        obtain ⟨G1, ahU⟩ : ∃ q, q = (s.c.un s.c.place).dropLast := ⟨_, rfl⟩
        rw [show s.here.dropLast = (s.c.un s.c.place).dropLast from rfl] at hF hG1
        have HX2 := HO
        rw [← ahU] at hF hG1 HX2
        refine rW ?_
        obtain ⟨hF1, hF2, hF3⟩ := hF
        have hl1 : EK.length ≤ 16384 := by omega
        have hl2 : s.put.length ≤ 16384 := by omega
        refine aF (bW O (dX O func137 (DC HX2.f4 (by omega)) ?_))
        rintro _ w19 ⟨rfl, EP⟩
        refine rW (aI ?_)
        have Ti := EP.drew
        have yP := V.kp (Ti.f16.f16.f16.f16.f16.f16.f16.f16.f16.f16.f16.f16.f16.f16.f16.f16)
        refine nG [0, 4] yP O (fM 0 O yP (fun W hW => fQ aZ O ((Kp.h hW).f2).get.2 O) (fD 1 O yP O (iG 2 O yP O (dJ 3 O yP 33 ay O dA O (fM 4 O yP (fun W hW => fQ aZ O ((Kp.h hW).f7).get.2 O) (fD 7 O yP O (ny 5 O (jy Ti.f3 aZ DF O O O ((Ti.f14).aO) (by assumption) (by omega) (by omega)) ?_)))))))
        rintro l20 ZP BL
        have zI := V.kp (BL.f16.f16.f16.f16.f16.f16.f16.f16.f16.f16.f16.f16.f16.f16.f16.f16)
        refine gU zI (by kernel_rfl) ?_
        have ac5 := BL.f15.f5.f3
        have abo := V.Oe lT.symm ac5
        obtain ⟨AE, hAE⟩ : ∃ q, q = EK ++ xG := ⟨_, rfl⟩
        have HA := abo
        rw [← hAE] at HA
        have hAl : AE.length = EK.length + s.put.length := by rw [hAE, List.length_append, lT]
        have hAs : AE.map gX.says = EK.map gX.says ++ s.put := by rw [hAE, List.map_append, dQ]
        have hAO : ∀ x ∈ AE, Cj x.says := fun x hx => by
          rw [hAE] at hx
          rcases List.mem_append.1 hx with hx | hx
          · exact hF2 x hx
          · exact hPO x hx
        refine dS 6 O zI (fun _ => ku ((HA).aO) aZ O) (lJ (aU (bf ?_)))
        obtain ⟨R23, akT, akU⟩ := V.Oq (HA.f2.f2.f3)
        refine iy [(0, _), (4, _), (32, _), (33, _)] (fun (i : Nat) => [(34, .int .i64 (i : Int))]) (fun (i : Nat) W => i ≤ AE.length ∧ V w0 W (kC lp2 G1 ((AE.take i).map gX.says) (0 + 1) • Row 189 3 l20 AE.length (AE.flatMap gX.enc) • nD AE • R23)) (fun (i : Nat) => AE.length - i) (0) FC lH ⟨by omega, akU⟩ ?_
        rintro i w24 ⟨hi, HL⟩
        dsimp only [List.cons_append, List.nil_append]
        refine jg (aV (gG O O) (rW (bg O (fun h3 => ?_) (fun h3 => ?_))))
        · (try simp only [Z] at h3)
          refine gy (aI (bf (jg ?_)))
          obtain ⟨amf, amg, amh, akV⟩ := Rd.qN ((HL.f2).aO) (by omega)
          cases akV
          refine aV (dI aZ dB O O (by omega)) (aV (pI (ys := [_, _, _]) ((HL.f2).aO) (by omega) bn O dB O (rY gX.AB (by omega) default) O) ?_)
          have hkl : i < AE.length := by omega
          have hx : Cj (AE.getD i default).says := hAO _ (by rw [List.getD_eq_getElem?_getD, List.getElem?_eq_getElem hkl]; exact List.getElem_mem hkl)
          have hx1 : (AE.getD i default).dl.length ≤ 1024 := hx.2.2.1
          have hx2 : (AE.getD i default).il.length ≤ 1024 := hx.2.2.2
          refine kV (iO (l := [_, _, _]) HL fJ O) ?_
          rintro _ w25 ⟨b25, rfl, LU⟩
          refine aQ (dM 0 (l' := [_, _, _]) (us := [_, _, _]) LU dB O O O (aJ (bG (by first | rfl | exact Rd.one (((LU.f4).oD hkl).1)) (bG (by first | rfl | exact Rd.one (((LU.f4).oD hkl).2)) dn))) O O) ?_
          rintro _ w26 QS
          refine iR (aF (bW O (aV (dH bn O dB O O (QS).get.2) (dX O func138 (FP QS.f2 (fun W HW => ((HW.f3).oD hkl).1) (fun W HW => ((HW.f3).oD hkl).2) (by omega) (by omega)) ?_))))
          rintro _ w27 ⟨rfl, LV⟩
          have hadd : Bv G1 ((AE.take i).map gX.says) (AE.getD i default).a (AE.getD i default).dl (AE.getD i default).il = 0 := by
            have hx3 : 0 < (AE.getD i default).dl.length + (AE.getD i default).il.length := hx.2.1
            have hx4 : 0 ≤ (AE.getD i default).a := hx.1
            have hx5 := tq G1 ((AE.take i).map gX.says)
            rw [List.length_map, List.length_take] at hx5
            unfold Bv
            rw [if_neg (by omega), if_neg (by omega)]
          have HA2 := LV
          rw [N9 hadd (by decide), Oa hadd (by decide)] at HA2
          refine bT (aH (aU (aF (aV (fH O O (by omega)) (bW O (bT ?_))))))
          refine dN (i + 1) ?_ ?_ ?_ ?_
          · exact lH
          · exact FC
          · (try dsimp only)
            first | done | exact ⟨by omega, by rw [Fe hkl]; exact HA2.f2.right.f3.f3.f3⟩
          · (try dsimp only); omega
        · (try simp only [Z] at h3)
          refine dR (aP ?_)
          have hil : i = AE.length := by omega
          have HB := HL
          rw [hil, List.take_length] at HB
          subst akT
          refine aP (bH (aU (bI O (dX O func139 (FT HB) ?_))))
          rintro _ w28 ⟨rfl, H28⟩
          obtain ⟨h8a, h8b, h8c⟩ := UY G1 (AE.map gX.says)
          have HC := H28
          rw [h8a, h8b, h8c, hAs, yX (by intro hz; exact hp (List.append_eq_nil_iff.1 hz).2), ← hF3] at HC
          have ahP := HC.f6
          have ahQ := V.Ag ahP
          refine iR (aF (mX O O (bM 33 ay O dA O (aQ (iw 33 ahQ.f6 dA) ?_))))
          rintro _ w31 Uk
          refine bT ?_
          refine N7 (.inr O) (Uk.f6) (fun w32 OO => ?_)
          refine ⟨_, ahl results84, ?_⟩
          rw [pV hp]
          exact V.PE (s := { s.lV (s.jr on) with put := [] }) (pV hp ▸ PL iT ⟨hF1, hF2, hF3⟩ hp hG1) O OO.f3.right.f3.right.f3.right.f9.right.f9.f9.f9.f5.f9.f7.f9.f9.f9
      · rintro D w H; exact absurd H.swap.fact.1 id
      · rintro id D33 w33 Ul
        refine Decidable.byCases (fun hid : id = 0 => ?_) (fun hid => by rw [if_neg hid] at Ul; exact absurd Ul.swap.fact.1 fun h => h)
        subst hid
        rw [if_pos rfl] at Ul
        have ajr := Ul.ed
        try simp only [dY, tV, BR] at ajr
        have akW := ajr.ZJ
        subst hR6
        subst hR4
        refine bH (aU (aF (bW O (dX O func136 (EH akW.f4) ?_))))
        rintro _ w34 ⟨u34, ami, rfl, alQ, WA⟩
        have akX := WA.right
        have akY := akX.right
        have ahV := akY.f3.right
        obtain ⟨h9a, h9b, h9c⟩ := Mc (s.c.un s.c.place)
        have HX := ahV
        rw [h9a, h9b, h9c] at HX
        obtain ⟨ov, EK, ahT, HO⟩ := (HX.f3).old
        have hF := WT hp hn hO ahT
        have hG1 : ∀ g ∈ s.here.dropLast, ∀ x ∈ g, Cj x := fun g hg => hO g (List.dropLast_subset _ hg)
        obtain ⟨G1, ahU⟩ : ∃ q, q = (s.c.un s.c.place).dropLast := ⟨_, rfl⟩
        rw [show s.here.dropLast = (s.c.un s.c.place).dropLast from rfl] at hF hG1
        have HX2 := HO
        rw [← ahU] at hF hG1 HX2
        refine rW ?_
        obtain ⟨hF1, hF2, hF3⟩ := hF
        have hl1 : EK.length ≤ 16384 := by omega
        have hl2 : s.put.length ≤ 16384 := by omega
        refine aF (bW O (dX O func137 (DC HX2.f4 (by omega)) ?_))
        rintro _ w38 ⟨rfl, WB⟩
        refine rW (aI ?_)
        have ac6 := WB.drew
        have JQ := V.kp (ac6.f16.f16.f16.f16.f16.f16.f16.f16.f16.f16.f16.f16.f16.f16.f16.f16)
        refine nG [0, 4] JQ O (fM 0 O JQ (fun W hW => fQ aZ O ((Kp.h hW).f2).get.2 O) (fD 1 O JQ O (iG 2 O JQ O (dJ 3 O JQ 33 ay O dA O (fM 4 O JQ (fun W hW => fQ aZ O ((Kp.h hW).f7).get.2 O) (fD 7 O JQ O (ny 5 O (jy ac6.f3 aZ DF O O O ((ac6.f14).aO) (by assumption) (by omega) (by omega)) ?_)))))))
        rintro l39 w39 H39
        have Nj := V.kp (H39.f16.f16.f16.f16.f16.f16.f16.f16.f16.f16.f16.f16.f16.f16.f16.f16)
        refine gU Nj (by kernel_rfl) ?_
        have akZ := H39.f15.f5.f3
        have ak0 := V.Oe lT.symm akZ
        obtain ⟨AE, hAE⟩ : ∃ q, q = EK ++ xG := ⟨_, rfl⟩
        have HA := ak0
        rw [← hAE] at HA
        have hAl : AE.length = EK.length + s.put.length := by rw [hAE, List.length_append, lT]
        have hAs : AE.map gX.says = EK.map gX.says ++ s.put := by rw [hAE, List.map_append, dQ]
        have hAO : ∀ x ∈ AE, Cj x.says := fun x hx => by
          rw [hAE] at hx
          rcases List.mem_append.1 hx with hx | hx
          · exact hF2 x hx
          · exact hPO x hx
        refine dS 6 O Nj (fun _ => ku ((HA).aO) aZ O) (lJ (aU (bf ?_)))
        obtain ⟨R42, ak1, ak2⟩ := V.Oq (HA.f2.f2.f3)
        refine iy [(0, _), (4, _), (32, _), (33, _)] (fun (i : Nat) => [(34, .int .i64 (i : Int))]) (fun (i : Nat) W => i ≤ AE.length ∧ V w0 W (kC lp2 G1 ((AE.take i).map gX.says) (0 + 1) • Row 189 3 l39 AE.length (AE.flatMap gX.enc) • nD AE • R42)) (fun (i : Nat) => AE.length - i) (0) FC lH ⟨by omega, ak2⟩ ?_
        rintro i w43 ⟨hi, HL⟩
        dsimp only [List.cons_append, List.nil_append]
        refine jg (aV (gG O O) (rW (bg O (fun h4 => ?_) (fun h4 => ?_))))
        · (try simp only [Z] at h4)
          refine gy (aI (bf (jg ?_)))
          obtain ⟨amj, amk, aml, ak3⟩ := Rd.qN ((HL.f2).aO) (by omega)
          cases ak3
          refine aV (dI aZ dB O O (by omega)) (aV (pI (ys := [_, _, _]) ((HL.f2).aO) (by omega) bn O dB O (rY gX.AB (by omega) default) O) ?_)
          have hkl : i < AE.length := by omega
          have hx : Cj (AE.getD i default).says := hAO _ (by rw [List.getD_eq_getElem?_getD, List.getElem?_eq_getElem hkl]; exact List.getElem_mem hkl)
          have hx1 : (AE.getD i default).dl.length ≤ 1024 := hx.2.2.1
          have hx2 : (AE.getD i default).il.length ≤ 1024 := hx.2.2.2
          refine kV (iO (l := [_, _, _]) HL fJ O) ?_
          rintro _ w44 ⟨b44, rfl, H44⟩
          refine aQ (dM 0 (l' := [_, _, _]) (us := [_, _, _]) H44 dB O O O (aJ (bG (by first | rfl | exact Rd.one (((H44.f4).oD hkl).1)) (bG (by first | rfl | exact Rd.one (((H44.f4).oD hkl).2)) dn))) O O) ?_
          rintro _ w45 UN
          refine iR (aF (bW O (aV (dH bn O dB O O (UN).get.2) (dX O func138 (FP UN.f2 (fun W HW => ((HW.f3).oD hkl).1) (fun W HW => ((HW.f3).oD hkl).2) (by omega) (by omega)) ?_))))
          rintro _ w46 ⟨rfl, H46⟩
          have hadd : Bv G1 ((AE.take i).map gX.says) (AE.getD i default).a (AE.getD i default).dl (AE.getD i default).il = 0 := by
            have hx3 : 0 < (AE.getD i default).dl.length + (AE.getD i default).il.length := hx.2.1
            have hx4 : 0 ≤ (AE.getD i default).a := hx.1
            have hx5 := tq G1 ((AE.take i).map gX.says)
            rw [List.length_map, List.length_take] at hx5
            unfold Bv
            rw [if_neg (by omega), if_neg (by omega)]
          have HA2 := H46
          rw [N9 hadd (by decide), Oa hadd (by decide)] at HA2
          refine bT (aH (aU (aF (aV (fH O O (by omega)) (bW O (bT ?_))))))
          refine dN (i + 1) ?_ ?_ ?_ ?_
          · exact lH
          · exact FC
          · (try dsimp only)
            first | done | exact ⟨by omega, by rw [Fe hkl]; exact HA2.f2.right.f3.f3.f3⟩
          · (try dsimp only); omega
        · (try simp only [Z] at h4)
          refine dR (aP ?_)
          have hil : i = AE.length := by omega
          have HB := HL
          rw [hil, List.take_length] at HB
          subst ak1
          refine aP (bH (aU (bI O (dX O func139 (FT HB) ?_))))
          rintro _ w47 ⟨rfl, H47⟩
          obtain ⟨h8a, h8b, h8c⟩ := UY G1 (AE.map gX.says)
          have HC := H47
          rw [h8a, h8b, h8c, hAs, yX (by intro hz; exact hp (List.append_eq_nil_iff.1 hz).2), ← hF3] at HC
          have ak4 := HC.f6
          have ak5 := V.Ag ak4
          refine iR (aF (mX O O (bM 33 ay O dA O (aQ (iw 33 ak5.f6 dA) ?_))))
          rintro _ w50 H50
          refine bT ?_
          refine N7 (.inr O) (H50.f6) (fun w51 H51 => ?_)
          refine ⟨_, ahl results84, ?_⟩
          rw [pV hp]
          exact V.PE (s := { s.lV (s.jr on) with put := [] }) (pV hp ▸ PL iT ⟨hF1, hF2, hF3⟩ hp hG1) O H51.f3.right.f3.right.f3.right.f9.right.f9.f9.f9.f5.f9.f7.f9.f9.f9
    · (try simp only [Z] at h2)
      have hn : on = false := h2
      obtain ⟨ov, EK, G1, hF, hG1, HF⟩ : ∃ ov EK G1, ac3 s on EK G1 ∧ (∀ g ∈ G1, ∀ x ∈ g, Cj x) ∧ V w0 w3 (gJ b3 (.cells #[ov] 80 (0, 0)) • Row 189 3 ov EK.length (EK.flatMap gX.enc) • nD EK • kC lp2 G1 [] 0 • R4) :=
        ⟨.slice none 0 0, [], s.here, abn hp hn, hO, (V.xB HR4.f2.f2 none).of_eq (by unfold QT; ac_rfl)⟩
      subst hR4
      refine gy (aI ?_)
      obtain ⟨hF1, hF2, hF3⟩ := hF
      have hl1 : EK.length ≤ 16384 := by omega
      have hl2 : s.put.length ≤ 16384 := by omega
      refine aF (bW O (dX O func137 (DC HF.f4 (by omega)) ?_))
      rintro _ w52 ⟨rfl, H52⟩
      refine rW (aI ?_)
      have ac7 := H52.drew
      have JR := V.kp (ac7.f15.f15.f15.f15.f15.f15.f15.f15.f15.f15.f15.f15.f15.f15.f15)
      refine nG [0, 4] JR O (fM 0 O JR (fun W hW => fQ aZ O ((Kp.h hW).f2).get.2 O) (fD 1 O JR O (iG 2 O JR O (dJ 3 O JR 33 ay O dA O (fM 4 O JR (fun W hW => fQ aZ O ((Kp.h hW).f6).get.2 O) (fD 7 O JR O (ny 5 O (jy ac7.f3 aZ DF O O O ((ac7.f13).aO) (by assumption) (by omega) (by omega)) ?_)))))))
      rintro l53 w53 H53
      have aap := V.kp (H53.f15.f15.f15.f15.f15.f15.f15.f15.f15.f15.f15.f15.f15.f15.f15)
      refine gU aap (by kernel_rfl) ?_
      have ak6 := H53.f14.f5.f3
      have ak7 := V.Oe lT.symm ak6
      obtain ⟨AE, hAE⟩ : ∃ q, q = EK ++ xG := ⟨_, rfl⟩
      have HA := ak7
      rw [← hAE] at HA
      have hAl : AE.length = EK.length + s.put.length := by rw [hAE, List.length_append, lT]
      have hAs : AE.map gX.says = EK.map gX.says ++ s.put := by rw [hAE, List.map_append, dQ]
      have hAO : ∀ x ∈ AE, Cj x.says := fun x hx => by
        rw [hAE] at hx
        rcases List.mem_append.1 hx with hx | hx
        · exact hF2 x hx
        · exact hPO x hx
      refine dS 6 O aap (fun _ => ku ((HA).aO) aZ O) (lJ (aU (bf ?_)))
      obtain ⟨R56, ak8, ak9⟩ := V.Oq (HA.f2.f2.f3)
      refine iy [(0, _), (4, _), (32, _), (33, _)] (fun (i : Nat) => [(34, .int .i64 (i : Int))]) (fun (i : Nat) W => i ≤ AE.length ∧ V w0 W (kC lp2 G1 ((AE.take i).map gX.says) (0 + 1) • Row 189 3 l53 AE.length (AE.flatMap gX.enc) • nD AE • R56)) (fun (i : Nat) => AE.length - i) (0) FC lH ⟨by omega, ak9⟩ ?_
      rintro i w57 ⟨hi, HL⟩
      dsimp only [List.cons_append, List.nil_append]
      refine jg (aV (gG O O) (rW (bg O (fun h5 => ?_) (fun h5 => ?_))))
      · (try simp only [Z] at h5)
        refine gy (aI (bf (jg ?_)))
        obtain ⟨amm, amn, amo, ala⟩ := Rd.qN ((HL.f2).aO) (by omega)
        cases ala
        refine aV (dI aZ dB O O (by omega)) (aV (pI (ys := [_, _, _]) ((HL.f2).aO) (by omega) bn O dB O (rY gX.AB (by omega) default) O) ?_)
        have hkl : i < AE.length := by omega
        have hx : Cj (AE.getD i default).says := hAO _ (by rw [List.getD_eq_getElem?_getD, List.getElem?_eq_getElem hkl]; exact List.getElem_mem hkl)
        have hx1 : (AE.getD i default).dl.length ≤ 1024 := hx.2.2.1
        have hx2 : (AE.getD i default).il.length ≤ 1024 := hx.2.2.2
        refine kV (iO (l := [_, _, _]) HL fJ O) ?_
        rintro _ w58 ⟨b58, rfl, H58⟩
        refine aQ (dM 0 (l' := [_, _, _]) (us := [_, _, _]) H58 dB O O O (aJ (bG (by first | rfl | exact Rd.one (((H58.f4).oD hkl).1)) (bG (by first | rfl | exact Rd.one (((H58.f4).oD hkl).2)) dn))) O O) ?_
        rintro _ w59 H59
        refine iR (aF (bW O (aV (dH bn O dB O O (H59).get.2) (dX O func138 (FP H59.f2 (fun W HW => ((HW.f3).oD hkl).1) (fun W HW => ((HW.f3).oD hkl).2) (by omega) (by omega)) ?_))))
        rintro _ w60 ⟨rfl, H60⟩
        have hadd : Bv G1 ((AE.take i).map gX.says) (AE.getD i default).a (AE.getD i default).dl (AE.getD i default).il = 0 := by
          have hx3 : 0 < (AE.getD i default).dl.length + (AE.getD i default).il.length := hx.2.1
          have hx4 : 0 ≤ (AE.getD i default).a := hx.1
          have hx5 := tq G1 ((AE.take i).map gX.says)
          rw [List.length_map, List.length_take] at hx5
          unfold Bv
          rw [if_neg (by omega), if_neg (by omega)]
        have HA2 := H60
        rw [N9 hadd (by decide), Oa hadd (by decide)] at HA2
        refine bT (aH (aU (aF (aV (fH O O (by omega)) (bW O (bT ?_))))))
        refine dN (i + 1) ?_ ?_ ?_ ?_
        · exact lH
        · exact FC
        · (try dsimp only)
          first | done | exact ⟨by omega, by rw [Fe hkl]; exact HA2.f2.right.f3.f3.f3⟩
        · (try dsimp only); omega
      · (try simp only [Z] at h5)
        refine dR (aP ?_)
        have hil : i = AE.length := by omega
        have HB := HL
        rw [hil, List.take_length] at HB
        subst ak8
        refine aP (bH (aU (bI O (dX O func139 (FT HB) ?_))))
        rintro _ w61 ⟨rfl, H61⟩
        obtain ⟨h8a, h8b, h8c⟩ := UY G1 (AE.map gX.says)
        have HC := H61
        rw [h8a, h8b, h8c, hAs, yX (by intro hz; exact hp (List.append_eq_nil_iff.1 hz).2), ← hF3] at HC
        have alb := HC.f5
        have alc := V.Ag alb
        refine iR (aF (mX O O (bM 33 ay O dA O (aQ (iw 33 alc.f5 dA) ?_))))
        rintro _ w64 H64
        refine bT (oU (.inr O) results84 ?_)
        rw [pV hp]
        exact V.PE (s := { s.lV (s.jr on) with put := [] }) (pV hp ▸ PL iT ⟨hF1, hF2, hF3⟩ hp hG1) O H64.f3.right.f3.right.f3.right.f9.right.f9.f9.f9.f5.f9.f7.f9.f9.f9
end
end Go.Proofs.YtpdeedplgmbopaaGreatDoor
end
