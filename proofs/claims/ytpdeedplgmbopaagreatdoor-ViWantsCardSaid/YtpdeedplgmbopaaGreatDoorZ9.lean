import Derived.Test.YtpdeedplgmbopaaGreatDoorZ4
import Derived.Test.YtpdeedplgmbopaaGreatDoorZ8
import Derived.Test.YtpdeedplgmbopaaGreatDoorZ5
import Derived.Test.YtpdeedplgmbopaaGreatDoorZ2
set_option linter.unusedSimpArgs false
set_option linter.unusedVariables false
/- Texts of mine, joined, their names in short: UGroups Ed EdTwin MapI RefTab VW VW2 VW3. -/
section
namespace Go.Proofs.YtpdeedplgmbopaaGreatDoor
open Go.RowKit
open _root_.Go.Proofs.Tryz
def Bo (c : Nat) (G : List (List iU)) (N : List iU) (k : Nat) : HP := rV fun (x : Value × List (Value × List dV)) => fact (x.2.map (fun g => g.2.map dV.says) = KJ N ++ G.reverse.take k) • dM c (.cells #[x.1] 226 (0, 0)) • BL x.1 x.2
theorem rev_succ {G : List (List iU)} {k : Nat} (hk : k < G.length) : G.reverse.take (k + 1) = G.reverse.take k ++ [G.getD (G.length - (k + 1)) []] := by
  rw [List.take_succ_eq_append_getElem (by simpa using hk)]
  congr 1
  rw [List.getElem_reverse, List.getD_eq_getElem?_getD, List.getElem?_eq_getElem (by omega)]
  have e : G.length - 1 - k = G.length - (k + 1) := by omega
  simp only [Option.getD_some, e]
section
variable {w0 w : World} {F : HP} {p c k : Nat} {G : List (List iU)} {N : List iU} {op : Int} {v u : Value} {es fs : List dV} {gs hs : List (Value × List dV)}
theorem V.MZ (H : V w0 w (Bo c G N k • F)) : ∃ u hs, hs.map (fun g => g.2.map dV.says) = KJ N ++ G.reverse.take k ∧ hs.length ≤ G.length + 1 ∧ V w0 w (dM c (.cells #[u] 226 (0, 0)) • Row 80 1 u hs.length (hs.map (·.1)) • nO hs • F) := by
  obtain ⟨⟨u, hs⟩, H⟩ := H.lQ
  obtain ⟨h, H⟩ := H.flat.fact
  refine ⟨u, hs, h, ?_, (H.flat.swap.XM).f3⟩
  have := congrArg List.length h
  have := Ve N
  simp only [List.length_map, List.length_append, List.length_take, List.length_reverse] at *
  omega
theorem V.Gy (h : hs.map (fun g => g.2.map dV.says) = KJ N ++ G.reverse.take k) (H : V w0 w (dM c (.cells #[u] 226 (0, 0)) • BL u hs • F)) : V w0 w (Bo c G N k • F) :=
  V.iD (u, hs) (V.deep (V.kE h H.deep))
theorem SK (H : V w0 w F) (hv : v.oneCell' = true) : gQ prog 175 #[v] w fun v' w' => ∃ b, v' = .func (.func 196) #[] #[.pointer (some ⟨b, 0, none⟩)] ∧ V w0 w' (dM b (.cells #[v] 226 (0, 0)) • F) := by
  refine iC func175 ntmps175 ?_
  refine iy (jy (iO (l := [_]) H O (by first | rfl | exact Au (by first | rfl | assumption))) ?_)
  rintro _ w1 ⟨b1, rfl, H1⟩
  refine gB O (iy (Z (vU O O) (fF O (dG results175 O ?_))))
  exact ⟨_, O, H1⟩
theorem PG (b : Nat) : Iter prog w0 (.func (.func 196) #[] #[.pointer (some ⟨b, 0, none⟩)]) (dM b (.cells #[v] 226 (0, 0)) • Row 80 1 v gs.length (gs.map (·.1)) • nO gs) gs.length
  (fun k vs A => ∃ gl wO, gs.getD (gs.length - (k + 1)) default = (gl, wO) ∧ vs = [.int .i64 ((gs.length - (k + 1) : Nat) : Int), gl] ∧ A = Bf gl wO) := by
 intro l J X w hy H
 refine ⟨196, [], [.pointer (some ⟨b, 0, none⟩)], _, _, O, func196, O, O, ?_⟩
 have H1 : V w0 w (dM b (.cells #[v] 226 (0, 0)) • Row 80 1 v gs.length (gs.map (·.1)) • nO gs • J 0) := H.of_eq (by ac_rfl)
 obtain ⟨a, c, hv, hc1, hc2, _⟩ := (H1.swap.aT).form
 subst hv
 simp only [List.nil_append, List.cons_append]
 refine Uc func196 ntmps196 ?_
 dsimp only [vP, Nat.reduceAdd]
 refine iy (gq bg O (H1).get.2 O (Z (iW ((H1.f2).aT) bg O) (Z (lu O O (by omega)) (gB O (aZ ?_)))))
 refine fC [(0, _), (1, _)] (fun (k : Nat) => [(3, .int .i64 ((k : Int) - 1))]) (fun (k : Nat) W => k ≤ gs.length ∧ V w0 W (dM b (.cells #[.slice a gs.length c] 226 (0, 0)) • Row 80 1 (.slice a gs.length c) gs.length (gs.map (·.1)) • nO gs • J (gs.length - k))) (fun (k : Nat) => k) (gs.length) oO kD ⟨by omega, by rw [Nat.sub_self]; exact H1⟩ ?_
 rintro k w1 ⟨hk, HL⟩
 dsimp only [List.cons_append, List.nil_append]
 refine aO (bT O (Z (lJ O O) (iV O (fun h1 => ?_) (fun h1 => ?_))))
 ·(try simp only [aF] at h1)
  refine fV (aO (aZ (aO ?_)))
  obtain ⟨m, rfl⟩ : ∃ m, k = m + 1 := ⟨k - 1, by omega⟩
  rw [show (((m + 1 : Nat) : Int) - 1) = (m : Int) from by omega]
  have hkl : m < gs.length := by omega
  refine aB (jF O O (gq bg O (HL).get.2 O (bQ O ?_)))
  obtain ⟨bv, ov, cv, ev⟩ := Rd.nX ((HL.f2).aT) (by omega)
  cases ev
  refine Z (dw bg bJ O O (by omega)) ?_
  refine Z (dR (bV aV O) O (by first | exact Rd.jT ((HL.f2).aT) (by omega) | exact Rd.rP ((HL.f2).aT) (by omega) | exact Rd.rO ((HL.f2).aT) (by omega))) ?_
  rw [show (gs.map (·.1)).getD m undef = (gs.getD m default).1 from by simp [List.getD_eq_getElem?_getD, hkl]]
  obtain ⟨gl, wO, hg⟩ : ∃ gl wO, gs.getD m default = (gl, wO) := ⟨_, _, rfl⟩
  rw [hg]
  have Z9 := HL.f3
  have XZ := Z9.Fz hkl hg
  refine jy (KH O O (hy (gs.length - (m + 1)) (by omega) _ _ ⟨gl, wO, by rw [show gs.length - (gs.length - (m + 1) + 1) = m from by omega]; exact hg, by rw [show gs.length - (gs.length - (m + 1) + 1) = m from by omega], O⟩ (nO gs • Row 80 1 (.slice (some ⟨bv, ov, none⟩) gs.length c) gs.length (gs.map (·.1)) • dM b (.cells #[.slice (some ⟨bv, ov, none⟩) gs.length c] 226 (0, 0))) _ (XZ.of_eq (by ac_rfl))).bool) ?_
  rintro _ w4 ⟨t, rfl, ht1, ht2⟩
  refine Z (lS O) (iV O (fun h2 => ?_) (fun h2 => ?_))
  ·(try simp only [aF] at h2)
   have HX := ht2 (by simpa using h2)
   refine mG (aS (aG (aG (aS (we0 results196 ?_)))))
   exact .inr (HX.of_eq (by ac_rfl))
  ·(try simp only [aF] at h2)
   have HN : V w0 w4 (dM b (.cells #[.slice (some ⟨bv, ov, none⟩) gs.length c] 226 (0, 0)) • Row 80 1 (.slice (some ⟨bv, ov, none⟩) gs.length c) gs.length (gs.map (·.1)) • nO gs • J (gs.length - m)) := by
    have h9 := ht1 (by simpa using h2)
    rw [show gs.length - (m + 1) + 1 = gs.length - m from by omega] at h9
    exact h9.of_eq (by ac_rfl)
   refine bU (aJ (aW (aB (bQ O (Z (lu O O (by omega)) (fU O (bP ?_)))))))
   refine dH (m) ?_ ?_ ?_ ?_
   ·exact kD
   ·exact oO
   ·(try dsimp only)
    first | done | exact ⟨by omega, HN.f3.f3.f3⟩
   ·(try dsimp only); omega
 ·(try simp only [aF] at h1)
  refine dn (aI (aI (aY (lX (.inr O) results196 ?_))))
  obtain rfl : k = 0 := by omega
  rw [Nat.sub_zero] at HL
  exact .inl (HL.of_eq (by ac_rfl))
theorem E5 (H : V w0 w (iQ p G N op • F)) : gQ prog 135 #[.pointer (some ⟨p, 0, none⟩)] w fun v w' => ∃ c, v = .func (.func 176) #[] #[.pointer (some ⟨c, 0, none⟩)] ∧ V w0 w' (Bo c G N G.length • iQ p G N op • F) := by
 refine iC func135 ntmps135 ?_
 refine jk O (iy (jy (fM (l := [_]) H zeroValue226 O) ?_))
 rintro _ w1 ⟨b1, rfl, H1⟩
 refine pJ (bT O (eG O func158 (mY H1.f2) ?_))
 rintro _ _ ⟨rfl, rfl⟩
 refine Z (lS O) ?_
 obtain ⟨AY, yO, nR, mV, lD, uZ, sF, Gi, Gj, MJ, qH⟩ := (H1.f2).yw
 have hLn : mV.length ≤ 16384 := by omega
 have hBn := MQ sF lD.2.2.2.2.2
 refine iK (wcE O (fun h1 => ?_))
 (try simp only [aF] at h1)
 refine jW [(0, _), (3, _)] (fun (_ : Unit) => []) (fun (_ : Unit) W => V w0 W (Bo b1 G N 0 • dM p (.cells #[AY, yO, .int .i64 op, .int .i64 (iH G N : Nat), .bool true] 235 (0, 0)) • Row 80 1 AY nR.length (nR.map (·.1)) • nO nR • Row 189 3 yO mV.length (mV.flatMap dV.enc) • kK mV • F)) oO ?_ ?_
 ·rintro _ w4 HJ
  dsimp only [List.cons_append, List.nil_append]
  refine bT O (dL O (bF 0 bn O dA O (bF 0 bI O fA O (gq bg O (HJ.f2).get.2 O (eG O func175 (SK HJ (Rd.one ((HJ.f3).aT))) ?_)))))
  rintro _ w5 ⟨bB5, rfl, H5⟩
  refine iK (aZ ?_)
  obtain ⟨R6, hR6, HR6⟩ := V.aa2 (H5.f5.f5.f3.f4)
  refine yR O (PG bB5) (fun k => Bo b1 G N k • R6) (fact False) (fun _ => fact False) (HR6.f4.f4.f4.f4.f4.f4.f4.g3.comm) (by rfl) ?_ ?_ ?_ ?_
  ·rintro l7 k ZU vs7 A7 ⟨gl, wO, hg, rfl, rfl⟩ G7 w7 H7
   try simp only [bZ, nI, uU] at H7
   refine ⟨O, ?_⟩
   dsimp only [Pv]
   obtain ⟨u, hs, Va, hhl, HI⟩ := (H7.f2).MZ
   have hge : wO.map dV.says = G.getD (G.length - (k + 1)) [] := by
    rw [← Gi, ← uZ]
    have h9 : (nR.map (fun g => g.2.map dV.says)).getD (nR.length - (k + 1)) [] = (nR.getD (nR.length - (k + 1)) default).2.map dV.says := by simp [List.getD_eq_getElem?_getD, show nR.length - (k + 1) < nR.length by omega]
    rw [h9, hg]
   have hgm : G.getD (G.length - (k + 1)) [] ∈ G := vJ (by omega)
   have hBg := MQ hge (lD.2.2.2.2.1 _ hgm)
   have hLg : wO.length ≤ 16384 := by
    have h8 := lD.2.1
    unfold iH at h8
    have h7 := congrArg List.length hge
    rw [List.length_map] at h7
    have h6 := FB hgm
    omega
   refine aB (fU O (bP ?_))
   refine Pq (HI.g5) ?_
   intro G8 w8 H8
   try simp only [bZ] at H8
   refine aZ ?_
   have abK := H8.drew
   have Vm := V.kp (abK.f4.f4.f4.f4)
   refine yj [0] Vm O (jQ 0 O Vm (fun W hW => kC bg O ((Kp.h hW)).get.2 O) (jE 1 O Vm O (oC 2 O (yJ O func173 (xI abK.f4 hBg hLg)) ?_)))
   rintro u9 w9 ⟨fs9, ac4, H9⟩
   obtain ⟨es2, rfl⟩ : ∃ q, q = fs9 := ⟨_, rfl⟩
   have hes2 := ac4
   have Pj := V.kp (H9.f6.f6.f6.f6.f6.f6)
   refine dX Pj (fun W hW => (Kp.h hW).right.right.f4.f4.f4) ?_
   refine oC 3 O (jH (vs := [_]) H9 bg bJ lG O O O (by decide) (aX (by first | rfl | exact Rd.one ((H9).aT)) bD)) ?_
   rintro l10 w10 ql
   have U3 := V.kp (ql.f7.f7.f7.f7.f7.f7.f7)
   refine dX U3 (fun W hW => (Kp.h hW).right.f6.f6.f6.f6.f6.f6) ?_
   refine oC 4 O (fZ ql.f6 bg EG O O O ((ql).aT) (aX (by first | rfl | exact Rd.one ((ql.f2).aT)) bD) (by omega) (by omega)) ?_
   rintro l11 EI rE
   have IJ := rE.f2.right
   have Gn := V.kp (IJ.f6.f6.f6.f6.f6.f6)
   refine gV Gn (by kernel_rfl) ?_
   refine fQ 5 O (by kernel_rfl) (fE 0 (l' := [_]) IJ.f5 fA O O (by first | rfl | exact Rd.one ((IJ).aT)) O O) ?_
   rintro _ Pn wZ
   have uP := V.kp (wZ.f6.f6.f6.f6.f6.f6)
   refine gV uP (by kernel_rfl) ?_
   refine qR (aJ ?_)
   refine Gp ?_
   have X := V.oV (es := es2) (wZ.f5.right.f5.f3.f5.f5).deep
   exact (V.Gy (hs := hs ++ [(u9, es2)]) (by rw [List.map_append, Va, rev_succ (by omega), ← hge, ← hes2, List.append_assoc]; rfl) (V.qM X.swap).swap).deep
  ·rintro D14 Si Aw
   have U4 := Aw.ed
   try simp only [bZ, nI, uU] at U4
   have ZV := U4.QC
   subst hR6
   refine aJ (aW (iy (Z (vU O O) (fF O ?_))))
   refine Fg (.inl O) (ZV) (fun SA yQ => ?_)
   refine ⟨_, Zy results135 O, ?_⟩
   have hgl : Bo b1 G N nR.length = Bo b1 G N G.length := by rw [Gi]
   rw [hgl] at yQ
   have PI := yQ.f7.f7.f5.f5.f7
   have PK := V.nP lD uZ sF rfl PI
   exact ⟨_, O, PK.f2.right.f2⟩
  ·rintro D w H; exact absurd H.swap.fact.1 id
  ·rintro id D w H; exact absurd H.swap.fact.1 fun h => h
 ·skip
  refine bT O (dL O (bF 0 bn O dA O (bF 1 bI O bJ O (gq aV O (qH).get.2 O (Z (iW ((qH.f4).aT) aV O) (Z (jc O O) (iV O (fun h2 => ?_) (fun h2 => ?_))))))))
  ·(try simp only [aF] at h2)
   have hN : KJ N = [N] := if_neg (by rintro rfl; exact absurd Gj (by simp only [List.length_nil]; omega))
   have Y9 := qH.drew
   have BR := V.kp (Y9.f6.f6.f6.f6.f6.f6)
   refine yj [0, 5] BR O (jQ 0 O BR (fun W hW => kC bg O ((Kp.h hW).f6).get.2 O) (jE 1 O BR O (kJ 2 O BR O (gU 3 O BR 0 bn O dA O (gU 4 O BR 1 bI O bJ O (jQ 5 O BR (fun W hW => kC aV O ((Kp.h hW)).get.2 O) (oC 6 O (yJ O func173 (zT Y9.f5.f5 hBn hLn)) ?_)))))))
   rintro u19 w19 ⟨ac5, abL, Ec⟩
   obtain ⟨es1, rfl⟩ : ∃ q, q = ac5 := ⟨_, rfl⟩
   have hes1 := abL
   have Vo := V.kp (Ec.f8.f8.f8.f8.f8.f8.f8.f8)
   refine dX Vo (fun W hW => (Kp.h hW).right.right.f6.f3.f3.f6.f6.f6) ?_
   refine oC 7 O (jH (vs := [_]) Ec bg bJ lG O O O (by decide) (aX (by first | rfl | exact Rd.one ((Ec).aT)) bD)) ?_
   rintro l20 w20 OZ
   have Dl := V.kp (OZ.f9.f9.f9.f9.f9.f9.f9.f9.f9)
   refine dX Dl (fun W hW => (Kp.h hW).right.f8.f8.f8.f8.f8.f8.f8.f8) ?_
   refine oC 8 O (fZ (OZ.iP none) bg EG O O O ((OZ).aT) (aX (by first | rfl | exact Rd.one ((OZ.f2).aT)) bD) (by omega) (by omega)) ?_
   rintro l21 w21 IK
   have Vp := IK.f2.right
   have Na := V.kp (Vp.f9.f9.f9.f9.f9.f9.f9.f9.f9)
   refine gV Na (by kernel_rfl) ?_
   refine fQ 9 O (by kernel_rfl) (fE 0 (l' := [_]) Vp.f9 fA O O (by first | rfl | exact Rd.one ((Vp).aT)) O O) ?_
   rintro _ w23 IL
   have JA := V.kp (IL.f9.f9.f9.f9.f9.f9.f9.f9.f9)
   refine gV JA (by kernel_rfl) ?_
   have X := V.oV (es := es1) (IL.f6.f6.f9.f9.f9.f6.f7.f9.f9).deep
   have hJn : V w0 w23 (Bo b1 G N 0 • dM p (.cells #[AY, yO, .int .i64 op, .int .i64 (iH G N : Nat), .bool true] 235 (0, 0)) • Row 80 1 AY nR.length (nR.map (·.1)) • nO nR • Row 189 3 yO mV.length (mV.flatMap dV.enc) • kK mV • F) :=
    V.Gy (hs := [(u19, es1)]) (by rw [hN, ← sF, ← hes1]; rfl) (V.qM (gs := []) X.Gg.f3.f3.f2).swap
   refine qR ?_
   refine cO (()) ?_ ?_ ?_
   ·exact (Sub.nil _)
   ·exact oO
   ·(try dsimp only)
    first | done | exact hJn
  ·(try simp only [aF] at h2)
   have hN : KJ N = [] := if_pos (by rw [← sF, List.eq_nil_of_length_eq_zero (show mV.length = 0 by omega)]; rfl)
   have hJn : V w0 w1 (Bo b1 G N 0 • dM p (.cells #[AY, yO, .int .i64 op, .int .i64 (iH G N : Nat), .bool true] 235 (0, 0)) • Row 80 1 AY nR.length (nR.map (·.1)) • nO nR • Row 189 3 yO mV.length (mV.flatMap dV.enc) • kK mV • F) :=
    V.Gy (hs := []) (by rw [hN]; rfl) ((qH.f5.f5.f5.f5.f5.f6).Gh none).swap
   refine bU ?_
   refine cO (()) ?_ ?_ ?_
   ·exact (Sub.nil _)
   ·exact oO
   ·(try dsimp only)
    first | done | exact hJn
theorem Nb (c : Nat) (hB : ∀ g ∈ BN G N, ∀ e ∈ g, EB e) (hL : ∀ g ∈ BN G N, g.length ≤ 16384) : Iter prog w0 (.func (.func 176) #[] #[.pointer (some ⟨c, 0, none⟩)]) (Bo c G N G.length) (BN G N).length
  (fun k vs A => ∃ u, ∃ fs : List dV, fs.map dV.says = (BN G N).getD k [] ∧ vs = [u] ∧ A = Jv u fs) := by
 intro l J X w hy H
 refine ⟨176, [], [.pointer (some ⟨c, 0, none⟩)], _, _, O, func176, O, O, ?_⟩
 obtain ⟨v, hs, Va, hhl, H1⟩ := H.comm.MZ
 have abM := Va
 rw [List.take_of_length_le (by simp), ← XR] at Va
 have hlen : hs.length = (BN G N).length := by have := congrArg List.length Va; simpa using this
 obtain ⟨a, d, hv, hc1, hc2, _⟩ := (H1.swap.aT).form
 subst hv
 simp only [List.nil_append, List.cons_append]
 refine Uc func176 ntmps176 ?_
 dsimp only [vP, Nat.reduceAdd]
 refine iy (gq bg O (H1).get.2 O (Z (iW ((H1.f2).aT) bg O) (bQ O (iK (aZ ?_)))))
 refine fC [(0, _), (5, _), (6, _)] (fun (k : Nat) => [(7, .int .i64 (k : Int))]) (fun (k : Nat) W => k ≤ hs.length ∧ V w0 W (dM c (.cells #[.slice a hs.length d] 226 (0, 0)) • Row 80 1 (.slice a hs.length d) hs.length (hs.map (·.1)) • nO hs • J k)) (fun (k : Nat) => hs.length - k) (0) uF kD ⟨by omega, H1⟩ ?_
 rintro k w1 ⟨hk, HL⟩
 dsimp only [List.cons_append, List.nil_append]
 refine iy (Z (gZ O O) (pJ (bG O (fun h1 => ?_) (fun h1 => ?_))))
 ·(try simp only [aF] at h1)
  refine fV (aO (aZ (iy ?_)))
  obtain ⟨bv, ov, cv, ev⟩ := Rd.nX ((HL.f2).aT) (by omega)
  cases ev
  refine Z (dw bg bJ O O (by omega)) ?_
  refine Z (dR (bV aV O) O (by first | exact Rd.jT ((HL.f2).aT) (by omega) | exact Rd.rP ((HL.f2).aT) (by omega) | exact Rd.rO ((HL.f2).aT) (by omega))) ?_
  have hkl : k < hs.length := by omega
  rw [show (hs.map (·.1)).getD k undef = (hs.getD k default).1 from by simp [List.getD_eq_getElem?_getD, hkl]]
  obtain ⟨gl, wO, hg⟩ : ∃ gl wO, hs.getD k default = (gl, wO) := ⟨_, _, rfl⟩
  rw [hg]
  have Z9 := HL.f3
  have XZ := Z9.Fz hkl hg
  have hge : wO.map dV.says = (BN G N).getD k [] := by
   rw [← Va]
   have h9 : (hs.map (fun g => g.2.map dV.says)).getD k [] = (hs.getD k default).2.map dV.says := by simp [List.getD_eq_getElem?_getD, hkl]
   rw [h9, hg]
  have hgm : (BN G N).getD k [] ∈ BN G N := vJ (by omega)
  have hBg := MQ hge (hB _ hgm)
  have hLg : wO.length ≤ 16384 := by
   have h7 := congrArg List.length hge
   rw [List.length_map] at h7
   have := hL _ hgm
   omega
  refine gB O (bT O (bQ O (eG O func173 (xI XZ hBg hLg) ?_)))
  rintro u4 w4 ⟨fs4, ac6, H4⟩
  obtain ⟨es2, rfl⟩ : ∃ q, q = fs4 := ⟨_, rfl⟩
  have hes2 := ac6
  have Hd5 := H4.f3.right
  refine jy (KH O O (hy k (by omega) _ _ ⟨_, es2, hes2.trans hge, O, O⟩ (nO hs • Row 80 1 (.slice (some ⟨bv, ov, none⟩) hs.length d) hs.length (hs.map (·.1)) • dM c (.cells #[.slice (some ⟨bv, ov, none⟩) hs.length d] 226 (0, 0))) _ (Hd5.of_eq (by unfold Jv; ac_rfl))).bool) ?_
  rintro _ w6 ⟨t, rfl, ht1, ht2⟩
  refine Z (lS O) (iV O (fun h2 => ?_) (fun h2 => ?_))
  ·(try simp only [aF] at h2)
   have HX := ht2 (by simpa using h2)
   refine mG (aS (aG (aG (aS (we0 results176 ?_)))))
   exact .inr (V.comm (V.Gy (u := .slice (some ⟨bv, ov, none⟩) hs.length d) abM (HX.of_eq (by unfold BL; ac_rfl))))
  ·(try simp only [aF] at h2)
   have HN : V w0 w6 (dM c (.cells #[.slice (some ⟨bv, ov, none⟩) hs.length d] 226 (0, 0)) • Row 80 1 (.slice (some ⟨bv, ov, none⟩) hs.length d) hs.length (hs.map (·.1)) • nO hs • J (k + 1)) := by
    have h9 := ht1 (by simpa using h2)
    exact h9.of_eq (by ac_rfl)
   refine bU (aJ (aW (aB (Z (fK O O (by omega)) (bQ O (bP ?_))))))
   refine dH (k + 1) ?_ ?_ ?_ ?_
   ·exact kD
   ·exact uF
   ·(try dsimp only)
    first | done | exact ⟨by omega, HN.f3.f3.f3⟩
   ·(try dsimp only); omega
 ·(try simp only [aF] at h1)
  refine dn (aI (aI (aY (lX (.inr O) results176 ?_))))
  obtain rfl : k = hs.length := by omega
  rw [← hlen]
  exact .inl (V.comm (V.Gy (u := .slice a hs.length d) abM (HL.of_eq (by unfold BL; ac_rfl))))
end
end Go.Proofs.YtpdeedplgmbopaaGreatDoor
end
section
namespace Go.Proofs.YtpdeedplgmbopaaGreatDoor
open Go.RowKit
def EK (P : Int → Nat) (U : Int → List (List iU)) : List Int → HP
  | [] => emp
  | k :: D => iQ (P k) (U k) [] 0 • EK P U D
def Nc (D : List Int) (P : Int → Nat) : Int → Option Value := fun k => if k ∈ D then some (.pointer (some ⟨P k, 0, none⟩)) else none
theorem qP {P : Int → Nat} {U : Int → List (List iU)} {k : Int} : ∀ {D : List Int}, k ∈ D → EK P U D = (iQ (P k) (U k) [] 0 • EK P U (D.erase k))
  | x :: D, h => by
    by_cases e : x = k
    · subst e; rw [List.erase_cons_head]; rfl
    · rw [List.erase_cons_tail (by simpa using e)]
      have hk : k ∈ D := (List.mem_cons.1 h).resolve_left (Ne.symm e)
      show (iQ (P x) (U x) [] 0 • EK P U D) = _
      rw [qP hk]
      show (iQ (P x) (U x) [] 0 • iQ (P k) (U k) [] 0 • EK P U (D.erase k)) = (iQ (P k) (U k) [] 0 • (iQ (P x) (U x) [] 0 • EK P U (D.erase k)))
      ac_rfl
theorem AA {P P' : Int → Nat} {U U' : Int → List (List iU)} : ∀ {D : List Int}, (∀ k ∈ D, P k = P' k ∧ U k = U' k) → EK P U D = EK P' U' D
  | [], _ => rfl
  | x :: D, h => by
    show (iQ (P x) (U x) [] 0 • EK P U D) = (iQ (P' x) (U' x) [] 0 • EK P' U' D)
    rw [(h x (by simp)).1, (h x (by simp)).2, AA fun k hk => h k (List.mem_cons_of_mem _ hk)]
def wR (b : Nat) (U : Int → List (List iU)) : HP := rV fun (x : List Int × (Int → Nat)) => fact (x.1.Nodup ∧ ∀ k, k ∉ x.1 → U k = []) • fJ qI b (Nc x.1 x.2) • EK x.2 U x.1
def Nh (b : Nat) (U : Int → List (List iU)) (k : Int) (p : Nat) : HP := rV fun (x : List Int × (Int → Nat)) => fact (x.1.Nodup ∧ (∀ k, k ∉ x.1 → U k = []) ∧ k ∈ x.1 ∧ x.2 k = p) • fJ qI b (Nc x.1 x.2) • EK x.2 U (x.1.erase k)
section
variable {w0 w : World} {F : HP} {b p : Nat} {k : Int} {U : Int → List (List iU)} {G : List (List iU)}
theorem V.X0 (H : V w0 w (wR b U • F)) : ∃ D P, (D : List Int).Nodup ∧ (∀ k, k ∉ D → U k = []) ∧ V w0 w (fJ qI b (Nc D P) • EK P U D • F) := by
  obtain ⟨⟨D, P⟩, H⟩ := H.lQ
  obtain ⟨⟨h1, h2⟩, H⟩ := H.flat.fact
  exact ⟨D, P, h1, h2, H.flat⟩
theorem V.AB {D : List Int} {P : Int → Nat} (h1 : D.Nodup) (h2 : ∀ k, k ∉ D → U k = []) (H : V w0 w (fJ qI b (Nc D P) • EK P U D • F)) : V w0 w (wR b U • F) :=
  V.iD (D, P) (V.deep (V.kE ⟨h1, h2⟩ H.deep))
theorem V.Za {D : List Int} {P : Int → Nat} (h1 : D.Nodup) (h2 : ∀ k, k ∉ D → U k = []) (hk : k ∈ D) (H : V w0 w (fJ qI b (Nc D P) • EK P U D • F)) : V w0 w (iQ (P k) (U k) [] 0 • Nh b U k (P k) • F) := by
  have H1 : V w0 w ((fJ qI b (Nc D P) • EK P U (D.erase k)) • iQ (P k) (U k) [] 0 • F) := H.of_eq (by rw [qP hk]; ac_rfl)
  have H2 : V w0 w (Nh b U k (P k) • iQ (P k) (U k) [] 0 • F) := V.iD (D, P) (V.deep (V.kE ⟨h1, h2, hk, rfl⟩ H1))
  exact H2.swap
theorem V.Ed (H : V w0 w (Nh b U k p • iQ p G [] 0 • F)) : V w0 w (wR b (wQ U k G) • F) := by
  obtain ⟨⟨D, P⟩, H⟩ := H.lQ
  obtain ⟨⟨h1, h2, hk, hp⟩, H⟩ := H.flat.fact
  dsimp only at h1 h2 hk hp H
  subst hp
  refine V.AB (D := D) (P := P) h1 (fun x hx => ?_) ?_
  · rw [tX _ _ (by rintro rfl; exact hx hk)]; exact h2 x hx
  · rw [qP (U := wQ U k G) hk, nS, AA (P' := P) (U' := U) fun x hx => ⟨rfl, tX _ _ (by rintro rfl; exact (List.Nodup.not_mem_erase h1) hx)⟩]
    exact H.of_eq (by ac_rfl)
end
def rU (t : Int → Option ByteArray) : Int → Option Value := fun k => (t k).map .string
def PL (pb pr pw pt pm : Nat) (c : mD) : HP := jg pb c.L c.pt c.mark • iG pr c.E c.at_ • dM pw (.cells #[.int .i64 c.place, .map (some pt)] 122 (0, 0)) • fJ qI pt (rU c.tx) • wR pm c.un
def Nj (pb pr pw pm : Nat) (c : mD) : List Value := [.pointer (some ⟨pb, 0, none⟩), .pointer (some ⟨pr, 0, none⟩), .pointer (some ⟨pw, 0, none⟩), .map (some pm), .int .i64 c.mode, .bool c.over, .int .i64 c.last, .int .i64 c.fr, .int .i64 c.to, .int .i64 c.res, .bool c.run]
def uS (inn : Bool) (c : mD) (u : List Value) : HP := if inn = true then rV fun (x : Nat × Nat × Nat × Nat × Nat) => fact (u = Nj x.1 x.2.1 x.2.2.1 x.2.2.2.2 c) • PL x.1 x.2.1 x.2.2.1 x.2.2.2.1 x.2.2.2.2 c else (fact ((u.all fun x => x.oneCell') = true))
def PN (hl : List pO) (c : mD) : Prop := 0 ≤ c.place ∧ c.place ≤ hl.length ∧ (∀ k t, c.tx k = some t → t.size ≤ 16384)
def xK (e : iU) : Prop := 0 ≤ e.1 ∧ 0 < e.2.1.length + e.2.2.length ∧ e.2.1.length ≤ 1024 ∧ e.2.2.length ≤ 1024
def lT (s : dJ) : Prop := PN s.hl s.c ∧ (s.inn = true → PN s.hl s.was ∧ iH (s.was.un s.was.place) [] ≤ 16384 ∧ ∀ k, ∀ g ∈ s.was.un k, ∀ e ∈ g, xK e) ∧ (-1 ≤ s.arg ∧ s.arg ≤ 1000000) ∧ (∀ e ∈ s.put, xK e) ∧ iH s.here s.put ≤ 16384 ∧ (∀ k, ∀ g ∈ s.c.un k, ∀ e ∈ g, xK e)
structure EdP where
  pb : Nat
  pr : Nat
  pw : Nat
  pt : Nat
  pm : Nat
  ph : Nat
  bl : Nat
  pv : Value
  es : List dV
  u0 : Value
  u1 : Value
  u2 : Value
  u3 : Value
  u4 : Value
  u5 : Value
  u6 : Value
  u7 : Value
  u8 : Value
  u9 : Value
  ua : Value
def EdG (e : Nat) (s : dJ) (M : Nat → HP) : HP := rV fun (x : EdP) => fact (lT s ∧ x.es.map dV.says = s.put) •
  dM e (.cells (.pointer (some ⟨x.pb, 0, none⟩) :: .pointer (some ⟨x.pr, 0, none⟩) :: .pointer (some ⟨x.pw, 0, none⟩) :: .map (some x.pm) :: .int .i64 s.c.mode :: .bool s.c.over :: .int .i64 s.c.last :: .int .i64 s.c.fr :: .int .i64 s.c.to :: .int .i64 s.c.res :: .bool s.c.run :: .pointer (some ⟨x.ph, 0, none⟩) :: .pointer (some ⟨x.bl, 0, none⟩) :: .bool s.given :: .bool s.minus :: .int .i64 s.arg :: .bool s.inn :: x.u0 :: x.u1 :: x.u2 :: x.u3 :: x.u4 :: x.u5 :: x.u6 :: x.u7 :: x.u8 :: x.u9 :: x.ua :: .int .i64 s.cls :: .bool s.killed :: .bool s.lH :: .bool s.argues :: .bool s.whole :: x.pv :: []).toArray 82 (0, 0)) •
  jg x.pb s.c.L s.c.pt s.c.mark • iG x.pr s.c.E s.c.at_ • dM x.pw (.cells #[.int .i64 s.c.place, .map (some x.pt)] 122 (0, 0)) • fJ qI x.pt (rU s.c.tx) • M x.pm •
  gJ x.ph s.hl s.base s.most • dM x.bl (.cells #[.int .i64 s.qO] 161 (0, 0)) • Row 189 3 x.pv s.put.length (x.es.flatMap dV.enc) • kK x.es • uS s.inn s.was [x.u0, x.u1, x.u2, x.u3, x.u4, x.u5, x.u6, x.u7, x.u8, x.u9, x.ua]
def gG (e : Nat) (s : dJ) : HP := EdG e s fun pm => wR pm s.c.un
def ac7 (e : Nat) (s : dJ) (p : Nat) : HP := EdG e s fun pm => Nh pm s.c.un s.c.place p
section
variable {w0 w : World} {F : HP} {e : Nat} {s : dJ} {M : Nat → HP}
theorem V.edG (H : V w0 w (EdG e s M • F)) : ∃ pb pr pw pt pm ph bl pv es u0 u1 u2 u3 u4 u5 u6 u7 u8 u9 ua, lT s ∧ es.map dV.says = s.put ∧ es.length = s.put.length ∧ V w0 w (
  dM e (.cells (.pointer (some ⟨pb, 0, none⟩) :: .pointer (some ⟨pr, 0, none⟩) :: .pointer (some ⟨pw, 0, none⟩) :: .map (some pm) :: .int .i64 s.c.mode :: .bool s.c.over :: .int .i64 s.c.last :: .int .i64 s.c.fr :: .int .i64 s.c.to :: .int .i64 s.c.res :: .bool s.c.run :: .pointer (some ⟨ph, 0, none⟩) :: .pointer (some ⟨bl, 0, none⟩) :: .bool s.given :: .bool s.minus :: .int .i64 s.arg :: .bool s.inn :: u0 :: u1 :: u2 :: u3 :: u4 :: u5 :: u6 :: u7 :: u8 :: u9 :: ua :: .int .i64 s.cls :: .bool s.killed :: .bool s.lH :: .bool s.argues :: .bool s.whole :: pv :: []).toArray 82 (0, 0)) •
  jg pb s.c.L s.c.pt s.c.mark • iG pr s.c.E s.c.at_ • dM pw (.cells #[.int .i64 s.c.place, .map (some pt)] 122 (0, 0)) • fJ qI pt (rU s.c.tx) • M pm •
  gJ ph s.hl s.base s.most • dM bl (.cells #[.int .i64 s.qO] 161 (0, 0)) • Row 189 3 pv s.put.length (es.flatMap dV.enc) • kK es • uS s.inn s.was [u0, u1, u2, u3, u4, u5, u6, u7, u8, u9, ua] • F) := by
  obtain ⟨⟨pb, pr, pw, pt, pm, ph, bl, pv, es, u0, u1, u2, u3, u4, u5, u6, u7, u8, u9, ua⟩, H⟩ := H.lQ
  obtain ⟨⟨h1, h2⟩, H⟩ := H.flat.fact
  refine ⟨pb, pr, pw, pt, pm, ph, bl, pv, es, u0, u1, u2, u3, u4, u5, u6, u7, u8, u9, ua, h1, h2, ?_, ?_⟩
  · rw [← h2]; simp
  · dsimp only at H
    exact H.of_eq (by simp only [bZ])
theorem V.aac {pb pr pw pt pm ph bl : Nat} {pv : Value} {es : List dV} {u0 u1 u2 u3 u4 u5 u6 u7 u8 u9 ua : Value} (h1 : lT s) (h2 : es.map dV.says = s.put) (H : V w0 w (
  dM e (.cells (.pointer (some ⟨pb, 0, none⟩) :: .pointer (some ⟨pr, 0, none⟩) :: .pointer (some ⟨pw, 0, none⟩) :: .map (some pm) :: .int .i64 s.c.mode :: .bool s.c.over :: .int .i64 s.c.last :: .int .i64 s.c.fr :: .int .i64 s.c.to :: .int .i64 s.c.res :: .bool s.c.run :: .pointer (some ⟨ph, 0, none⟩) :: .pointer (some ⟨bl, 0, none⟩) :: .bool s.given :: .bool s.minus :: .int .i64 s.arg :: .bool s.inn :: u0 :: u1 :: u2 :: u3 :: u4 :: u5 :: u6 :: u7 :: u8 :: u9 :: ua :: .int .i64 s.cls :: .bool s.killed :: .bool s.lH :: .bool s.argues :: .bool s.whole :: pv :: []).toArray 82 (0, 0)) •
  jg pb s.c.L s.c.pt s.c.mark • iG pr s.c.E s.c.at_ • dM pw (.cells #[.int .i64 s.c.place, .map (some pt)] 122 (0, 0)) • fJ qI pt (rU s.c.tx) • M pm •
  gJ ph s.hl s.base s.most • dM bl (.cells #[.int .i64 s.qO] 161 (0, 0)) • Row 189 3 pv s.put.length (es.flatMap dV.enc) • kK es • uS s.inn s.was [u0, u1, u2, u3, u4, u5, u6, u7, u8, u9, ua] • F)) : V w0 w (EdG e s M • F) :=
  V.iD ⟨pb, pr, pw, pt, pm, ph, bl, pv, es, u0, u1, u2, u3, u4, u5, u6, u7, u8, u9, ua⟩ (V.deep (V.kE ⟨h1, h2⟩ (H.of_eq (by simp only [bZ]))))
theorem V.iI {pb pr pw pt pm ph bl : Nat} {pv : Value} {es : List dV} {u0 u1 u2 u3 u4 u5 u6 u7 u8 u9 ua : Value} (h1 : lT s) (h2 : es.map dV.says = s.put) (H : V w0 w (
  dM e (.cells (.pointer (some ⟨pb, 0, none⟩) :: .pointer (some ⟨pr, 0, none⟩) :: .pointer (some ⟨pw, 0, none⟩) :: .map (some pm) :: .int .i64 s.c.mode :: .bool s.c.over :: .int .i64 s.c.last :: .int .i64 s.c.fr :: .int .i64 s.c.to :: .int .i64 s.c.res :: .bool s.c.run :: .pointer (some ⟨ph, 0, none⟩) :: .pointer (some ⟨bl, 0, none⟩) :: .bool s.given :: .bool s.minus :: .int .i64 s.arg :: .bool s.inn :: u0 :: u1 :: u2 :: u3 :: u4 :: u5 :: u6 :: u7 :: u8 :: u9 :: ua :: .int .i64 s.cls :: .bool s.killed :: .bool s.lH :: .bool s.argues :: .bool s.whole :: pv :: []).toArray 82 (0, 0)) •
  jg pb s.c.L s.c.pt s.c.mark • iG pr s.c.E s.c.at_ • dM pw (.cells #[.int .i64 s.c.place, .map (some pt)] 122 (0, 0)) • fJ qI pt (rU s.c.tx) • wR pm s.c.un •
  gJ ph s.hl s.base s.most • dM bl (.cells #[.int .i64 s.qO] 161 (0, 0)) • Row 189 3 pv s.put.length (es.flatMap dV.enc) • kK es • uS s.inn s.was [u0, u1, u2, u3, u4, u5, u6, u7, u8, u9, ua] • F)) : V w0 w (gG e s • F) := V.aac (M := fun pm => wR pm s.c.un) h1 h2 H
theorem V.Gz (H : V w0 w (gG e s • F)) : ∃ pb pr pw pt pm ph bl pv es u0 u1 u2 u3 u4 u5 u6 u7 u8 u9 ua, lT s ∧ es.map dV.says = s.put ∧ es.length = s.put.length ∧ V w0 w (
  dM e (.cells (.pointer (some ⟨pb, 0, none⟩) :: .pointer (some ⟨pr, 0, none⟩) :: .pointer (some ⟨pw, 0, none⟩) :: .map (some pm) :: .int .i64 s.c.mode :: .bool s.c.over :: .int .i64 s.c.last :: .int .i64 s.c.fr :: .int .i64 s.c.to :: .int .i64 s.c.res :: .bool s.c.run :: .pointer (some ⟨ph, 0, none⟩) :: .pointer (some ⟨bl, 0, none⟩) :: .bool s.given :: .bool s.minus :: .int .i64 s.arg :: .bool s.inn :: u0 :: u1 :: u2 :: u3 :: u4 :: u5 :: u6 :: u7 :: u8 :: u9 :: ua :: .int .i64 s.cls :: .bool s.killed :: .bool s.lH :: .bool s.argues :: .bool s.whole :: pv :: []).toArray 82 (0, 0)) •
  jg pb s.c.L s.c.pt s.c.mark • iG pr s.c.E s.c.at_ • dM pw (.cells #[.int .i64 s.c.place, .map (some pt)] 122 (0, 0)) • fJ qI pt (rU s.c.tx) • wR pm s.c.un •
  gJ ph s.hl s.base s.most • dM bl (.cells #[.int .i64 s.qO] 161 (0, 0)) • Row 189 3 pv s.put.length (es.flatMap dV.enc) • kK es • uS s.inn s.was [u0, u1, u2, u3, u4, u5, u6, u7, u8, u9, ua] • F) := H.edG
end
end Go.Proofs.YtpdeedplgmbopaaGreatDoor
end
section
namespace Go.Proofs.YtpdeedplgmbopaaGreatDoor
open Go.RowKit
open _root_.Go.Proofs.Tryz
def KT {β : Type} (f : Int → Option β) (S : List Int) : Int → Option β := fun k => if k ∈ S then f k else none
theorem Nk {β : Type} (f : Int → Option β) : KT f [] = fun _ => none := by funext k; simp [KT]
theorem JB {β : Type} {f : Int → Option β} {S : List Int} {a : Int} {u : β} (h : f a = some u) : KT f (S ++ [a]) = upd (KT f S) a u := by
  funext k
  unfold KT upd
  by_cases hk : k = a
  · subst hk; simp [h]
  · simp [hk]
theorem Nl {β : Type} {f : Int → Option β} {S : List Int} (h : ∀ a u, f a = some u → a ∈ S) : KT f S = f := by
  funext k
  unfold KT
  split
  · rfl
  · rename_i hk
    cases hf : f k with
    | none => rfl
    | some u => exact absurd (h k u hf) hk
theorem Q7 (P : Int → Nat) : Nc [] P = fun _ => none := by funext k; simp [Nc]
theorem Vq {D : List Int} {P : Int → Nat} {a : Int} {u : Value} (h : Nc D P a = some u) : a ∈ D ∧ u = .pointer (some ⟨P a, 0, none⟩) := by
  unfold Nc at h
  split at h
  · rename_i hm; exact ⟨hm, by cases h; rfl⟩
  · cases h
theorem Np {S : List Int} {P : Int → Nat} {a : Int} {q : Nat} (h : a ∉ S) : Nc (S ++ [a]) (wQ P a q) = upd (Nc S P) a (.pointer (some ⟨q, 0, none⟩)) := by
  funext k
  unfold Nc upd wQ
  by_cases hk : k = a
  · subst hk; simp
  · simp [hk]
theorem GH {P : Int → Nat} {U : Int → List (List iU)} {a : Int} : ∀ {S : List Int}, EK P U (S ++ [a]) = (EK P U S • iQ (P a) (U a) [] 0)
  | [] => by show (iQ (P a) (U a) [] 0 • emp) = (emp • iQ (P a) (U a) [] 0); rw [uU, nI]
  | x :: S => by
    show (iQ (P x) (U x) [] 0 • EK P U (S ++ [a])) = ((iQ (P x) (U x) [] 0 • EK P U S) • iQ (P a) (U a) [] 0)
    rw [GH, bZ]
theorem Ee {α : Type} {o : Option α} (h : ¬ o.isSome = true) : o = none := by cases o <;> simp_all
theorem GI {S : List Int} {a : Int} (h : S.Nodup) (ha : a ∉ S) : (S ++ [a]).Nodup := by
  rw [List.nodup_append]
  exact ⟨h, by simp, by intro x hx y hy; rw [List.mem_singleton.1 hy]; rintro rfl; exact ha hx⟩
section
variable {w0 w : World} {F : HP} {pb pr pw pt pm : Nat} {c : mD}
theorem Nq (H : V w0 w (jg pb c.L c.pt c.mark • iG pr c.E c.at_ • dM pw (.cells #[.int .i64 c.place, .map (some pt)] 122 (0, 0)) • fJ qI pt (rU c.tx) • wR pm c.un • F)) :
  gQ prog 80 #[.agg #[.pointer (some ⟨pb, 0, none⟩), .pointer (some ⟨pr, 0, none⟩), .pointer (some ⟨pw, 0, none⟩), .map (some pm), .int .i64 c.mode, .bool c.over, .int .i64 c.last, .int .i64 c.fr, .int .i64 c.to, .int .i64 c.res, .bool c.run]] w fun v w' =>
   ∃ qb qr qw qt qm, v = .agg #[.pointer (some ⟨qb, 0, none⟩), .pointer (some ⟨qr, 0, none⟩), .pointer (some ⟨qw, 0, none⟩), .map (some qm), .int .i64 c.mode, .bool c.over, .int .i64 c.last, .int .i64 c.fr, .int .i64 c.to, .int .i64 c.res, .bool c.run] ∧
    V w0 w' (jg qb c.L c.pt c.mark • iG qr c.E c.at_ • dM qw (.cells #[.int .i64 c.place, .map (some qt)] 122 (0, 0)) • fJ qI qt (rU c.tx) • wR qm c.un •
     jg pb c.L c.pt c.mark • iG pr c.E c.at_ • dM pw (.cells #[.int .i64 c.place, .map (some pt)] 122 (0, 0)) • fJ qI pt (rU c.tx) • wR pm c.un • F) := by
 refine iC func80 ntmps80 ?_
 refine iy (jy (iO (l := [_, _, _, _, _, _, _, _, _, _, _]) H O O) ?_)
 rintro _ w1 ⟨b1, rfl, H1⟩
 refine jy (fM (l := [_, _, _, _, _, _, _, _, _, _, _]) H1 lI O) ?_
 rintro _ w2 ⟨b2, rfl, H2⟩
 refine pJ ?_
 have UL := H2.drew
 have yu := V.kp (UL.f7.f7.f7.f7.f7.f7.f7)
 refine yj [1, 4] yu O (gU 0 O yu 0 aH O vK O (jQ 1 O yu (fun W hW => kC qo O ((Kp.h hW).f2).get.2 O) (gU 3 O yu 1 aH O sizeOf73 O (jQ 4 O yu (fun W hW => kC tH O ((Kp.h hW).f2).get.2 O) (oC 2 O (yJ O func129 (IG UL.f3)) ?_)))))
 rintro _ w3 ⟨q3, rfl, H3⟩
 have yN := V.kp (H3.f8.f8.f8.f8.f8.f8.f8.f8)
 refine dX yN (fun W hW => (Kp.h hW).right.f7.f7.f7.f7.f5.f7.f7) ?_
 refine gU 6 O yN 0 aH O vK O (oC 5 O (yJ O func85 (zL H3.f5)) ?_)
 rintro _ w4 ⟨pc4, rfl, H4⟩
 have xG := V.kp (H4.f9.f9.f9.f9.f9.f9.f9.f9.f9)
 refine gV xG (by kernel_rfl) ?_
 refine fQ 7 O (by kernel_rfl) (fE 0 (l' := [_, _, _, _, _, _, _, _, _, _, _]) H4.f6 vK O O (by first | rfl | assumption) O O) ?_
 rintro _ w5 H5
 have BM := V.kp (H5.f9.f9.f9.f9.f9.f9.f9.f9.f9)
 refine gV BM (by kernel_rfl) ?_
 refine gU 8 O BM 1 aH O sizeOf73 O ?_
 refine fQ 9 O (by kernel_rfl) (fE 1 (l' := [_, _, _, _, _, _, _, _, _, _, _]) H5 sizeOf73 O O (by first | rfl | assumption) O O) ?_
 rintro _ w6 H6
 have IQ := V.kp (H6.f9.f9.f9.f9.f9.f9.f9.f9.f9)
 refine gV IQ (by kernel_rfl) ?_
 refine qR (aW (iy (bF 2 aH O sizeOf74 O (gq kF O (H6).get.2 O (dL O (bF 0 fB O aj O (gq aN O (H6.f7).get.2 O (jy (jJ (wC .i64) H6) ?_))))))))
 rintro _ w7 ⟨b7, rfl, H7⟩
 refine Z (pI (pl := #[(0, 1), (1, 1)]) (#[_, _]) fB mZ (fun w => by kernel_rfl) O (O)) (jy (iO (l := [_, _]) H7 O O) ?_)
 rintro _ w8 ⟨b8, rfl, H8⟩
 refine vZ O (iy (bF 2 aH O sizeOf74 O (gq kF O (H8.f3).get.2 O (dL O (bF 1 fB O sizeOf120 O (gq underlying120 O (H8.f9).get.2 O (jy (zW H8.f10 underlying120 O) ?_)))))))
 rintro _ w9 ⟨it9, mi, rfl, H9⟩
 refine iK (aZ ?_)
 obtain ⟨R10, ac8, ac9⟩ := V.FN (H9.f2.f3.f3)
 have HX0 := ac9
 rw [← Nk (rU c.tx)] at HX0
 refine fC [(1, _), (2, _), (3, _), (30, _)] (fun (⟨S, n⟩ : List Int × Nat) => []) (fun (⟨S, n⟩ : List Int × Nat) W => V w0 W (Bl qI pt it9 (rU c.tx) S n • fJ qI b7 (KT (rU c.tx) S) • dM b8 (.cells #[.int .i64 c.place, .map (some b7)] 122 (0, 0)) • R10)) (fun (⟨S, n⟩ : List Int × Nat) => n) (([], _)) Kq (Sub.nil _) HX0 ?_
 rintro ⟨S, n⟩ EI HL
 dsimp only [List.cons_append, List.nil_append]
 refine iy (jy (BQ HL O) ?_)
 rintro _ w12 ⟨ox, Sx, mx, rfl, Zb, uG⟩
 refine Z (Vl O) (pJ (bG O (fun h1 => ?_) (fun h1 => ?_)))
 ·(try simp only [aF] at h1)
  obtain ⟨⟨a, u⟩, rfl⟩ := Option.isSome_iff_exists.1 h1
  obtain ⟨ha, hns, hlt, rfl⟩ := Zb
  refine fV (aZ (iy ?_))
  refine Z (KR (uG) (by assumption) O) ?_
  refine uD O O (uD O O (fU O (gB O (aB (nG O O (bF 1 fB O sizeOf120 O (gq underlying120 O (uG.f3).get.2 O (jF O O (aK (tY uG.f2 underlying120 aN O O O) ?_)))))))))
  rintro _ Pn wZ
  refine bP (aJ ?_)
  have hres := JB (S := S) ha
  refine dH ((S ++ [a], mx)) ?_ ?_ ?_ ?_
  ·exact (Sub.nil _)
  ·exact Kq
  ·(try dsimp only)
   first | done | exact (by rw [hres]; exact wZ.f3.f2.f3)
  ·(try dsimp only); omega
 ·(try simp only [aF] at h1)
  obtain rfl := Ee (o := ox) (by simp [h1])
  obtain ⟨rfl, rfl, hall⟩ := Zb
  refine dn (aI ?_)
  have HX := uG.f3.f2.f3
  rw [Nl hall] at HX
  have aad := HX.f2
  have aae := aad.Eb
  subst ac8
  refine aI (aY (aW (bT O (bF 2 aH O sizeOf74 O (aK (fE 2 (l' := [_, _, _, _, _, _, _, _, _, _, _]) aae.f4 sizeOf74 O O (by first | rfl | assumption) O O) ?_)))))
  rintro _ w16 yL
  refine Xj (jy (jJ (wC .i64) yL) ?_)
  rintro _ Zc ⟨b17, rfl, Iu⟩
  refine vZ O (aO ?_)
  obtain ⟨D, P, hD1, hD2, HU⟩ := (Iu.f12).X0
  refine aB (bF 3 aH O sizeOf75 O (gq kG O (HU.f4).get.2 O (jy (zW HU kG O) ?_)))
  rintro _ XG ⟨ada, mi, rfl, CW⟩
  refine iK (aZ ?_)
  obtain ⟨R19, adb, ade⟩ := V.FN (CW.f3.f3.f3)
  have HX0 := ade
  rw [← Q7 P] at HX0
  refine fC [(1, _), (2, _), (6, _), (47, _)] (fun (⟨S, n, P2⟩ : List Int × Nat × (Int → Nat)) => []) (fun (⟨S, n, P2⟩ : List Int × Nat × (Int → Nat)) W => S.Nodup ∧ V w0 W (Bl qI pm ada (Nc D P) S n • EK P c.un D • fJ qI b17 (Nc S P2) • EK P2 c.un S • R19)) (fun (⟨S, n, P2⟩ : List Int × Nat × (Int → Nat)) => n) (([], _, P)) Kq (Sub.nil _) ⟨List.nodup_nil, (HX0).of_eq (by show _ = (_ • _ • _ • emp • _); rw [nI])⟩ ?_
  rintro ⟨S, n, P2⟩ w20 ⟨hS, HL⟩
  dsimp only [List.cons_append, List.nil_append]
  refine iy (jy (BQ HL O) ?_)
  rintro _ w21 ⟨ox, Sx, mx, rfl, Zb, IK⟩
  refine Z (Vl O) (pJ (bG O (fun h2 => ?_) (fun h2 => ?_)))
  ·(try simp only [aF] at h2)
   obtain ⟨⟨a, u⟩, rfl⟩ := Option.isSome_iff_exists.1 h2
   obtain ⟨ha, hns, hlt, rfl⟩ := Zb
   obtain ⟨hmem, rfl⟩ := Vq ha
   have HF := IK.f2
   rw [qP hmem] at HF
   have HF2 := HF.flat
   refine fV (aZ (iy ?_))
   refine Z (KR (HF2.f3) (by assumption) O) ?_
   refine uD O O (uD O O (fU O (gB O (aB (jF O O (bQ O (eG O func130 (Gu HF2) ?_)))))))
   rintro _ w22 ⟨q22, rfl, O4⟩
   refine aK (tY O4.f5 kG aN O O O) ?_
   rintro _ w23 IL
   refine bP (aJ ?_)
   have HQ := IL.f2.f6.f3.f5.f5.f6
   have hu1 : EK (wQ P2 a q22) c.un (S ++ [a]) = (EK P2 c.un S • iQ q22 (c.un a) [] 0) := by
    rw [GH, nS, AA (P' := P2) (U' := c.un) fun x hx => ⟨tX _ _ (by rintro rfl; exact hns hx), rfl⟩]
   refine dH ((S ++ [a], mx, wQ P2 a q22)) ?_ ?_ ?_ ?_
   ·exact (Sub.nil _)
   ·exact Kq
   ·(try dsimp only)
    first | done | exact ⟨GI hS hns, HQ.of_eq (by rw [qP hmem, hu1, Np hns]; ac_rfl)⟩
   ·(try dsimp only); omega
  ·(try simp only [aF] at h2)
   obtain rfl := Ee (o := ox) (by simp [h2])
   obtain ⟨rfl, rfl, hall⟩ := Zb
   refine dn (aI ?_)
   have adf := IK
   have adg := adf.Eb
   subst adb
   have adh := adg.f2.f2
   have adi := V.AB hD1 hD2 adh
   have hnS : ∀ k, k ∉ Sx → c.un k = [] := fun k hk => hD2 k fun hkD => hk (hall k _ (if_pos hkD))
   have aaf := adi.f3.f3
   have SL := V.AB hS hnS aaf
   refine aI (aY (aW (bT O (bF 3 aH O sizeOf75 O (aK (fE 3 (l' := [_, _, _, _, _, _, _, _, _, _, _]) SL.f3 sizeOf75 O O (by first | rfl | assumption) O O) ?_)))))
   rintro _ w30 Vr
   refine Xj (Z (fD aH O aU O O (Vr).get.2) (aK (bW 0 (l' := [_, _, _, _, _, _, _, _, _, _, _]) (us := [_, _, _, _, _, _, _, _, _, _, _]) Vr.f11 aU O O O (aA (aA (aA (aA (aA (aA (aA (aA (aA (aA (aA bD))))))))))) O O) ?_))
   rintro _ w31 SN
   refine YV ?_
   refine pY (.inl O) (J8 results80 O aH O (by rw [abN]; rfl) (SN).get.2) ?_
   exact ⟨_, _, _, _, _, O, SN.right.right.f2.f3.f10.f8.f10.f6.f7.f8.f9.f10⟩
end
end Go.Proofs.YtpdeedplgmbopaaGreatDoor
end
section
namespace Go.Proofs.YtpdeedplgmbopaaGreatDoor
open Go.RowKit
section
variable {P : Program} {L : List (Nat × Value)} {w0 w : World} {F : HP} {ty : TypeId} {α : Type} {K : Key α} {f : α → Option Value} {a : α} {b : Nat} {x y z : Operand}
theorem yC [DecidableEq α] {t kt et : TypeId} {v : Value} (H : V w0 w (fJ K b f • F)) (ht : P.underlying t = some (.map kt et)) (hk : P.underlying kt = some K.d)
    (hx : ev L x = some (.map (some b))) (hy : ev L y = some (K.mk a)) (hz : ev L z = some v) : uw P L (.insert t x y z) ty w fun _ w' => V w0 w' (fJ K b (upd f a v) • F) := tY (ty := ty) (y := y) (z := z) H ht hk hx hy hz
theorem SQ {t t' kt et : TypeId} {a : Option Nat} (ht : P.underlying t = some (.map kt et)) (hx : ev L x = some (.map a)) (hy : ev L y = some (.map none)) : Val P L (.binOp .eql t x y t') ty w (.bool a.isNone) w := fun ρ hρ _ _ _ _ => by
  simp only [execOp, hρ _ _ hx, hρ _ _ hy]
  have h1 : (eqGuard .eql t x y (.map a) (.map none)).run P w = .ok () w := by unfold eqGuard; rfl
  have h2 : (Op.equal t (.map a) (.map none)).run P w = .ok a.isNone w := Ap fun d => by cases a <;> simp [Op.equalIn, run_underlying ht]
  have h3 : binOp .eql t (.map a) (.map none) = (do pure (.bool (← Op.equal t (.map a) (.map none)))) := by rfl
  simp only [Sem.run_bind, h1, Result.andThen, h3, h2]
  simp
end
def ends (T : List (Int × Int)) : List Int := T.flatMap fun x => [x.1, x.2]
section
variable {w0 w : World} {F : HP} {r : Int}
abbrev adj : List (Int × Int) := [(48, 57), (65, 90), (97, 122)]
abbrev aeQ : List (Int × Int) := [(215, 215), (247, 247), (8192, 8303), (12288, 12351), (65280, 65295), (65533, 65533)]
end
def jY (P : Int → Bool) (l : List Int) (x : Int) : Int := x + (((l.drop x.toNat).takeWhile P).length : Nat)
def uJ (P : Int → Bool) (l : List Int) (x : Int) : Int := x - (((l.take x.toNat).reverse.takeWhile P).length : Nat)
section
variable {P : Int → Bool} {l : List Int} {x : Int}
theorem jr (h : (l.length : Int) ≤ x) : jY P l x = x := by
  unfold jY
  rw [List.drop_of_length_le (by omega)]
  simp
theorem qy (h0 : 0 ≤ x) (h1 : x < l.length) (h : P (l.getD x.toNat 0) = true) : jY P l x = jY P l (x + 1) := by
  unfold jY
  rw [List.getD_eq_getElem?_getD, List.getElem?_eq_getElem (by omega), Option.getD_some] at h
  rw [List.drop_eq_getElem_cons (by omega), List.takeWhile_cons, if_pos h, show (x + 1).toNat = x.toNat + 1 from by omega, List.length_cons]
  omega
theorem kU (h0 : 0 ≤ x) (h1 : x < l.length) (h : ¬ P (l.getD x.toNat 0) = true) : jY P l x = x := by
  unfold jY
  rw [List.getD_eq_getElem?_getD, List.getElem?_eq_getElem (by omega), Option.getD_some] at h
  rw [List.drop_eq_getElem_cons (by omega), List.takeWhile_cons, if_neg h]
  simp
theorem qJ (h0 : 0 ≤ x) (h1 : x ≤ l.length) : x ≤ jY P l x ∧ jY P l x ≤ l.length := by
  unfold jY
  have h2 := (List.takeWhile_sublist P (l := l.drop x.toNat)).length_le
  rw [List.length_drop] at h2
  omega
theorem tZ (h : x ≤ 0) : uJ P l x = x := by
  unfold uJ
  rw [show x.toNat = 0 from by omega]
  simp
theorem Nr (h0 : 0 < x) (h1 : x ≤ l.length) : (l.take x.toNat).reverse = l.getD (x - 1).toNat 0 :: (l.take (x - 1).toNat).reverse := by
  rw [show x.toNat = (x - 1).toNat + 1 from by omega, List.take_succ_eq_append_getElem (by omega), List.reverse_append, List.getD_eq_getElem?_getD, List.getElem?_eq_getElem (by omega)]
  rfl
theorem GK (h0 : 0 < x) (h1 : x ≤ l.length) (h : P (l.getD (x - 1).toNat 0) = true) : uJ P l x = uJ P l (x - 1) := by
  unfold uJ
  rw [Nr h0 h1, List.takeWhile_cons, if_pos h, List.length_cons]
  omega
theorem xg (h0 : 0 < x) (h1 : x ≤ l.length) (h : ¬ P (l.getD (x - 1).toNat 0) = true) : uJ P l x = x := by
  unfold uJ
  rw [Nr h0 h1, List.takeWhile_cons, if_neg h]
  simp
theorem GL (h0 : 0 ≤ x) (h1 : x ≤ l.length) : 0 ≤ uJ P l x ∧ uJ P l x ≤ x := by
  unfold uJ
  have h2 := (List.takeWhile_sublist P (l := (l.take x.toNat).reverse)).length_le
  rw [List.length_reverse, List.length_take] at h2
  omega
end
end Go.Proofs.YtpdeedplgmbopaaGreatDoor
end
section
namespace Go.Proofs.YtpdeedplgmbopaaGreatDoor
open Go.RowKit
open _root_.Go.Proofs.Tryz
def eU (r : Int) : Int := if r = 32 ∨ r = 9 ∨ r = 10 then 0 else if r = 95 ∨ dP r = true then 1 else 2
def cZ (r : Int) (big : Bool) : Int := if big then min (eU r) 1 else eU r
def xk (l : List Int) (x : Int) (big : Bool) : Int :=
  jY (fun r => eU r == 0) l (if x < l.length then (if cZ (l.getD x.toNat 0) big = 0 then x else jY (fun r => cZ r big == cZ (l.getD x.toNat 0) big) l x) else x)
section
variable {w0 w : World} {F : HP} {r x : Int} {big : Bool} {l : List Int} {v : Value}
theorem oh (H : V w0 w F) (hT : yK w0) : gQ prog 14 #[.int .i32 r] w fun v' w' => v' = .int .i64 (eU r) ∧ V w0 w' F := by
  refine iC func14 ntmps14 ?_
  refine jk O (aO (aZ (bT O (Z (dO O O) (jL O (fun h1 => ?_) (fun h1 => ?_))))))
  · (try simp only [aF] at h1)
    refine bH (bH (jw O O (bQ O (bH (bH (jw O O (gB O (Iz (jd O (aS (aG (dG results14 O ?_))))))))))))
    exact ⟨by unfold eU; rw [if_pos (by omega)], H⟩
  · (try simp only [aF] at h1)
    refine bC (bQ O (bC (Z (dO O O) (iJ O O (jL O (fun h2 => ?_) (fun h2 => ?_))))))
    · (try simp only [aF] at h2)
      refine bH (bH (jw O O (gB O (Iz (jd O (aS (aG (dG results14 O ?_))))))))
      exact ⟨by unfold eU; rw [if_pos (by omega)], H⟩
    · (try simp only [aF] at h2)
      refine bC (bQ O (bC (Z (dO O O) (iJ O O (gB O (bG O (fun h3 => ?_) (fun h3 => ?_)))))))
      · (try simp only [aF] at h3)
        refine jd O (aS (aG (dG results14 O ?_)))
        exact ⟨by unfold eU; rw [if_pos (by omega)], H⟩
      · (try simp only [aF] at h3)
        refine bT O (Z (dO O O) (jL O (fun h4 => ?_) (fun h4 => ?_)))
        · (try simp only [aF] at h4)
          refine bH (bH (jw O O (gB O (Iz (jd O (aS (aG (dG results14 O ?_))))))))
          exact ⟨by unfold eU; rw [if_neg (by omega), if_pos (by first | (left; omega) | (right; assumption))], H⟩
        · (try simp only [aF] at h4)
          refine bC (bQ O (bC (eG O func47 (OY H hT) ?_)))
          rintro _ w1 ⟨rfl, H1⟩
          refine iJ O O (gB O (bG O (fun h5 => ?_) (fun h5 => ?_)))
          · (try simp only [aF] at h5)
            refine jd O (aS (aG (dG results14 O ?_)))
            exact ⟨by unfold eU; rw [if_neg (by omega), if_pos (by first | (left; omega) | (right; assumption))], H1⟩
          · (try simp only [aF] at h5)
            refine bU (aJ (aW (jd O (dG results14 O ?_))))
            exact ⟨by unfold eU; rw [if_neg (by omega), if_neg (by intro c; rcases c with c | c; omega; simp_all)], H1⟩
theorem lM (H : V w0 w F) (hT : yK w0) : gQ prog 142 #[.int .i32 r, .bool big] w fun v' w' => v' = .int .i64 (cZ r big) ∧ V w0 w' F := by
  refine nH func142 ntmps142 ?_
  refine jk O (aO (bT O (iV O (fun h1 => ?_) (fun h1 => ?_))))
  · (try simp only [aF] at h1)
    have hb : big = true := h1
    refine bT O (eG O func14 (oh H hT) ?_)
    rintro _ w1 ⟨rfl, H1⟩
    refine Z (zC O O) (fF O (aG (dG results142 O ?_)))
    exact ⟨by unfold cZ; rw [if_pos hb], H1⟩
  · (try simp only [aF] at h1)
    have hb : big = false := h1
    refine fV (bT O (eG O func14 (oh H hT) ?_))
    rintro _ w2 ⟨rfl, H2⟩
    refine fF O (dG results142 O ?_)
    exact ⟨by unfold cZ; rw [if_neg (by rw [hb]; decide)], H2⟩
end
section
variable {w0 w : World} {F : HP} {r x : Int} {big : Bool} {l : List Int} {v : Value}
theorem SS (H : V w0 w F) (hr : jM w0 F .i32 v l) (hT : yK w0) (hx0 : 0 ≤ x) (hx1 : x ≤ l.length) : gQ prog 95 #[v, .int .i64 x, .bool big] w fun v' w' => v' = .int .i64 (xk l x big) ∧ V w0 w' F := by
 have Ug : l.length ≤ 9223372036854775807 := by have := (hr _ H).open; obtain ⟨a, c, e, h3, h4, _⟩ := this; omega
 refine FY func95 ntmps95 ?_
 refine jk O (aO (bT O (bQ O (Z (iF (hr _ (H)) ay O) (Z (gZ O O) (iV O (fun h1 => ?_) (fun h1 => ?_)))))))
 ·(try simp only [aF] at h1)
  refine bT O (bQ O ?_)
  obtain ⟨bv, ov, cv, ev⟩ := eX.nX (hr _ (H)) (by omega)
  cases ev
  refine Z (dw ay bK O O (by omega)) ?_
  refine Z (dR (bV bf O) O (by first | exact eX.jT (hr _ (H)) (by omega) | exact eX.rP (hr _ (H)) (by omega) | exact eX.rO (hr _ (H)) (by omega))) ?_
  refine bQ O (eG O func142 (lM H hT) ?_)
  rintro _ w1 ⟨rfl, H1⟩
  refine gB O (bT O (Z (iZ O O) (iV O (fun h2 => ?_) (fun h2 => ?_))))
  ·(try simp only [aF] at h2)
   have hk : ¬ cZ (l.getD x.toNat 0) big = 0 := h2
   refine aZ ?_
   refine fC [(0, _), (2, _), (7, _)] (fun (y : Int) => [(1, .int .i64 y)]) (fun (y : Int) W => ((0 ≤ y ∧ y ≤ l.length) ∧ jY (fun r => cZ r big == cZ (l.getD x.toNat 0) big) l y = jY (fun r => cZ r big == cZ (l.getD x.toNat 0) big) l x) ∧ V w0 W F) (fun (y : Int) => (l.length - y).toNat) (x) uF kD ⟨⟨⟨hx0, hx1⟩, O⟩, H1⟩ ?_
   rintro y w2 ⟨⟨⟨hy0, hyl⟩, hy⟩, HL⟩
   dsimp only [List.cons_append, List.nil_append]
   refine aO (bT O (bQ O (Z (nM ay O) (Z (gZ O O) (jL O (fun h3 => ?_) (fun h3 => ?_))))))
   ·(try simp only [aF] at h3)
    refine bC (bQ O (bC (bQ O (bC (Z (dw ay bK O O (by omega)) (bC ?_))))))
    refine Z (dR (bV bf O) O (by first | exact eX.jT (hr _ (HL)) (by omega) | exact eX.rP (hr _ (HL)) (by omega) | exact eX.rO (hr _ (HL)) (by omega))) ?_
    refine bC (bQ O (bC (eG O func142 (lM HL hT) ?_)))
    rintro _ w3 ⟨rfl, H3⟩
    refine bC (bQ O (bC (Z (dO O O) (jw O O (iV O (fun h4 => ?_) (fun h4 => ?_))))))
    ·(try simp only [aF] at h4)
     have hP : (cZ (l.getD y.toNat 0) big == cZ (l.getD x.toNat 0) big) = true := by rw [beq_iff_eq]; exact h4
     refine fV (aZ (aB (bQ O (Z (fK O O (by omega)) (fU O (bP (aJ ?_)))))))
     refine dH (y + 1) ?_ ?_ ?_ ?_
     ·exact kD
     ·exact uF
     ·(try dsimp only)
      first | done | exact ⟨⟨⟨by omega, by omega⟩, (qy hy0 (by omega) hP).symm.trans hy⟩, H3⟩
     ·(try dsimp only); omega
    ·(try simp only [aF] at h4)
     have hP : ¬ (cZ (l.getD y.toNat 0) big == cZ (l.getD x.toNat 0) big) = true := by rw [beq_iff_eq]; exact h4
     refine dn (aI (aI (aY (aW (aO (aZ ?_))))))
     try have e1 : jY (fun r => cZ r big == cZ (l.getD x.toNat 0) big) l x = y := hy.symm.trans (by first | exact jr (by omega) | exact kU hy0 (by omega) hP)
     refine fC [(0, _)] (fun (z : Int) => [(1, .int .i64 z)]) (fun (z : Int) W => ((0 ≤ z ∧ z ≤ l.length) ∧ xk l x big = jY (fun r => eU r == 0) l z) ∧ V w0 W F) (fun (z : Int) => (l.length - z).toNat) (_) kD kD ⟨⟨⟨by omega, by omega⟩, by unfold xk; first | (rw [if_neg (by omega)]; done) | (rw [if_pos (by omega), if_pos hk]; done) | (rw [if_pos (by omega), if_neg hk, e1]; done)⟩, H3⟩ ?_
     rintro z w4 ⟨⟨⟨hz0, hzl⟩, hz⟩, HM⟩
     dsimp only [List.cons_append, List.nil_append]
     refine aO (bT O (bQ O (Z (nM ay O) (Z (gZ O O) (jL O (fun h5 => ?_) (fun h5 => ?_))))))
     ·(try simp only [aF] at h5)
      refine bC (bQ O (bC (bQ O (bC (Z (dw ay bK O O (by omega)) (bC ?_))))))
      refine Z (dR (bV bf O) O (by first | exact eX.jT (hr _ (HM)) (by omega) | exact eX.rP (hr _ (HM)) (by omega) | exact eX.rO (hr _ (HM)) (by omega))) ?_
      refine bC (eG O func14 (oh HM hT) ?_)
      rintro _ w5 ⟨rfl, H5⟩
      refine bC (Z (dO O O) (jw O O (iV O (fun h6 => ?_) (fun h6 => ?_))))
      ·(try simp only [aF] at h6)
       have hQ : (eU (l.getD z.toNat 0) == 0) = true := by rw [beq_iff_eq]; exact h6
       refine fV (aZ (aB (bQ O (Z (fK O O (by omega)) (fU O (bP (aJ ?_)))))))
       refine dH (z + 1) ?_ ?_ ?_ ?_
       ·exact kD
       ·exact kD
       ·(try dsimp only)
        first | done | exact ⟨⟨⟨by omega, by omega⟩, hz.trans (qy hz0 (by omega) hQ)⟩, H5⟩
       ·(try dsimp only); omega
      ·(try simp only [aF] at h6)
       have hQ : ¬ (eU (l.getD z.toNat 0) == 0) = true := by rw [beq_iff_eq]; exact h6
       refine dn (aI (aI (aY (aW (bT O (fF O (dG results95 O ?_)))))))
       exact ⟨by rw [hz]; first | rw [jr (by omega)] | rw [kU hz0 (by omega) hQ], H5⟩
     ·(try simp only [aF] at h5)
      refine bH (bH (bH (bH (bH (bH (iJ O O (iK (pW (dn (aI (aI (aY (aW (bT O (fF O (dG results95 O ?_))))))))))))))))
      exact ⟨by rw [hz]; first | rw [jr (by omega)] | rw [kU hz0 (by omega) hQ], HM⟩
   ·(try simp only [aF] at h3)
    refine bH (bH (bH (bH (bH (bH (bH (bH (iJ O O (iK (pW (dn (aI (aI (aY (aW (aO (aZ ?_)))))))))))))))))
    try have e1 : jY (fun r => cZ r big == cZ (l.getD x.toNat 0) big) l x = y := hy.symm.trans (by first | exact jr (by omega) | exact kU hy0 (by omega) hP)
    refine fC [(0, _)] (fun (z : Int) => [(1, .int .i64 z)]) (fun (z : Int) W => ((0 ≤ z ∧ z ≤ l.length) ∧ xk l x big = jY (fun r => eU r == 0) l z) ∧ V w0 W F) (fun (z : Int) => (l.length - z).toNat) (_) kD kD ⟨⟨⟨by omega, by omega⟩, by unfold xk; first | (rw [if_neg (by omega)]; done) | (rw [if_pos (by omega), if_pos hk]; done) | (rw [if_pos (by omega), if_neg hk, e1]; done)⟩, HL⟩ ?_
    rintro z w6 ⟨⟨⟨hz0, hzl⟩, hz⟩, HM⟩
    dsimp only [List.cons_append, List.nil_append]
    refine aO (bT O (bQ O (Z (nM ay O) (Z (gZ O O) (jL O (fun h7 => ?_) (fun h7 => ?_))))))
    ·(try simp only [aF] at h7)
     refine bC (bQ O (bC (bQ O (bC (Z (dw ay bK O O (by omega)) (bC ?_))))))
     refine Z (dR (bV bf O) O (by first | exact eX.jT (hr _ (HM)) (by omega) | exact eX.rP (hr _ (HM)) (by omega) | exact eX.rO (hr _ (HM)) (by omega))) ?_
     refine bC (eG O func14 (oh HM hT) ?_)
     rintro _ w7 ⟨rfl, H7⟩
     refine bC (Z (dO O O) (jw O O (iV O (fun h8 => ?_) (fun h8 => ?_))))
     ·(try simp only [aF] at h8)
      have hQ : (eU (l.getD z.toNat 0) == 0) = true := by rw [beq_iff_eq]; exact h8
      refine fV (aZ (aB (bQ O (Z (fK O O (by omega)) (fU O (bP (aJ ?_)))))))
      refine dH (z + 1) ?_ ?_ ?_ ?_
      ·exact kD
      ·exact kD
      ·(try dsimp only)
       first | done | exact ⟨⟨⟨by omega, by omega⟩, hz.trans (qy hz0 (by omega) hQ)⟩, H7⟩
      ·(try dsimp only); omega
     ·(try simp only [aF] at h8)
      have hQ : ¬ (eU (l.getD z.toNat 0) == 0) = true := by rw [beq_iff_eq]; exact h8
      refine dn (aI (aI (aY (aW (bT O (fF O (dG results95 O ?_)))))))
      exact ⟨by rw [hz]; first | rw [jr (by omega)] | rw [kU hz0 (by omega) hQ], H7⟩
    ·(try simp only [aF] at h7)
     refine bH (bH (bH (bH (bH (bH (iJ O O (iK (pW (dn (aI (aI (aY (aW (bT O (fF O (dG results95 O ?_))))))))))))))))
     exact ⟨by rw [hz]; first | rw [jr (by omega)] | rw [kU hz0 (by omega) hQ], HM⟩
  ·(try simp only [aF] at h2)
   have hk : cZ (l.getD x.toNat 0) big = 0 := by have h9 := h2; omega
   refine fV (aO (aZ ?_))
   try have e1 : jY (fun r => cZ r big == cZ (l.getD x.toNat 0) big) l x = y := hy.symm.trans (by first | exact jr (by omega) | exact kU hy0 (by omega) hP)
   refine fC [(0, _)] (fun (z : Int) => [(1, .int .i64 z)]) (fun (z : Int) W => ((0 ≤ z ∧ z ≤ l.length) ∧ xk l x big = jY (fun r => eU r == 0) l z) ∧ V w0 W F) (fun (z : Int) => (l.length - z).toNat) (_) kD kD ⟨⟨⟨by omega, by omega⟩, by unfold xk; first | (rw [if_neg (by omega)]; done) | (rw [if_pos (by omega), if_pos hk]; done) | (rw [if_pos (by omega), if_neg hk, e1]; done)⟩, H1⟩ ?_
   rintro z w8 ⟨⟨⟨hz0, hzl⟩, hz⟩, HM⟩
   dsimp only [List.cons_append, List.nil_append]
   refine aO (bT O (bQ O (Z (nM ay O) (Z (gZ O O) (jL O (fun h9 => ?_) (fun h9 => ?_))))))
   ·(try simp only [aF] at h9)
    refine bC (bQ O (bC (bQ O (bC (Z (dw ay bK O O (by omega)) (bC ?_))))))
    refine Z (dR (bV bf O) O (by first | exact eX.jT (hr _ (HM)) (by omega) | exact eX.rP (hr _ (HM)) (by omega) | exact eX.rO (hr _ (HM)) (by omega))) ?_
    refine bC (eG O func14 (oh HM hT) ?_)
    rintro _ w9 ⟨rfl, H9⟩
    refine bC (Z (dO O O) (jw O O (iV O (fun h10 => ?_) (fun h10 => ?_))))
    ·(try simp only [aF] at h10)
     have hQ : (eU (l.getD z.toNat 0) == 0) = true := by rw [beq_iff_eq]; exact h10
     refine fV (aZ (aB (bQ O (Z (fK O O (by omega)) (fU O (bP (aJ ?_)))))))
     refine dH (z + 1) ?_ ?_ ?_ ?_
     ·exact kD
     ·exact kD
     ·(try dsimp only)
      first | done | exact ⟨⟨⟨by omega, by omega⟩, hz.trans (qy hz0 (by omega) hQ)⟩, H9⟩
     ·(try dsimp only); omega
    ·(try simp only [aF] at h10)
     have hQ : ¬ (eU (l.getD z.toNat 0) == 0) = true := by rw [beq_iff_eq]; exact h10
     refine dn (aI (aI (aY (aW (bT O (fF O (dG results95 O ?_)))))))
     exact ⟨by rw [hz]; first | rw [jr (by omega)] | rw [kU hz0 (by omega) hQ], H9⟩
   ·(try simp only [aF] at h9)
    refine bH (bH (bH (bH (bH (bH (iJ O O (iK (pW (dn (aI (aI (aY (aW (bT O (fF O (dG results95 O ?_))))))))))))))))
    exact ⟨by rw [hz]; first | rw [jr (by omega)] | rw [kU hz0 (by omega) hQ], HM⟩
 ·(try simp only [aF] at h1)
  refine fV (aO (aZ ?_))
  try have e1 : jY (fun r => cZ r big == cZ (l.getD x.toNat 0) big) l x = y := hy.symm.trans (by first | exact jr (by omega) | exact kU hy0 (by omega) hP)
  refine fC [(0, _)] (fun (z : Int) => [(1, .int .i64 z)]) (fun (z : Int) W => ((0 ≤ z ∧ z ≤ l.length) ∧ xk l x big = jY (fun r => eU r == 0) l z) ∧ V w0 W F) (fun (z : Int) => (l.length - z).toNat) (_) kD kD ⟨⟨⟨by omega, by omega⟩, by unfold xk; first | (rw [if_neg (by omega)]; done) | (rw [if_pos (by omega), if_pos hk]; done) | (rw [if_pos (by omega), if_neg hk, e1]; done)⟩, H⟩ ?_
  rintro z w10 ⟨⟨⟨hz0, hzl⟩, hz⟩, HM⟩
  dsimp only [List.cons_append, List.nil_append]
  refine aO (bT O (bQ O (Z (iF (hr _ (HM)) ay O) (Z (gZ O O) (jL O (fun h11 => ?_) (fun h11 => ?_))))))
  ·(try simp only [aF] at h11)
   refine bC (bQ O (bC (bQ O (bC ?_))))
   obtain ⟨bv, ov, cv, ev⟩ := eX.nX (hr _ (HM)) (by omega)
   cases ev
   refine Z (dw ay bK O O (by omega)) (bC ?_)
   refine Z (dR (bV bf O) O (by first | exact eX.jT (hr _ (HM)) (by omega) | exact eX.rP (hr _ (HM)) (by omega) | exact eX.rO (hr _ (HM)) (by omega))) ?_
   refine bC (eG O func14 (oh HM hT) ?_)
   rintro _ EI ⟨rfl, rE⟩
   refine bC (Z (dO O O) (jw O O (iV O (fun h12 => ?_) (fun h12 => ?_))))
   ·(try simp only [aF] at h12)
    have hQ : (eU (l.getD z.toNat 0) == 0) = true := by rw [beq_iff_eq]; exact h12
    refine fV (aZ (aB (bQ O (Z (fK O O (by omega)) (fU O (bP (aJ ?_)))))))
    refine dH (z + 1) ?_ ?_ ?_ ?_
    ·exact kD
    ·exact kD
    ·(try dsimp only)
     first | done | exact ⟨⟨⟨by omega, by omega⟩, hz.trans (qy hz0 (by omega) hQ)⟩, rE⟩
    ·(try dsimp only); omega
   ·(try simp only [aF] at h12)
    have hQ : ¬ (eU (l.getD z.toNat 0) == 0) = true := by rw [beq_iff_eq]; exact h12
    refine dn (aI (aI (aY (aW (bT O (fF O (dG results95 O ?_)))))))
    exact ⟨by rw [hz]; first | rw [jr (by omega)] | rw [kU hz0 (by omega) hQ], rE⟩
  ·(try simp only [aF] at h11)
   refine bH (bH (bH (bH (bH (bH (iJ O O (iK (pW (dn (aI (aI (aY (aW (bT O (fF O (dG results95 O ?_))))))))))))))))
   exact ⟨by rw [hz]; first | rw [jr (by omega)] | rw [kU hz0 (by omega) hQ], HM⟩
end
end Go.Proofs.YtpdeedplgmbopaaGreatDoor
end
