import Derived.Test.YtpdeedplgmbopaaGreatDoorZ4
import Derived.Test.YtpdeedplgmbopaaGreatDoorZ8
import Derived.Test.YtpdeedplgmbopaaGreatDoorZ5
import Derived.Test.YtpdeedplgmbopaaGreatDoorZ2
set_option linter.unusedSimpArgs false
set_option linter.unusedVariables false
/- Texts of mine, joined, their names in short: UGroups Ed EdTwin MapI RefTab VW VW2 VW3. -/
section
namespace Go.Proofs.YtpdeedplgmbopaaGreatDoor
open Go.RowKit
open _root_.Go.Proofs.Tryz
def Bj (c : Nat) (G : List (List iT)) (N : List iT) (k : Nat) : HP := rQ fun (x : Value × List (Value × List dQ)) => fact (x.2.map (fun g => g.2.map dQ.says) = KD N ++ G.reverse.take k) • dL c (.cells #[x.1] 226 (0, 0)) • BG x.1 x.2
theorem rev_succ {G : List (List iT)} {k : Nat} (hk : k < G.length) : G.reverse.take (k + 1) = G.reverse.take k ++ [G.getD (G.length - (k + 1)) []] := by
  rw [List.take_succ_eq_append_getElem (by simpa using hk)]
  congr 1
  rw [List.getElem_reverse, List.getD_eq_getElem?_getD, List.getElem?_eq_getElem (by omega)]
  have e : G.length - 1 - k = G.length - (k + 1) := by omega
  simp only [Option.getD_some, e]
section
variable {w0 w : World} {F : HP} {p c k : Nat} {G : List (List iT)} {N : List iT} {op : Int} {v u : Value} {es fs : List dQ} {gs hs : List (Value × List dQ)}
theorem V.MW (H : V w0 w (Bj c G N k • F)) : ∃ u hs, hs.map (fun g => g.2.map dQ.says) = KD N ++ G.reverse.take k ∧ hs.length ≤ G.length + 1 ∧ V w0 w (dL c (.cells #[u] 226 (0, 0)) • Row 80 1 u hs.length (hs.map (·.1)) • nK hs • F) := by
  obtain ⟨⟨u, hs⟩, H⟩ := H.lQ
  obtain ⟨h, H⟩ := H.flat.fact
  refine ⟨u, hs, h, ?_, (H.flat.swap.XL).f3⟩
  have := congrArg List.length h
  have := U8 N
  simp only [List.length_map, List.length_append, List.length_take, List.length_reverse] at *
  omega
theorem V.Gt (h : hs.map (fun g => g.2.map dQ.says) = KD N ++ G.reverse.take k) (H : V w0 w (dL c (.cells #[u] 226 (0, 0)) • BG u hs • F)) : V w0 w (Bj c G N k • F) :=
  V.iy (u, hs) (V.deep (V.kD h H.deep))
theorem SI (H : V w0 w F) (hv : v.oneCell' = true) : gJ prog 175 #[v] w fun v' w' => ∃ b, v' = .func (.func 196) #[] #[.pointer (some ⟨b, 0, none⟩)] ∧ V w0 w' (dL b (.cells #[v] 226 (0, 0)) • F) := by
  refine iG func175 ntmps175 ?_
  refine iH (jv (iM (l := [_]) H O (by first | rfl | exact Aq (by first | rfl | assumption))) ?_)
  rintro _ w1 ⟨b1, rfl, H1⟩
  refine gI O (iH (aV (vV O O) (fC O (dH results175 O ?_))))
  exact ⟨_, O, H1⟩
theorem PD (b : Nat) : Iter prog w0 (.func (.func 196) #[] #[.pointer (some ⟨b, 0, none⟩)]) (dL b (.cells #[v] 226 (0, 0)) • Row 80 1 v gs.length (gs.map (·.1)) • nK gs) gs.length
  (fun k vs A => ∃ gl wQ, gs.getD (gs.length - (k + 1)) default = (gl, wQ) ∧ vs = [.int .i64 ((gs.length - (k + 1) : Nat) : Int), gl] ∧ A = Bc gl wQ) := by
 intro l J X w hy H
 refine ⟨196, [], [.pointer (some ⟨b, 0, none⟩)], _, _, O, func196, O, O, ?_⟩
 have H1 : V w0 w (dL b (.cells #[v] 226 (0, 0)) • Row 80 1 v gs.length (gs.map (·.1)) • nK gs • J 0) := H.of_eq (by ac_rfl)
 obtain ⟨a, c, hv, hc1, hc2, _⟩ := (H1.swap.aS).form
 subst hv
 simp only [List.nil_append, List.cons_append]
 refine TV func196 ntmps196 ?_
 dsimp only [vS, Nat.reduceAdd]
 refine iH (fZ bg O (H1).get.2 O (aV (jw ((H1.f2).aS) bg O) (aV (kU O O (by omega)) (gI O (aY ?_)))))
 refine fF [(0, _), (1, _)] (fun (k : Nat) => [(3, .int .i64 ((k : Int) - 1))]) (fun (k : Nat) W => k ≤ gs.length ∧ V w0 W (dL b (.cells #[.slice a gs.length c] 226 (0, 0)) • Row 80 1 (.slice a gs.length c) gs.length (gs.map (·.1)) • nK gs • J (gs.length - k))) (fun (k : Nat) => k) (gs.length) qG lG ⟨by omega, by rw [Nat.sub_self]; exact H1⟩ ?_
 rintro k w1 ⟨hk, HL⟩
 dsimp only [List.cons_append, List.nil_append]
 refine aP (bT O (aV (ku O O) (je O (fun h1 => ?_) (fun h1 => ?_))))
 ·(try simp only [Z] at h1)
  refine gq (aP (aY (aP ?_)))
  obtain ⟨m, rfl⟩ : ∃ m, k = m + 1 := ⟨k - 1, by omega⟩
  rw [show (((m + 1 : Nat) : Int) - 1) = (m : Int) from by omega]
  have hkl : m < gs.length := by omega
  refine aC (jG O O (fZ bg O (HL).get.2 O (bP O ?_)))
  obtain ⟨bv, ov, cv, ev⟩ := Rd.pJ ((HL.f2).aS) (by omega)
  cases ev
  refine aV (dD bg bH O O (by omega)) ?_
  refine aV (eG (bY aU O) O (by first | exact Rd.kX ((HL.f2).aS) (by omega) | exact Rd.uQ ((HL.f2).aS) (by omega) | exact Rd.uG ((HL.f2).aS) (by omega))) ?_
  rw [show (gs.map (·.1)).getD m undef = (gs.getD m default).1 from by simp [List.getD_eq_getElem?_getD, hkl]]
  obtain ⟨gl, wQ, hg⟩ : ∃ gl wQ, gs.getD m default = (gl, wQ) := ⟨_, _, rfl⟩
  rw [hg]
  have Z9 := HL.f3
  have XY := Z9.Fq hkl hg
  refine jv (KA O O (hy (gs.length - (m + 1)) (by omega) _ _ ⟨gl, wQ, by rw [show gs.length - (gs.length - (m + 1) + 1) = m from by omega]; exact hg, by rw [show gs.length - (gs.length - (m + 1) + 1) = m from by omega], O⟩ (nK gs • Row 80 1 (.slice (some ⟨bv, ov, none⟩) gs.length c) gs.length (gs.map (·.1)) • dL b (.cells #[.slice (some ⟨bv, ov, none⟩) gs.length c] 226 (0, 0))) _ (XY.of_eq (by ac_rfl))).bool) ?_
  rintro _ w4 ⟨t, rfl, ht1, ht2⟩
  refine aV (kT O) (je O (fun h2 => ?_) (fun h2 => ?_))
  ·(try simp only [Z] at h2)
   have HX := ht2 (by simpa using h2)
   refine lS (aT (aF (aF (aT (we0 results196 ?_)))))
   exact .inr (HX.of_eq (by ac_rfl))
  ·(try simp only [Z] at h2)
   have HN : V w0 w4 (dL b (.cells #[.slice (some ⟨bv, ov, none⟩) gs.length c] 226 (0, 0)) • Row 80 1 (.slice (some ⟨bv, ov, none⟩) gs.length c) gs.length (gs.map (·.1)) • nK gs • J (gs.length - m)) := by
    have h9 := ht1 (by simpa using h2)
    rw [show gs.length - (m + 1) + 1 = gs.length - m from by omega] at h9
    exact h9.of_eq (by ac_rfl)
   refine bZ (aJ (aX (aC (bP O (aV (kU O O (by omega)) (fV O (bM ?_)))))))
   refine dK (m) ?_ ?_ ?_ ?_
   ·exact lG
   ·exact qG
   ·(try dsimp only)
    first | done | exact ⟨by omega, HN.f3.f3.f3⟩
   ·(try dsimp only); omega
 ·(try simp only [Z] at h1)
  refine dB (aI (aI (bf (lY (.inr O) results196 ?_))))
  obtain rfl : k = 0 := by omega
  rw [Nat.sub_zero] at HL
  exact .inl (HL.of_eq (by ac_rfl))
theorem EY (H : V w0 w (iP p G N op • F)) : gJ prog 135 #[.pointer (some ⟨p, 0, none⟩)] w fun v w' => ∃ c, v = .func (.func 176) #[] #[.pointer (some ⟨c, 0, none⟩)] ∧ V w0 w' (Bj c G N G.length • iP p G N op • F) := by
 refine iG func135 ntmps135 ?_
 refine jr O (iH (jv (fJ (l := [_]) H zeroValue226 O) ?_))
 rintro _ w1 ⟨b1, rfl, H1⟩
 refine pK (bT O (dY O func158 (mX H1.f2) ?_))
 rintro _ _ ⟨rfl, rfl⟩
 refine aV (kT O) ?_
 obtain ⟨AV, yR, nN, mQ, lF, vw, rZ, F8, F9, MH, qH⟩ := (H1.f2).yA
 have hLn : mQ.length ≤ 16384 := by omega
 have hBn := MN rZ lF.2.2.2.2.2
 refine iJ (wcE O (fun h1 => ?_))
 (try simp only [Z] at h1)
 refine kS [(0, _), (3, _)] (fun (_ : Unit) => []) (fun (_ : Unit) W => V w0 W (Bj b1 G N 0 • dL p (.cells #[AV, yR, .int .i64 op, .int .i64 (iE G N : Nat), .bool true] 235 (0, 0)) • Row 80 1 AV nN.length (nN.map (·.1)) • nK nN • Row 189 3 yR mQ.length (mQ.flatMap dQ.enc) • kK mQ • F)) qG ?_ ?_
 ·rintro _ w4 HJ
  dsimp only [List.cons_append, List.nil_append]
  refine bT O (dJ O (bD 0 bn O dh O (bD 0 bG O eU O (fZ bg O (HJ.f2).get.2 O (dY O func175 (SI HJ (Rd.one ((HJ.f3).aS))) ?_)))))
  rintro _ w5 ⟨bB5, rfl, H5⟩
  refine iJ (aY ?_)
  obtain ⟨R6, hR6, HR6⟩ := V.aa5 (H5.f5.f5.f3.f4)
  refine yU O (PD bB5) (fun k => Bj b1 G N k • R6) (fact False) (fun _ => fact False) (HR6.f4.f4.f4.f4.f4.f4.f4.g3.comm) (by rfl) ?_ ?_ ?_ ?_
  ·rintro l7 k ZU vs7 A7 ⟨gl, wQ, hg, rfl, rfl⟩ G7 w7 H7
   try simp only [bW, nG, uX] at H7
   refine ⟨O, ?_⟩
   dsimp only [Po]
   obtain ⟨u, hs, U5, hhl, HI⟩ := (H7.f2).MW
   have hge : wQ.map dQ.says = G.getD (G.length - (k + 1)) [] := by
    rw [← F8, ← vw]
    have h9 : (nN.map (fun g => g.2.map dQ.says)).getD (nN.length - (k + 1)) [] = (nN.getD (nN.length - (k + 1)) default).2.map dQ.says := by simp [List.getD_eq_getElem?_getD, show nN.length - (k + 1) < nN.length by omega]
    rw [h9, hg]
   have hgm : G.getD (G.length - (k + 1)) [] ∈ G := vK (by omega)
   have hBg := MN hge (lF.2.2.2.2.1 _ hgm)
   have hLg : wQ.length ≤ 16384 := by
    have h8 := lF.2.1
    unfold iE at h8
    have h7 := congrArg List.length hge
    rw [List.length_map] at h7
    have h6 := Fv hgm
    omega
   refine aC (fV O (bM ?_))
   refine Pn (HI.g5) ?_
   intro G8 w8 H8
   try simp only [bW] at H8
   refine aY ?_
   have abN := H8.drew
   have Vg := V.kp (abN.f4.f4.f4.f4)
   refine yw [0] Vg O (jT 0 O Vg (fun W hW => kC bg O ((Kp.h hW)).get.2 O) (jB 1 O Vg O (oq 2 O (yN O func173 (xK abN.f4 hBg hLg)) ?_)))
   rintro u9 w9 ⟨fs9, ade, H9⟩
   obtain ⟨es2, rfl⟩ : ∃ q, q = fs9 := ⟨_, rfl⟩
   have hes2 := ade
   have Pg := V.kp (H9.f6.f6.f6.f6.f6.f6)
   refine dV Pg (fun W hW => (Kp.h hW).right.right.f4.f4.f4) ?_
   refine oq 3 O (jR (vs := [_]) H9 bg bH lH O O O (by decide) (aW (by first | rfl | exact Rd.one ((H9).aS)) bF)) ?_
   rintro l10 w10 ql
   have UY := V.kp (ql.f7.f7.f7.f7.f7.f7.f7)
   refine dV UY (fun W hW => (Kp.h hW).right.f6.f6.f6.f6.f6.f6) ?_
   refine oq 4 O (fU ql.f6 bg EF O O O ((ql).aS) (aW (by first | rfl | exact Rd.one ((ql.f2).aS)) bF) (by omega) (by omega)) ?_
   rintro l11 EH rF
   have IB := rF.f2.right
   have Gh := V.kp (IB.f6.f6.f6.f6.f6.f6)
   refine gV Gh (by kernel_rfl) ?_
   refine fO 5 O (by kernel_rfl) (fA 0 (l' := [_]) IB.f5 eU O O (by first | rfl | exact Rd.one ((IB).aS)) O O) ?_
   rintro _ Pj xk
   have uT := V.kp (xk.f6.f6.f6.f6.f6.f6)
   refine gV uT (by kernel_rfl) ?_
   refine qU (aJ ?_)
   refine Gi ?_
   have X := V.oP (es := es2) (xk.f5.right.f5.f3.f5.f5).deep
   exact (V.Gt (hs := hs ++ [(u9, es2)]) (by rw [List.map_append, U5, rev_succ (by omega), ← hge, ← hes2, List.append_assoc]; rfl) (V.qM X.swap).swap).deep
  ·rintro D14 RZ Ar
   have UZ := Ar.ed
   try simp only [bW, nG, uX] at UZ
   have ZV := UZ.Qz
   subst hR6
   refine aJ (aX (iH (aV (vV O O) (fC O ?_))))
   refine Fb (.inl O) (ZV) (fun Sz yT => ?_)
   refine ⟨_, Zy results135 O, ?_⟩
   have hgl : Bj b1 G N nN.length = Bj b1 G N G.length := by rw [F8]
   rw [hgl] at yT
   have PE := yT.f7.f7.f5.f5.f7
   have PG := V.nM lF vw rZ rfl PE
   exact ⟨_, O, PG.f2.right.f2⟩
  ·rintro D w H; exact absurd H.swap.fact.1 id
  ·rintro id D w H; exact absurd H.swap.fact.1 fun h => h
 ·skip
  refine bT O (dJ O (bD 0 bn O dh O (bD 1 bG O bH O (fZ aU O (qH).get.2 O (aV (jw ((qH.f4).aS) aU O) (aV (iV O O) (je O (fun h2 => ?_) (fun h2 => ?_))))))))
  ·(try simp only [Z] at h2)
   have hN : KD N = [N] := if_neg (by rintro rfl; exact absurd F9 (by simp only [List.length_nil]; omega))
   have Y7 := qH.drew
   have BM := V.kp (Y7.f6.f6.f6.f6.f6.f6)
   refine yw [0, 5] BM O (jT 0 O BM (fun W hW => kC bg O ((Kp.h hW).f6).get.2 O) (jB 1 O BM O (kJ 2 O BM O (gU 3 O BM 0 bn O dh O (gU 4 O BM 1 bG O bH O (jT 5 O BM (fun W hW => kC aU O ((Kp.h hW)).get.2 O) (oq 6 O (yN O func173 (zV Y7.f5.f5 hBn hLn)) ?_)))))))
   rintro u19 w19 ⟨adf, abO, D8⟩
   obtain ⟨es1, rfl⟩ : ∃ q, q = adf := ⟨_, rfl⟩
   have hes1 := abO
   have Vh := V.kp (D8.f8.f8.f8.f8.f8.f8.f8.f8)
   refine dV Vh (fun W hW => (Kp.h hW).right.right.f6.f3.f3.f6.f6.f6) ?_
   refine oq 7 O (jR (vs := [_]) D8 bg bH lH O O O (by decide) (aW (by first | rfl | exact Rd.one ((D8).aS)) bF)) ?_
   rintro l20 w20 OX
   have Dk := V.kp (OX.f9.f9.f9.f9.f9.f9.f9.f9.f9)
   refine dV Dk (fun W hW => (Kp.h hW).right.f8.f8.f8.f8.f8.f8.f8.f8) ?_
   refine oq 8 O (fU (OX.iO none) bg EF O O O ((OX).aS) (aW (by first | rfl | exact Rd.one ((OX.f2).aS)) bF) (by omega) (by omega)) ?_
   rintro l21 w21 IC
   have Vj := IC.f2.right
   have MX := V.kp (Vj.f9.f9.f9.f9.f9.f9.f9.f9.f9)
   refine gV MX (by kernel_rfl) ?_
   refine fO 9 O (by kernel_rfl) (fA 0 (l' := [_]) Vj.f9 eU O O (by first | rfl | exact Rd.one ((Vj).aS)) O O) ?_
   rintro _ w23 IE
   have Jw := V.kp (IE.f9.f9.f9.f9.f9.f9.f9.f9.f9)
   refine gV Jw (by kernel_rfl) ?_
   have X := V.oP (es := es1) (IE.f6.f6.f9.f9.f9.f6.f7.f9.f9).deep
   have hJn : V w0 w23 (Bj b1 G N 0 • dL p (.cells #[AV, yR, .int .i64 op, .int .i64 (iE G N : Nat), .bool true] 235 (0, 0)) • Row 80 1 AV nN.length (nN.map (·.1)) • nK nN • Row 189 3 yR mQ.length (mQ.flatMap dQ.enc) • kK mQ • F) :=
    V.Gt (hs := [(u19, es1)]) (by rw [hN, ← rZ, ← hes1]; rfl) (V.qM (gs := []) X.F6.f3.f3.f2).swap
   refine qU ?_
   refine dn (()) ?_ ?_ ?_
   ·exact (Sub.nil _)
   ·exact qG
   ·(try dsimp only)
    first | done | exact hJn
  ·(try simp only [Z] at h2)
   have hN : KD N = [] := if_pos (by rw [← rZ, List.eq_nil_of_length_eq_zero (show mQ.length = 0 by omega)]; rfl)
   have hJn : V w0 w1 (Bj b1 G N 0 • dL p (.cells #[AV, yR, .int .i64 op, .int .i64 (iE G N : Nat), .bool true] 235 (0, 0)) • Row 80 1 AV nN.length (nN.map (·.1)) • nK nN • Row 189 3 yR mQ.length (mQ.flatMap dQ.enc) • kK mQ • F) :=
    V.Gt (hs := []) (by rw [hN]; rfl) ((qH.f5.f5.f5.f5.f5.f6).F7 none).swap
   refine bZ ?_
   refine dn (()) ?_ ?_ ?_
   ·exact (Sub.nil _)
   ·exact qG
   ·(try dsimp only)
    first | done | exact hJn
theorem MZ (c : Nat) (hB : ∀ g ∈ BI G N, ∀ e ∈ g, EB e) (hL : ∀ g ∈ BI G N, g.length ≤ 16384) : Iter prog w0 (.func (.func 176) #[] #[.pointer (some ⟨c, 0, none⟩)]) (Bj c G N G.length) (BI G N).length
  (fun k vs A => ∃ u, ∃ fs : List dQ, fs.map dQ.says = (BI G N).getD k [] ∧ vs = [u] ∧ A = Js u fs) := by
 intro l J X w hy H
 refine ⟨176, [], [.pointer (some ⟨c, 0, none⟩)], _, _, O, func176, O, O, ?_⟩
 obtain ⟨v, hs, U5, hhl, H1⟩ := H.comm.MW
 have abP := U5
 rw [List.take_of_length_le (by simp), ← XQ] at U5
 have hlen : hs.length = (BI G N).length := by have := congrArg List.length U5; simpa using this
 obtain ⟨a, d, hv, hc1, hc2, _⟩ := (H1.swap.aS).form
 subst hv
 simp only [List.nil_append, List.cons_append]
 refine TV func176 ntmps176 ?_
 dsimp only [vS, Nat.reduceAdd]
 refine iH (fZ bg O (H1).get.2 O (aV (jw ((H1.f2).aS) bg O) (bP O (iJ (aY ?_)))))
 refine fF [(0, _), (5, _), (6, _)] (fun (k : Nat) => [(7, .int .i64 (k : Int))]) (fun (k : Nat) W => k ≤ hs.length ∧ V w0 W (dL c (.cells #[.slice a hs.length d] 226 (0, 0)) • Row 80 1 (.slice a hs.length d) hs.length (hs.map (·.1)) • nK hs • J k)) (fun (k : Nat) => hs.length - k) (0) uH lG ⟨by omega, H1⟩ ?_
 rintro k w1 ⟨hk, HL⟩
 dsimp only [List.cons_append, List.nil_append]
 refine iH (aV (gY O O) (pK (bI O (fun h1 => ?_) (fun h1 => ?_))))
 ·(try simp only [Z] at h1)
  refine gq (aP (aY (iH ?_)))
  obtain ⟨bv, ov, cv, ev⟩ := Rd.pJ ((HL.f2).aS) (by omega)
  cases ev
  refine aV (dD bg bH O O (by omega)) ?_
  refine aV (eG (bY aU O) O (by first | exact Rd.kX ((HL.f2).aS) (by omega) | exact Rd.uQ ((HL.f2).aS) (by omega) | exact Rd.uG ((HL.f2).aS) (by omega))) ?_
  have hkl : k < hs.length := by omega
  rw [show (hs.map (·.1)).getD k undef = (hs.getD k default).1 from by simp [List.getD_eq_getElem?_getD, hkl]]
  obtain ⟨gl, wQ, hg⟩ : ∃ gl wQ, hs.getD k default = (gl, wQ) := ⟨_, _, rfl⟩
  rw [hg]
  have Z9 := HL.f3
  have XY := Z9.Fq hkl hg
  have hge : wQ.map dQ.says = (BI G N).getD k [] := by
   rw [← U5]
   have h9 : (hs.map (fun g => g.2.map dQ.says)).getD k [] = (hs.getD k default).2.map dQ.says := by simp [List.getD_eq_getElem?_getD, hkl]
   rw [h9, hg]
  have hgm : (BI G N).getD k [] ∈ BI G N := vK (by omega)
  have hBg := MN hge (hB _ hgm)
  have hLg : wQ.length ≤ 16384 := by
   have h7 := congrArg List.length hge
   rw [List.length_map] at h7
   have := hL _ hgm
   omega
  refine gI O (bT O (bP O (dY O func173 (xK XY hBg hLg) ?_)))
  rintro u4 w4 ⟨fs4, adg, H4⟩
  obtain ⟨es2, rfl⟩ : ∃ q, q = fs4 := ⟨_, rfl⟩
  have hes2 := adg
  have Hd5 := H4.f3.right
  refine jv (KA O O (hy k (by omega) _ _ ⟨_, es2, hes2.trans hge, O, O⟩ (nK hs • Row 80 1 (.slice (some ⟨bv, ov, none⟩) hs.length d) hs.length (hs.map (·.1)) • dL c (.cells #[.slice (some ⟨bv, ov, none⟩) hs.length d] 226 (0, 0))) _ (Hd5.of_eq (by unfold Js; ac_rfl))).bool) ?_
  rintro _ w6 ⟨t, rfl, ht1, ht2⟩
  refine aV (kT O) (je O (fun h2 => ?_) (fun h2 => ?_))
  ·(try simp only [Z] at h2)
   have HX := ht2 (by simpa using h2)
   refine lS (aT (aF (aF (aT (we0 results176 ?_)))))
   exact .inr (V.comm (V.Gt (u := .slice (some ⟨bv, ov, none⟩) hs.length d) abP (HX.of_eq (by unfold BG; ac_rfl))))
  ·(try simp only [Z] at h2)
   have HN : V w0 w6 (dL c (.cells #[.slice (some ⟨bv, ov, none⟩) hs.length d] 226 (0, 0)) • Row 80 1 (.slice (some ⟨bv, ov, none⟩) hs.length d) hs.length (hs.map (·.1)) • nK hs • J (k + 1)) := by
    have h9 := ht1 (by simpa using h2)
    exact h9.of_eq (by ac_rfl)
   refine bZ (aJ (aX (aC (aV (fQ O O (by omega)) (bP O (bM ?_))))))
   refine dK (k + 1) ?_ ?_ ?_ ?_
   ·exact lG
   ·exact uH
   ·(try dsimp only)
    first | done | exact ⟨by omega, HN.f3.f3.f3⟩
   ·(try dsimp only); omega
 ·(try simp only [Z] at h1)
  refine dB (aI (aI (bf (lY (.inr O) results176 ?_))))
  obtain rfl : k = hs.length := by omega
  rw [← hlen]
  exact .inl (V.comm (V.Gt (u := .slice a hs.length d) abP (HL.of_eq (by unfold BG; ac_rfl))))
end
end Go.Proofs.YtpdeedplgmbopaaGreatDoor
end
section
namespace Go.Proofs.YtpdeedplgmbopaaGreatDoor
open Go.RowKit
def EJ (P : Int → Nat) (U : Int → List (List iT)) : List Int → HP
  | [] => emp
  | k :: D => iP (P k) (U k) [] 0 • EJ P U D
def Na (D : List Int) (P : Int → Nat) : Int → Option Value := fun k => if k ∈ D then some (.pointer (some ⟨P k, 0, none⟩)) else none
theorem qP {P : Int → Nat} {U : Int → List (List iT)} {k : Int} : ∀ {D : List Int}, k ∈ D → EJ P U D = (iP (P k) (U k) [] 0 • EJ P U (D.erase k))
  | x :: D, h => by
    by_cases e : x = k
    · subst e; rw [List.erase_cons_head]; rfl
    · rw [List.erase_cons_tail (by simpa using e)]
      have hk : k ∈ D := (List.mem_cons.1 h).resolve_left (Ne.symm e)
      show (iP (P x) (U x) [] 0 • EJ P U D) = _
      rw [qP hk]
      show (iP (P x) (U x) [] 0 • iP (P k) (U k) [] 0 • EJ P U (D.erase k)) = (iP (P k) (U k) [] 0 • (iP (P x) (U x) [] 0 • EJ P U (D.erase k)))
      ac_rfl
theorem Aw {P P' : Int → Nat} {U U' : Int → List (List iT)} : ∀ {D : List Int}, (∀ k ∈ D, P k = P' k ∧ U k = U' k) → EJ P U D = EJ P' U' D
  | [], _ => rfl
  | x :: D, h => by
    show (iP (P x) (U x) [] 0 • EJ P U D) = (iP (P' x) (U' x) [] 0 • EJ P' U' D)
    rw [(h x (by simp)).1, (h x (by simp)).2, Aw fun k hk => h k (List.mem_cons_of_mem _ hk)]
def wV (b : Nat) (U : Int → List (List iT)) : HP := rQ fun (x : List Int × (Int → Nat)) => fact (x.1.Nodup ∧ ∀ k, k ∉ x.1 → U k = []) • fG qI b (Na x.1 x.2) • EJ x.2 U x.1
def Nb (b : Nat) (U : Int → List (List iT)) (k : Int) (p : Nat) : HP := rQ fun (x : List Int × (Int → Nat)) => fact (x.1.Nodup ∧ (∀ k, k ∉ x.1 → U k = []) ∧ k ∈ x.1 ∧ x.2 k = p) • fG qI b (Na x.1 x.2) • EJ x.2 U (x.1.erase k)
section
variable {w0 w : World} {F : HP} {b p : Nat} {k : Int} {U : Int → List (List iT)} {G : List (List iT)}
theorem V.XZ (H : V w0 w (wV b U • F)) : ∃ D P, (D : List Int).Nodup ∧ (∀ k, k ∉ D → U k = []) ∧ V w0 w (fG qI b (Na D P) • EJ P U D • F) := by
  obtain ⟨⟨D, P⟩, H⟩ := H.lQ
  obtain ⟨⟨h1, h2⟩, H⟩ := H.flat.fact
  exact ⟨D, P, h1, h2, H.flat⟩
theorem V.Az {D : List Int} {P : Int → Nat} (h1 : D.Nodup) (h2 : ∀ k, k ∉ D → U k = []) (H : V w0 w (fG qI b (Na D P) • EJ P U D • F)) : V w0 w (wV b U • F) :=
  V.iy (D, P) (V.deep (V.kD ⟨h1, h2⟩ H.deep))
theorem V.Y8 {D : List Int} {P : Int → Nat} (h1 : D.Nodup) (h2 : ∀ k, k ∉ D → U k = []) (hk : k ∈ D) (H : V w0 w (fG qI b (Na D P) • EJ P U D • F)) : V w0 w (iP (P k) (U k) [] 0 • Nb b U k (P k) • F) := by
  have H1 : V w0 w ((fG qI b (Na D P) • EJ P U (D.erase k)) • iP (P k) (U k) [] 0 • F) := H.of_eq (by rw [qP hk]; ac_rfl)
  have H2 : V w0 w (Nb b U k (P k) • iP (P k) (U k) [] 0 • F) := V.iy (D, P) (V.deep (V.kD ⟨h1, h2, hk, rfl⟩ H1))
  exact H2.swap
theorem V.D9 (H : V w0 w (Nb b U k p • iP p G [] 0 • F)) : V w0 w (wV b (wU U k G) • F) := by
  obtain ⟨⟨D, P⟩, H⟩ := H.lQ
  obtain ⟨⟨h1, h2, hk, hp⟩, H⟩ := H.flat.fact
  dsimp only at h1 h2 hk hp H
  subst hp
  refine V.Az (D := D) (P := P) h1 (fun x hx => ?_) ?_
  · rw [tX _ _ (by rintro rfl; exact hx hk)]; exact h2 x hx
  · rw [qP (U := wU U k G) hk, nO, Aw (P' := P) (U' := U) fun x hx => ⟨rfl, tX _ _ (by rintro rfl; exact (List.Nodup.not_mem_erase h1) hx)⟩]
    exact H.of_eq (by ac_rfl)
end
def rP (t : Int → Option ByteArray) : Int → Option Value := fun k => (t k).map .string
def PI (pb pr pw pt pm : Nat) (c : mD) : HP := iZ pb c.L c.pt c.mark • iD pr c.E c.at_ • dL pw (.cells #[.int .i64 c.place, .map (some pt)] 122 (0, 0)) • fG qI pt (rP c.tx) • wV pm c.un
def Nc (pb pr pw pm : Nat) (c : mD) : List Value := [.pointer (some ⟨pb, 0, none⟩), .pointer (some ⟨pr, 0, none⟩), .pointer (some ⟨pw, 0, none⟩), .map (some pm), .int .i64 c.mode, .bool c.over, .int .i64 c.last, .int .i64 c.fr, .int .i64 c.to, .int .i64 c.res, .bool c.run]
def uV (inn : Bool) (c : mD) (u : List Value) : HP := if inn = true then rQ fun (x : Nat × Nat × Nat × Nat × Nat) => fact (u = Nc x.1 x.2.1 x.2.2.1 x.2.2.2.2 c) • PI x.1 x.2.1 x.2.2.1 x.2.2.2.1 x.2.2.2.2 c else (fact ((u.all fun x => x.oneCell') = true))
def PK (hl : List pR) (c : mD) : Prop := 0 ≤ c.place ∧ c.place ≤ hl.length ∧ (∀ k t, c.tx k = some t → t.size ≤ 16384)
def xO (e : iT) : Prop := 0 ≤ e.1 ∧ 0 < e.2.1.length + e.2.2.length ∧ e.2.1.length ≤ 1024 ∧ e.2.2.length ≤ 1024
def lT (s : dG) : Prop := PK s.hl s.c ∧ (s.inn = true → PK s.hl s.was ∧ iE (s.was.un s.was.place) [] ≤ 16384 ∧ ∀ k, ∀ g ∈ s.was.un k, ∀ e ∈ g, xO e) ∧ (-1 ≤ s.arg ∧ s.arg ≤ 1000000) ∧ (∀ e ∈ s.put, xO e) ∧ iE s.here s.put ≤ 16384 ∧ (∀ k, ∀ g ∈ s.c.un k, ∀ e ∈ g, xO e)
structure EdP where
  pb : Nat
  pr : Nat
  pw : Nat
  pt : Nat
  pm : Nat
  ph : Nat
  bl : Nat
  pv : Value
  es : List dQ
  u0 : Value
  u1 : Value
  u2 : Value
  u3 : Value
  u4 : Value
  u5 : Value
  u6 : Value
  u7 : Value
  u8 : Value
  u9 : Value
  ua : Value
def EdG (e : Nat) (s : dG) (M : Nat → HP) : HP := rQ fun (x : EdP) => fact (lT s ∧ x.es.map dQ.says = s.put) •
  dL e (.cells (.pointer (some ⟨x.pb, 0, none⟩) :: .pointer (some ⟨x.pr, 0, none⟩) :: .pointer (some ⟨x.pw, 0, none⟩) :: .map (some x.pm) :: .int .i64 s.c.mode :: .bool s.c.over :: .int .i64 s.c.last :: .int .i64 s.c.fr :: .int .i64 s.c.to :: .int .i64 s.c.res :: .bool s.c.run :: .pointer (some ⟨x.ph, 0, none⟩) :: .pointer (some ⟨x.bl, 0, none⟩) :: .bool s.given :: .bool s.minus :: .int .i64 s.arg :: .bool s.inn :: x.u0 :: x.u1 :: x.u2 :: x.u3 :: x.u4 :: x.u5 :: x.u6 :: x.u7 :: x.u8 :: x.u9 :: x.ua :: .int .i64 s.cls :: .bool s.killed :: .bool s.lI :: .bool s.argues :: .bool s.whole :: x.pv :: []).toArray 82 (0, 0)) •
  iZ x.pb s.c.L s.c.pt s.c.mark • iD x.pr s.c.E s.c.at_ • dL x.pw (.cells #[.int .i64 s.c.place, .map (some x.pt)] 122 (0, 0)) • fG qI x.pt (rP s.c.tx) • M x.pm •
  gK x.ph s.hl s.base s.most • dL x.bl (.cells #[.int .i64 s.qO] 161 (0, 0)) • Row 189 3 x.pv s.put.length (x.es.flatMap dQ.enc) • kK x.es • uV s.inn s.was [x.u0, x.u1, x.u2, x.u3, x.u4, x.u5, x.u6, x.u7, x.u8, x.u9, x.ua]
def gB (e : Nat) (s : dG) : HP := EdG e s fun pm => wV pm s.c.un
def adh (e : Nat) (s : dG) (p : Nat) : HP := EdG e s fun pm => Nb pm s.c.un s.c.place p
section
variable {w0 w : World} {F : HP} {e : Nat} {s : dG} {M : Nat → HP}
theorem V.edG (H : V w0 w (EdG e s M • F)) : ∃ pb pr pw pt pm ph bl pv es u0 u1 u2 u3 u4 u5 u6 u7 u8 u9 ua, lT s ∧ es.map dQ.says = s.put ∧ es.length = s.put.length ∧ V w0 w (
  dL e (.cells (.pointer (some ⟨pb, 0, none⟩) :: .pointer (some ⟨pr, 0, none⟩) :: .pointer (some ⟨pw, 0, none⟩) :: .map (some pm) :: .int .i64 s.c.mode :: .bool s.c.over :: .int .i64 s.c.last :: .int .i64 s.c.fr :: .int .i64 s.c.to :: .int .i64 s.c.res :: .bool s.c.run :: .pointer (some ⟨ph, 0, none⟩) :: .pointer (some ⟨bl, 0, none⟩) :: .bool s.given :: .bool s.minus :: .int .i64 s.arg :: .bool s.inn :: u0 :: u1 :: u2 :: u3 :: u4 :: u5 :: u6 :: u7 :: u8 :: u9 :: ua :: .int .i64 s.cls :: .bool s.killed :: .bool s.lI :: .bool s.argues :: .bool s.whole :: pv :: []).toArray 82 (0, 0)) •
  iZ pb s.c.L s.c.pt s.c.mark • iD pr s.c.E s.c.at_ • dL pw (.cells #[.int .i64 s.c.place, .map (some pt)] 122 (0, 0)) • fG qI pt (rP s.c.tx) • M pm •
  gK ph s.hl s.base s.most • dL bl (.cells #[.int .i64 s.qO] 161 (0, 0)) • Row 189 3 pv s.put.length (es.flatMap dQ.enc) • kK es • uV s.inn s.was [u0, u1, u2, u3, u4, u5, u6, u7, u8, u9, ua] • F) := by
  obtain ⟨⟨pb, pr, pw, pt, pm, ph, bl, pv, es, u0, u1, u2, u3, u4, u5, u6, u7, u8, u9, ua⟩, H⟩ := H.lQ
  obtain ⟨⟨h1, h2⟩, H⟩ := H.flat.fact
  refine ⟨pb, pr, pw, pt, pm, ph, bl, pv, es, u0, u1, u2, u3, u4, u5, u6, u7, u8, u9, ua, h1, h2, ?_, ?_⟩
  · rw [← h2]; simp
  · dsimp only at H
    exact H.of_eq (by simp only [bW])
theorem V.aac {pb pr pw pt pm ph bl : Nat} {pv : Value} {es : List dQ} {u0 u1 u2 u3 u4 u5 u6 u7 u8 u9 ua : Value} (h1 : lT s) (h2 : es.map dQ.says = s.put) (H : V w0 w (
  dL e (.cells (.pointer (some ⟨pb, 0, none⟩) :: .pointer (some ⟨pr, 0, none⟩) :: .pointer (some ⟨pw, 0, none⟩) :: .map (some pm) :: .int .i64 s.c.mode :: .bool s.c.over :: .int .i64 s.c.last :: .int .i64 s.c.fr :: .int .i64 s.c.to :: .int .i64 s.c.res :: .bool s.c.run :: .pointer (some ⟨ph, 0, none⟩) :: .pointer (some ⟨bl, 0, none⟩) :: .bool s.given :: .bool s.minus :: .int .i64 s.arg :: .bool s.inn :: u0 :: u1 :: u2 :: u3 :: u4 :: u5 :: u6 :: u7 :: u8 :: u9 :: ua :: .int .i64 s.cls :: .bool s.killed :: .bool s.lI :: .bool s.argues :: .bool s.whole :: pv :: []).toArray 82 (0, 0)) •
  iZ pb s.c.L s.c.pt s.c.mark • iD pr s.c.E s.c.at_ • dL pw (.cells #[.int .i64 s.c.place, .map (some pt)] 122 (0, 0)) • fG qI pt (rP s.c.tx) • M pm •
  gK ph s.hl s.base s.most • dL bl (.cells #[.int .i64 s.qO] 161 (0, 0)) • Row 189 3 pv s.put.length (es.flatMap dQ.enc) • kK es • uV s.inn s.was [u0, u1, u2, u3, u4, u5, u6, u7, u8, u9, ua] • F)) : V w0 w (EdG e s M • F) :=
  V.iy ⟨pb, pr, pw, pt, pm, ph, bl, pv, es, u0, u1, u2, u3, u4, u5, u6, u7, u8, u9, ua⟩ (V.deep (V.kD ⟨h1, h2⟩ (H.of_eq (by simp only [bW]))))
theorem V.iF {pb pr pw pt pm ph bl : Nat} {pv : Value} {es : List dQ} {u0 u1 u2 u3 u4 u5 u6 u7 u8 u9 ua : Value} (h1 : lT s) (h2 : es.map dQ.says = s.put) (H : V w0 w (
  dL e (.cells (.pointer (some ⟨pb, 0, none⟩) :: .pointer (some ⟨pr, 0, none⟩) :: .pointer (some ⟨pw, 0, none⟩) :: .map (some pm) :: .int .i64 s.c.mode :: .bool s.c.over :: .int .i64 s.c.last :: .int .i64 s.c.fr :: .int .i64 s.c.to :: .int .i64 s.c.res :: .bool s.c.run :: .pointer (some ⟨ph, 0, none⟩) :: .pointer (some ⟨bl, 0, none⟩) :: .bool s.given :: .bool s.minus :: .int .i64 s.arg :: .bool s.inn :: u0 :: u1 :: u2 :: u3 :: u4 :: u5 :: u6 :: u7 :: u8 :: u9 :: ua :: .int .i64 s.cls :: .bool s.killed :: .bool s.lI :: .bool s.argues :: .bool s.whole :: pv :: []).toArray 82 (0, 0)) •
  iZ pb s.c.L s.c.pt s.c.mark • iD pr s.c.E s.c.at_ • dL pw (.cells #[.int .i64 s.c.place, .map (some pt)] 122 (0, 0)) • fG qI pt (rP s.c.tx) • wV pm s.c.un •
  gK ph s.hl s.base s.most • dL bl (.cells #[.int .i64 s.qO] 161 (0, 0)) • Row 189 3 pv s.put.length (es.flatMap dQ.enc) • kK es • uV s.inn s.was [u0, u1, u2, u3, u4, u5, u6, u7, u8, u9, ua] • F)) : V w0 w (gB e s • F) := V.aac (M := fun pm => wV pm s.c.un) h1 h2 H
theorem V.Gu (H : V w0 w (gB e s • F)) : ∃ pb pr pw pt pm ph bl pv es u0 u1 u2 u3 u4 u5 u6 u7 u8 u9 ua, lT s ∧ es.map dQ.says = s.put ∧ es.length = s.put.length ∧ V w0 w (
  dL e (.cells (.pointer (some ⟨pb, 0, none⟩) :: .pointer (some ⟨pr, 0, none⟩) :: .pointer (some ⟨pw, 0, none⟩) :: .map (some pm) :: .int .i64 s.c.mode :: .bool s.c.over :: .int .i64 s.c.last :: .int .i64 s.c.fr :: .int .i64 s.c.to :: .int .i64 s.c.res :: .bool s.c.run :: .pointer (some ⟨ph, 0, none⟩) :: .pointer (some ⟨bl, 0, none⟩) :: .bool s.given :: .bool s.minus :: .int .i64 s.arg :: .bool s.inn :: u0 :: u1 :: u2 :: u3 :: u4 :: u5 :: u6 :: u7 :: u8 :: u9 :: ua :: .int .i64 s.cls :: .bool s.killed :: .bool s.lI :: .bool s.argues :: .bool s.whole :: pv :: []).toArray 82 (0, 0)) •
  iZ pb s.c.L s.c.pt s.c.mark • iD pr s.c.E s.c.at_ • dL pw (.cells #[.int .i64 s.c.place, .map (some pt)] 122 (0, 0)) • fG qI pt (rP s.c.tx) • wV pm s.c.un •
  gK ph s.hl s.base s.most • dL bl (.cells #[.int .i64 s.qO] 161 (0, 0)) • Row 189 3 pv s.put.length (es.flatMap dQ.enc) • kK es • uV s.inn s.was [u0, u1, u2, u3, u4, u5, u6, u7, u8, u9, ua] • F) := H.edG
end
end Go.Proofs.YtpdeedplgmbopaaGreatDoor
end
section
namespace Go.Proofs.YtpdeedplgmbopaaGreatDoor
open Go.RowKit
open _root_.Go.Proofs.Tryz
def KL {β : Type} (f : Int → Option β) (S : List Int) : Int → Option β := fun k => if k ∈ S then f k else none
theorem Nh {β : Type} (f : Int → Option β) : KL f [] = fun _ => none := by funext k; simp [KL]
theorem Jy {β : Type} {f : Int → Option β} {S : List Int} {a : Int} {u : β} (h : f a = some u) : KL f (S ++ [a]) = upd (KL f S) a u := by
  funext k
  unfold KL upd
  by_cases hk : k = a
  · subst hk; simp [h]
  · simp [hk]
theorem Nj {β : Type} {f : Int → Option β} {S : List Int} (h : ∀ a u, f a = some u → a ∈ S) : KL f S = f := by
  funext k
  unfold KL
  split
  · rfl
  · rename_i hk
    cases hf : f k with
    | none => rfl
    | some u => exact absurd (h k u hf) hk
theorem QX (P : Int → Nat) : Na [] P = fun _ => none := by funext k; simp [Na]
theorem Vk {D : List Int} {P : Int → Nat} {a : Int} {u : Value} (h : Na D P a = some u) : a ∈ D ∧ u = .pointer (some ⟨P a, 0, none⟩) := by
  unfold Na at h
  split at h
  · rename_i hm; exact ⟨hm, by cases h; rfl⟩
  · cases h
theorem Nk {S : List Int} {P : Int → Nat} {a : Int} {q : Nat} (h : a ∉ S) : Na (S ++ [a]) (wU P a q) = upd (Na S P) a (.pointer (some ⟨q, 0, none⟩)) := by
  funext k
  unfold Na upd wU
  by_cases hk : k = a
  · subst hk; simp
  · simp [hk]
theorem Gv {P : Int → Nat} {U : Int → List (List iT)} {a : Int} : ∀ {S : List Int}, EJ P U (S ++ [a]) = (EJ P U S • iP (P a) (U a) [] 0)
  | [] => by show (iP (P a) (U a) [] 0 • emp) = (emp • iP (P a) (U a) [] 0); rw [uX, nG]
  | x :: S => by
    show (iP (P x) (U x) [] 0 • EJ P U (S ++ [a])) = ((iP (P x) (U x) [] 0 • EJ P U S) • iP (P a) (U a) [] 0)
    rw [Gv, bW]
theorem Ea {α : Type} {o : Option α} (h : ¬ o.isSome = true) : o = none := by cases o <;> simp_all
theorem Gw {S : List Int} {a : Int} (h : S.Nodup) (ha : a ∉ S) : (S ++ [a]).Nodup := by
  rw [List.nodup_append]
  exact ⟨h, by simp, by intro x hx y hy; rw [List.mem_singleton.1 hy]; rintro rfl; exact ha hx⟩
section
variable {w0 w : World} {F : HP} {pb pr pw pt pm : Nat} {c : mD}
theorem Nl (H : V w0 w (iZ pb c.L c.pt c.mark • iD pr c.E c.at_ • dL pw (.cells #[.int .i64 c.place, .map (some pt)] 122 (0, 0)) • fG qI pt (rP c.tx) • wV pm c.un • F)) :
  gJ prog 80 #[.agg #[.pointer (some ⟨pb, 0, none⟩), .pointer (some ⟨pr, 0, none⟩), .pointer (some ⟨pw, 0, none⟩), .map (some pm), .int .i64 c.mode, .bool c.over, .int .i64 c.last, .int .i64 c.fr, .int .i64 c.to, .int .i64 c.res, .bool c.run]] w fun v w' =>
   ∃ qb qr qw qt qm, v = .agg #[.pointer (some ⟨qb, 0, none⟩), .pointer (some ⟨qr, 0, none⟩), .pointer (some ⟨qw, 0, none⟩), .map (some qm), .int .i64 c.mode, .bool c.over, .int .i64 c.last, .int .i64 c.fr, .int .i64 c.to, .int .i64 c.res, .bool c.run] ∧
    V w0 w' (iZ qb c.L c.pt c.mark • iD qr c.E c.at_ • dL qw (.cells #[.int .i64 c.place, .map (some qt)] 122 (0, 0)) • fG qI qt (rP c.tx) • wV qm c.un •
     iZ pb c.L c.pt c.mark • iD pr c.E c.at_ • dL pw (.cells #[.int .i64 c.place, .map (some pt)] 122 (0, 0)) • fG qI pt (rP c.tx) • wV pm c.un • F) := by
 refine iG func80 ntmps80 ?_
 refine iH (jv (iM (l := [_, _, _, _, _, _, _, _, _, _, _]) H O O) ?_)
 rintro _ w1 ⟨b1, rfl, H1⟩
 refine jv (fJ (l := [_, _, _, _, _, _, _, _, _, _, _]) H1 lJ O) ?_
 rintro _ w2 ⟨b2, rfl, H2⟩
 refine pK ?_
 have UF := H2.drew
 have yx := V.kp (UF.f7.f7.f7.f7.f7.f7.f7)
 refine yw [1, 4] yx O (gU 0 O yx 0 aG O vM O (jT 1 O yx (fun W hW => kC qo O ((Kp.h hW).f2).get.2 O) (gU 3 O yx 1 aG O sizeOf73 O (jT 4 O yx (fun W hW => kC tq O ((Kp.h hW).f2).get.2 O) (oq 2 O (yN O func129 (Iy UF.f3)) ?_)))))
 rintro _ w3 ⟨q3, rfl, H3⟩
 have yQ := V.kp (H3.f8.f8.f8.f8.f8.f8.f8.f8)
 refine dV yQ (fun W hW => (Kp.h hW).right.f7.f7.f7.f7.f5.f7.f7) ?_
 refine gU 6 O yQ 0 aG O vM O (oq 5 O (yN O func85 (zN H3.f5)) ?_)
 rintro _ w4 ⟨pc4, rfl, H4⟩
 have xI := V.kp (H4.f9.f9.f9.f9.f9.f9.f9.f9.f9)
 refine gV xI (by kernel_rfl) ?_
 refine fO 7 O (by kernel_rfl) (fA 0 (l' := [_, _, _, _, _, _, _, _, _, _, _]) H4.f6 vM O O (by first | rfl | assumption) O O) ?_
 rintro _ w5 H5
 have BH := V.kp (H5.f9.f9.f9.f9.f9.f9.f9.f9.f9)
 refine gV BH (by kernel_rfl) ?_
 refine gU 8 O BH 1 aG O sizeOf73 O ?_
 refine fO 9 O (by kernel_rfl) (fA 1 (l' := [_, _, _, _, _, _, _, _, _, _, _]) H5 sizeOf73 O O (by first | rfl | assumption) O O) ?_
 rintro _ w6 H6
 have IG := V.kp (H6.f9.f9.f9.f9.f9.f9.f9.f9.f9)
 refine gV IG (by kernel_rfl) ?_
 refine qU (aX (iH (bD 2 aG O sizeOf74 O (fZ kE O (H6).get.2 O (dJ O (bD 0 eX O aj O (fZ aK O (H6.f7).get.2 O (jv (jH (wF .i64) H6) ?_))))))))
 rintro _ w7 ⟨b7, rfl, H7⟩
 refine aV (pI (pl := #[(0, 1), (1, 1)]) (#[_, _]) eX mY (fun w => by kernel_rfl) O (O)) (jv (iM (l := [_, _]) H7 O O) ?_)
 rintro _ w8 ⟨b8, rfl, H8⟩
 refine wu O (iH (bD 2 aG O sizeOf74 O (fZ kE O (H8.f3).get.2 O (dJ O (bD 1 eX O sizeOf120 O (fZ underlying120 O (H8.f9).get.2 O (jv (zY H8.f10 underlying120 O) ?_)))))))
 rintro _ w9 ⟨it9, mi, rfl, H9⟩
 refine iJ (aY ?_)
 obtain ⟨R10, adi, adj⟩ := V.FK (H9.f2.f3.f3)
 have HX0 := adj
 rw [← Nh (rP c.tx)] at HX0
 refine fF [(1, _), (2, _), (3, _), (30, _)] (fun (⟨S, n⟩ : List Int × Nat) => []) (fun (⟨S, n⟩ : List Int × Nat) W => V w0 W (Bh qI pt it9 (rP c.tx) S n • fG qI b7 (KL (rP c.tx) S) • dL b8 (.cells #[.int .i64 c.place, .map (some b7)] 122 (0, 0)) • R10)) (fun (⟨S, n⟩ : List Int × Nat) => n) (([], _)) J6 (Sub.nil _) HX0 ?_
 rintro ⟨S, n⟩ EH HL
 dsimp only [List.cons_append, List.nil_append]
 refine iH (jv (BL HL O) ?_)
 rintro _ w12 ⟨ox, Sx, mx, rfl, Y9, uI⟩
 refine aV (Vf O) (pK (bI O (fun h1 => ?_) (fun h1 => ?_)))
 ·(try simp only [Z] at h1)
  obtain ⟨⟨a, u⟩, rfl⟩ := Option.isSome_iff_exists.1 h1
  obtain ⟨ha, hns, hlt, rfl⟩ := Y9
  refine gq (aY (iH ?_))
  refine aV (KJ (uI) (by assumption) O) ?_
  refine qQ O O (qQ O O (fV O (gI O (aC (nD O O (bD 1 eX O sizeOf120 O (fZ underlying120 O (uI.f3).get.2 O (jG O O (aH (tY uI.f2 underlying120 aK O O O) ?_)))))))))
  rintro _ Pj xk
  refine bM (aJ ?_)
  have hres := Jy (S := S) ha
  refine dK ((S ++ [a], mx)) ?_ ?_ ?_ ?_
  ·exact (Sub.nil _)
  ·exact J6
  ·(try dsimp only)
   first | done | exact (by rw [hres]; exact xk.f3.f2.f3)
  ·(try dsimp only); omega
 ·(try simp only [Z] at h1)
  obtain rfl := Ea (o := ox) (by simp [h1])
  obtain ⟨rfl, rfl, hall⟩ := Y9
  refine dB (aI ?_)
  have HX := uI.f3.f2.f3
  rw [Nj hall] at HX
  have aad := HX.f2
  have aae := aad.D7
  subst adi
  refine aI (bf (aX (bT O (bD 2 aG O sizeOf74 O (aH (fA 2 (l' := [_, _, _, _, _, _, _, _, _, _, _]) aae.f4 sizeOf74 O O (by first | rfl | assumption) O O) ?_)))))
  rintro _ w16 yO
  refine Xi (jv (jH (wF .i64) yO) ?_)
  rintro _ Za ⟨b17, rfl, Io⟩
  refine wu O (aP ?_)
  obtain ⟨D, P, hD1, hD2, HU⟩ := (Io.f12).XZ
  refine aC (bD 3 aG O sizeOf75 O (fZ kF O (HU.f4).get.2 O (jv (zY HU kF O) ?_)))
  rintro _ XF ⟨adk, mi, rfl, CV⟩
  refine iJ (aY ?_)
  obtain ⟨R19, adl, adn⟩ := V.FK (CV.f3.f3.f3)
  have HX0 := adn
  rw [← QX P] at HX0
  refine fF [(1, _), (2, _), (6, _), (47, _)] (fun (⟨S, n, P2⟩ : List Int × Nat × (Int → Nat)) => []) (fun (⟨S, n, P2⟩ : List Int × Nat × (Int → Nat)) W => S.Nodup ∧ V w0 W (Bh qI pm adk (Na D P) S n • EJ P c.un D • fG qI b17 (Na S P2) • EJ P2 c.un S • R19)) (fun (⟨S, n, P2⟩ : List Int × Nat × (Int → Nat)) => n) (([], _, P)) J6 (Sub.nil _) ⟨List.nodup_nil, (HX0).of_eq (by show _ = (_ • _ • _ • emp • _); rw [nG])⟩ ?_
  rintro ⟨S, n, P2⟩ w20 ⟨hS, HL⟩
  dsimp only [List.cons_append, List.nil_append]
  refine iH (jv (BL HL O) ?_)
  rintro _ w21 ⟨ox, Sx, mx, rfl, Y9, IC⟩
  refine aV (Vf O) (pK (bI O (fun h2 => ?_) (fun h2 => ?_)))
  ·(try simp only [Z] at h2)
   obtain ⟨⟨a, u⟩, rfl⟩ := Option.isSome_iff_exists.1 h2
   obtain ⟨ha, hns, hlt, rfl⟩ := Y9
   obtain ⟨hmem, rfl⟩ := Vk ha
   have HF := IC.f2
   rw [qP hmem] at HF
   have HF2 := HF.flat
   refine gq (aY (iH ?_))
   refine aV (KJ (HF2.f3) (by assumption) O) ?_
   refine qQ O O (qQ O O (fV O (gI O (aC (jG O O (bP O (dY O func130 (Gn HF2) ?_)))))))
   rintro _ w22 ⟨q22, rfl, OY⟩
   refine aH (tY OY.f5 kF aK O O O) ?_
   rintro _ w23 IE
   refine bM (aJ ?_)
   have HQ := IE.f2.f6.f3.f5.f5.f6
   have hu1 : EJ (wU P2 a q22) c.un (S ++ [a]) = (EJ P2 c.un S • iP q22 (c.un a) [] 0) := by
    rw [Gv, nO, Aw (P' := P2) (U' := c.un) fun x hx => ⟨tX _ _ (by rintro rfl; exact hns hx), rfl⟩]
   refine dK ((S ++ [a], mx, wU P2 a q22)) ?_ ?_ ?_ ?_
   ·exact (Sub.nil _)
   ·exact J6
   ·(try dsimp only)
    first | done | exact ⟨Gw hS hns, HQ.of_eq (by rw [qP hmem, hu1, Nk hns]; ac_rfl)⟩
   ·(try dsimp only); omega
  ·(try simp only [Z] at h2)
   obtain rfl := Ea (o := ox) (by simp [h2])
   obtain ⟨rfl, rfl, hall⟩ := Y9
   refine dB (aI ?_)
   have ado := IC
   have adp := ado.D7
   subst adl
   have adq := adp.f2.f2
   have adr := V.Az hD1 hD2 adq
   have hnS : ∀ k, k ∉ Sx → c.un k = [] := fun k hk => hD2 k fun hkD => hk (hall k _ (if_pos hkD))
   have aaf := adr.f3.f3
   have SK := V.Az hS hnS aaf
   refine aI (bf (aX (bT O (bD 3 aG O sizeOf75 O (aH (fA 3 (l' := [_, _, _, _, _, _, _, _, _, _, _]) SK.f3 sizeOf75 O O (by first | rfl | assumption) O O) ?_)))))
   rintro _ w30 Vl
   refine Xi (aV (eY aG O aQ O O (Vl).get.2) (aH (bU 0 (l' := [_, _, _, _, _, _, _, _, _, _, _]) (us := [_, _, _, _, _, _, _, _, _, _, _]) Vl.f11 aQ O O O (aA (aA (aA (aA (aA (aA (aA (aA (aA (aA (aA bF))))))))))) O O) ?_))
   rintro _ w31 SL
   refine YU ?_
   refine pX (.inl O) (J3 results80 O aG O (by rw [abQ]; rfl) (SL).get.2) ?_
   exact ⟨_, _, _, _, _, O, SL.right.right.f2.f3.f10.f8.f10.f6.f7.f8.f9.f10⟩
end
end Go.Proofs.YtpdeedplgmbopaaGreatDoor
end
section
namespace Go.Proofs.YtpdeedplgmbopaaGreatDoor
open Go.RowKit
section
variable {P : Program} {L : List (Nat × Value)} {w0 w : World} {F : HP} {ty : TypeId} {α : Type} {K : Key α} {f : α → Option Value} {a : α} {b : Nat} {x y z : Operand}
theorem yE [DecidableEq α] {t kt et : TypeId} {v : Value} (H : V w0 w (fG K b f • F)) (ht : P.underlying t = some (.map kt et)) (hk : P.underlying kt = some K.d)
    (hx : ev L x = some (.map (some b))) (hy : ev L y = some (K.mk a)) (hz : ev L z = some v) : uz P L (.insert t x y z) ty w fun _ w' => V w0 w' (fG K b (upd f a v) • F) := tY (ty := ty) (y := y) (z := z) H ht hk hx hy hz
theorem SN {t t' kt et : TypeId} {a : Option Nat} (ht : P.underlying t = some (.map kt et)) (hx : ev L x = some (.map a)) (hy : ev L y = some (.map none)) : Val P L (.binOp .eql t x y t') ty w (.bool a.isNone) w := fun ρ hρ _ _ _ _ => by
  simp only [execOp, hρ _ _ hx, hρ _ _ hy]
  have h1 : (eqGuard .eql t x y (.map a) (.map none)).run P w = .ok () w := by unfold eqGuard; rfl
  have h2 : (Op.equal t (.map a) (.map none)).run P w = .ok a.isNone w := Ak fun d => by cases a <;> simp [Op.equalIn, run_underlying ht]
  have h3 : binOp .eql t (.map a) (.map none) = (do pure (.bool (← Op.equal t (.map a) (.map none)))) := by rfl
  simp only [Sem.run_bind, h1, Result.andThen, h3, h2]
  simp
end
def ends (T : List (Int × Int)) : List Int := T.flatMap fun x => [x.1, x.2]
section
variable {w0 w : World} {F : HP} {r : Int}
abbrev ads : List (Int × Int) := [(48, 57), (65, 90), (97, 122)]
abbrev aeZ : List (Int × Int) := [(215, 215), (247, 247), (8192, 8303), (12288, 12351), (65280, 65295), (65533, 65533)]
end
def jY (P : Int → Bool) (l : List Int) (x : Int) : Int := x + (((l.drop x.toNat).takeWhile P).length : Nat)
def uM (P : Int → Bool) (l : List Int) (x : Int) : Int := x - (((l.take x.toNat).reverse.takeWhile P).length : Nat)
section
variable {P : Int → Bool} {l : List Int} {x : Int}
theorem jm (h : (l.length : Int) ≤ x) : jY P l x = x := by
  unfold jY
  rw [List.drop_of_length_le (by omega)]
  simp
theorem qy (h0 : 0 ≤ x) (h1 : x < l.length) (h : P (l.getD x.toNat 0) = true) : jY P l x = jY P l (x + 1) := by
  unfold jY
  rw [List.getD_eq_getElem?_getD, List.getElem?_eq_getElem (by omega), Option.getD_some] at h
  rw [List.drop_eq_getElem_cons (by omega), List.takeWhile_cons, if_pos h, show (x + 1).toNat = x.toNat + 1 from by omega, List.length_cons]
  omega
theorem kV (h0 : 0 ≤ x) (h1 : x < l.length) (h : ¬ P (l.getD x.toNat 0) = true) : jY P l x = x := by
  unfold jY
  rw [List.getD_eq_getElem?_getD, List.getElem?_eq_getElem (by omega), Option.getD_some] at h
  rw [List.drop_eq_getElem_cons (by omega), List.takeWhile_cons, if_neg h]
  simp
theorem qJ (h0 : 0 ≤ x) (h1 : x ≤ l.length) : x ≤ jY P l x ∧ jY P l x ≤ l.length := by
  unfold jY
  have h2 := (List.takeWhile_sublist P (l := l.drop x.toNat)).length_le
  rw [List.length_drop] at h2
  omega
theorem tZ (h : x ≤ 0) : uM P l x = x := by
  unfold uM
  rw [show x.toNat = 0 from by omega]
  simp
theorem Np (h0 : 0 < x) (h1 : x ≤ l.length) : (l.take x.toNat).reverse = l.getD (x - 1).toNat 0 :: (l.take (x - 1).toNat).reverse := by
  rw [show x.toNat = (x - 1).toNat + 1 from by omega, List.take_succ_eq_append_getElem (by omega), List.reverse_append, List.getD_eq_getElem?_getD, List.getElem?_eq_getElem (by omega)]
  rfl
theorem Gx (h0 : 0 < x) (h1 : x ≤ l.length) (h : P (l.getD (x - 1).toNat 0) = true) : uM P l x = uM P l (x - 1) := by
  unfold uM
  rw [Np h0 h1, List.takeWhile_cons, if_pos h, List.length_cons]
  omega
theorem xq (h0 : 0 < x) (h1 : x ≤ l.length) (h : ¬ P (l.getD (x - 1).toNat 0) = true) : uM P l x = x := by
  unfold uM
  rw [Np h0 h1, List.takeWhile_cons, if_neg h]
  simp
theorem Gy (h0 : 0 ≤ x) (h1 : x ≤ l.length) : 0 ≤ uM P l x ∧ uM P l x ≤ x := by
  unfold uM
  have h2 := (List.takeWhile_sublist P (l := (l.take x.toNat).reverse)).length_le
  rw [List.length_reverse, List.length_take] at h2
  omega
end
end Go.Proofs.YtpdeedplgmbopaaGreatDoor
end
section
namespace Go.Proofs.YtpdeedplgmbopaaGreatDoor
open Go.RowKit
open _root_.Go.Proofs.Tryz
def eH (r : Int) : Int := if r = 32 ∨ r = 9 ∨ r = 10 then 0 else if r = 95 ∨ dO r = true then 1 else 2
def cO (r : Int) (big : Bool) : Int := if big then min (eH r) 1 else eH r
def xu (l : List Int) (x : Int) (big : Bool) : Int :=
  jY (fun r => eH r == 0) l (if x < l.length then (if cO (l.getD x.toNat 0) big = 0 then x else jY (fun r => cO r big == cO (l.getD x.toNat 0) big) l x) else x)
section
variable {w0 w : World} {F : HP} {r x : Int} {big : Bool} {l : List Int} {v : Value}
theorem nY (H : V w0 w F) (hT : wS w0) : gJ prog 14 #[.int .i32 r] w fun v' w' => v' = .int .i64 (eH r) ∧ V w0 w' F := by
  refine iG func14 ntmps14 ?_
  refine jr O (aP (aY (bT O (aV (dR O O) (jF O (fun h1 => ?_) (fun h1 => ?_))))))
  · (try simp only [Z] at h1)
    refine bJ (bJ (jE O O (bP O (bJ (bJ (jE O O (gI O (Il (jL O (aT (aF (dH results14 O ?_))))))))))))
    exact ⟨by unfold eH; rw [if_pos (by omega)], H⟩
  · (try simp only [Z] at h1)
    refine bC (bP O (bC (aV (dR O O) (iL O O (jF O (fun h2 => ?_) (fun h2 => ?_))))))
    · (try simp only [Z] at h2)
      refine bJ (bJ (jE O O (gI O (Il (jL O (aT (aF (dH results14 O ?_))))))))
      exact ⟨by unfold eH; rw [if_pos (by omega)], H⟩
    · (try simp only [Z] at h2)
      refine bC (bP O (bC (aV (dR O O) (iL O O (gI O (bI O (fun h3 => ?_) (fun h3 => ?_)))))))
      · (try simp only [Z] at h3)
        refine jL O (aT (aF (dH results14 O ?_)))
        exact ⟨by unfold eH; rw [if_pos (by omega)], H⟩
      · (try simp only [Z] at h3)
        refine bT O (aV (dR O O) (jF O (fun h4 => ?_) (fun h4 => ?_)))
        · (try simp only [Z] at h4)
          refine bJ (bJ (jE O O (gI O (Il (jL O (aT (aF (dH results14 O ?_))))))))
          exact ⟨by unfold eH; rw [if_neg (by omega), if_pos (by first | (left; omega) | (right; assumption))], H⟩
        · (try simp only [Z] at h4)
          refine bC (bP O (bC (dY O func47 (OW H hT) ?_)))
          rintro _ w1 ⟨rfl, H1⟩
          refine iL O O (gI O (bI O (fun h5 => ?_) (fun h5 => ?_)))
          · (try simp only [Z] at h5)
            refine jL O (aT (aF (dH results14 O ?_)))
            exact ⟨by unfold eH; rw [if_neg (by omega), if_pos (by first | (left; omega) | (right; assumption))], H1⟩
          · (try simp only [Z] at h5)
            refine bZ (aJ (aX (jL O (dH results14 O ?_))))
            exact ⟨by unfold eH; rw [if_neg (by omega), if_neg (by intro c; rcases c with c | c; omega; simp_all)], H1⟩
theorem lM (H : V w0 w F) (hT : wS w0) : gJ prog 142 #[.int .i32 r, .bool big] w fun v' w' => v' = .int .i64 (cO r big) ∧ V w0 w' F := by
  refine nT func142 ntmps142 ?_
  refine jr O (aP (bT O (je O (fun h1 => ?_) (fun h1 => ?_))))
  · (try simp only [Z] at h1)
    have hb : big = true := h1
    refine bT O (dY O func14 (nY H hT) ?_)
    rintro _ w1 ⟨rfl, H1⟩
    refine aV (CB O O) (fC O (aF (dH results142 O ?_)))
    exact ⟨by unfold cO; rw [if_pos hb], H1⟩
  · (try simp only [Z] at h1)
    have hb : big = false := h1
    refine gq (bT O (dY O func14 (nY H hT) ?_))
    rintro _ w2 ⟨rfl, H2⟩
    refine fC O (dH results142 O ?_)
    exact ⟨by unfold cO; rw [if_neg (by rw [hb]; decide)], H2⟩
end
section
variable {w0 w : World} {F : HP} {r x : Int} {big : Bool} {l : List Int} {v : Value}
theorem SQ (H : V w0 w F) (hr : jq w0 F .i32 v l) (hT : wS w0) (hx0 : 0 ≤ x) (hx1 : x ≤ l.length) : gJ prog 95 #[v, .int .i64 x, .bool big] w fun v' w' => v' = .int .i64 (xu l x big) ∧ V w0 w' F := by
 have Vm : l.length ≤ 9223372036854775807 := by have := (hr _ H).open; obtain ⟨a, c, e, h3, h4, _⟩ := this; omega
 refine CQ func95 ntmps95 ?_
 refine jr O (aP (bT O (bP O (aV (iQ (hr _ (H)) ay O) (aV (gY O O) (je O (fun h1 => ?_) (fun h1 => ?_)))))))
 ·(try simp only [Z] at h1)
  refine bT O (bP O ?_)
  obtain ⟨bv, ov, cv, ev⟩ := fB.pJ (hr _ (H)) (by omega)
  cases ev
  refine aV (dD ay bQ O O (by omega)) ?_
  refine aV (eG (bY aZ O) O (by first | exact fB.kX (hr _ (H)) (by omega) | exact fB.uQ (hr _ (H)) (by omega) | exact fB.uG (hr _ (H)) (by omega))) ?_
  refine bP O (dY O func142 (lM H hT) ?_)
  rintro _ w1 ⟨rfl, H1⟩
  refine gI O (bT O (aV (iU O O) (je O (fun h2 => ?_) (fun h2 => ?_))))
  ·(try simp only [Z] at h2)
   have hk : ¬ cO (l.getD x.toNat 0) big = 0 := h2
   refine aY ?_
   refine fF [(0, _), (2, _), (7, _)] (fun (y : Int) => [(1, .int .i64 y)]) (fun (y : Int) W => ((0 ≤ y ∧ y ≤ l.length) ∧ jY (fun r => cO r big == cO (l.getD x.toNat 0) big) l y = jY (fun r => cO r big == cO (l.getD x.toNat 0) big) l x) ∧ V w0 W F) (fun (y : Int) => (l.length - y).toNat) (x) uH lG ⟨⟨⟨hx0, hx1⟩, O⟩, H1⟩ ?_
   rintro y w2 ⟨⟨⟨hy0, hyl⟩, hy⟩, HL⟩
   dsimp only [List.cons_append, List.nil_append]
   refine aP (bT O (bP O (aV (nI ay O) (aV (gY O O) (jF O (fun h3 => ?_) (fun h3 => ?_))))))
   ·(try simp only [Z] at h3)
    refine bC (bP O (bC (bP O (bC (aV (dD ay bQ O O (by omega)) (bC ?_))))))
    refine aV (eG (bY aZ O) O (by first | exact fB.kX (hr _ (HL)) (by omega) | exact fB.uQ (hr _ (HL)) (by omega) | exact fB.uG (hr _ (HL)) (by omega))) ?_
    refine bC (bP O (bC (dY O func142 (lM HL hT) ?_)))
    rintro _ w3 ⟨rfl, H3⟩
    refine bC (bP O (bC (aV (dR O O) (jE O O (je O (fun h4 => ?_) (fun h4 => ?_))))))
    ·(try simp only [Z] at h4)
     have hP : (cO (l.getD y.toNat 0) big == cO (l.getD x.toNat 0) big) = true := by rw [beq_iff_eq]; exact h4
     refine gq (aY (aC (bP O (aV (fQ O O (by omega)) (fV O (bM (aJ ?_)))))))
     refine dK (y + 1) ?_ ?_ ?_ ?_
     ·exact lG
     ·exact uH
     ·(try dsimp only)
      first | done | exact ⟨⟨⟨by omega, by omega⟩, (qy hy0 (by omega) hP).symm.trans hy⟩, H3⟩
     ·(try dsimp only); omega
    ·(try simp only [Z] at h4)
     have hP : ¬ (cO (l.getD y.toNat 0) big == cO (l.getD x.toNat 0) big) = true := by rw [beq_iff_eq]; exact h4
     refine dB (aI (aI (bf (aX (aP (aY ?_))))))
     try have e1 : jY (fun r => cO r big == cO (l.getD x.toNat 0) big) l x = y := hy.symm.trans (by first | exact jm (by omega) | exact kV hy0 (by omega) hP)
     refine fF [(0, _)] (fun (z : Int) => [(1, .int .i64 z)]) (fun (z : Int) W => ((0 ≤ z ∧ z ≤ l.length) ∧ xu l x big = jY (fun r => eH r == 0) l z) ∧ V w0 W F) (fun (z : Int) => (l.length - z).toNat) (_) lG lG ⟨⟨⟨by omega, by omega⟩, by unfold xu; first | (rw [if_neg (by omega)]; done) | (rw [if_pos (by omega), if_pos hk]; done) | (rw [if_pos (by omega), if_neg hk, e1]; done)⟩, H3⟩ ?_
     rintro z w4 ⟨⟨⟨hz0, hzl⟩, hz⟩, HM⟩
     dsimp only [List.cons_append, List.nil_append]
     refine aP (bT O (bP O (aV (nI ay O) (aV (gY O O) (jF O (fun h5 => ?_) (fun h5 => ?_))))))
     ·(try simp only [Z] at h5)
      refine bC (bP O (bC (bP O (bC (aV (dD ay bQ O O (by omega)) (bC ?_))))))
      refine aV (eG (bY aZ O) O (by first | exact fB.kX (hr _ (HM)) (by omega) | exact fB.uQ (hr _ (HM)) (by omega) | exact fB.uG (hr _ (HM)) (by omega))) ?_
      refine bC (dY O func14 (nY HM hT) ?_)
      rintro _ w5 ⟨rfl, H5⟩
      refine bC (aV (dR O O) (jE O O (je O (fun h6 => ?_) (fun h6 => ?_))))
      ·(try simp only [Z] at h6)
       have hQ : (eH (l.getD z.toNat 0) == 0) = true := by rw [beq_iff_eq]; exact h6
       refine gq (aY (aC (bP O (aV (fQ O O (by omega)) (fV O (bM (aJ ?_)))))))
       refine dK (z + 1) ?_ ?_ ?_ ?_
       ·exact lG
       ·exact lG
       ·(try dsimp only)
        first | done | exact ⟨⟨⟨by omega, by omega⟩, hz.trans (qy hz0 (by omega) hQ)⟩, H5⟩
       ·(try dsimp only); omega
      ·(try simp only [Z] at h6)
       have hQ : ¬ (eH (l.getD z.toNat 0) == 0) = true := by rw [beq_iff_eq]; exact h6
       refine dB (aI (aI (bf (aX (bT O (fC O (dH results95 O ?_)))))))
       exact ⟨by rw [hz]; first | rw [jm (by omega)] | rw [kV hz0 (by omega) hQ], H5⟩
     ·(try simp only [Z] at h5)
      refine bJ (bJ (bJ (bJ (bJ (bJ (iL O O (iJ (qF (dB (aI (aI (bf (aX (bT O (fC O (dH results95 O ?_))))))))))))))))
      exact ⟨by rw [hz]; first | rw [jm (by omega)] | rw [kV hz0 (by omega) hQ], HM⟩
   ·(try simp only [Z] at h3)
    refine bJ (bJ (bJ (bJ (bJ (bJ (bJ (bJ (iL O O (iJ (qF (dB (aI (aI (bf (aX (aP (aY ?_)))))))))))))))))
    try have e1 : jY (fun r => cO r big == cO (l.getD x.toNat 0) big) l x = y := hy.symm.trans (by first | exact jm (by omega) | exact kV hy0 (by omega) hP)
    refine fF [(0, _)] (fun (z : Int) => [(1, .int .i64 z)]) (fun (z : Int) W => ((0 ≤ z ∧ z ≤ l.length) ∧ xu l x big = jY (fun r => eH r == 0) l z) ∧ V w0 W F) (fun (z : Int) => (l.length - z).toNat) (_) lG lG ⟨⟨⟨by omega, by omega⟩, by unfold xu; first | (rw [if_neg (by omega)]; done) | (rw [if_pos (by omega), if_pos hk]; done) | (rw [if_pos (by omega), if_neg hk, e1]; done)⟩, HL⟩ ?_
    rintro z w6 ⟨⟨⟨hz0, hzl⟩, hz⟩, HM⟩
    dsimp only [List.cons_append, List.nil_append]
    refine aP (bT O (bP O (aV (nI ay O) (aV (gY O O) (jF O (fun h7 => ?_) (fun h7 => ?_))))))
    ·(try simp only [Z] at h7)
     refine bC (bP O (bC (bP O (bC (aV (dD ay bQ O O (by omega)) (bC ?_))))))
     refine aV (eG (bY aZ O) O (by first | exact fB.kX (hr _ (HM)) (by omega) | exact fB.uQ (hr _ (HM)) (by omega) | exact fB.uG (hr _ (HM)) (by omega))) ?_
     refine bC (dY O func14 (nY HM hT) ?_)
     rintro _ w7 ⟨rfl, H7⟩
     refine bC (aV (dR O O) (jE O O (je O (fun h8 => ?_) (fun h8 => ?_))))
     ·(try simp only [Z] at h8)
      have hQ : (eH (l.getD z.toNat 0) == 0) = true := by rw [beq_iff_eq]; exact h8
      refine gq (aY (aC (bP O (aV (fQ O O (by omega)) (fV O (bM (aJ ?_)))))))
      refine dK (z + 1) ?_ ?_ ?_ ?_
      ·exact lG
      ·exact lG
      ·(try dsimp only)
       first | done | exact ⟨⟨⟨by omega, by omega⟩, hz.trans (qy hz0 (by omega) hQ)⟩, H7⟩
      ·(try dsimp only); omega
     ·(try simp only [Z] at h8)
      have hQ : ¬ (eH (l.getD z.toNat 0) == 0) = true := by rw [beq_iff_eq]; exact h8
      refine dB (aI (aI (bf (aX (bT O (fC O (dH results95 O ?_)))))))
      exact ⟨by rw [hz]; first | rw [jm (by omega)] | rw [kV hz0 (by omega) hQ], H7⟩
    ·(try simp only [Z] at h7)
     refine bJ (bJ (bJ (bJ (bJ (bJ (iL O O (iJ (qF (dB (aI (aI (bf (aX (bT O (fC O (dH results95 O ?_))))))))))))))))
     exact ⟨by rw [hz]; first | rw [jm (by omega)] | rw [kV hz0 (by omega) hQ], HM⟩
  ·(try simp only [Z] at h2)
   have hk : cO (l.getD x.toNat 0) big = 0 := by have h9 := h2; omega
   refine gq (aP (aY ?_))
   try have e1 : jY (fun r => cO r big == cO (l.getD x.toNat 0) big) l x = y := hy.symm.trans (by first | exact jm (by omega) | exact kV hy0 (by omega) hP)
   refine fF [(0, _)] (fun (z : Int) => [(1, .int .i64 z)]) (fun (z : Int) W => ((0 ≤ z ∧ z ≤ l.length) ∧ xu l x big = jY (fun r => eH r == 0) l z) ∧ V w0 W F) (fun (z : Int) => (l.length - z).toNat) (_) lG lG ⟨⟨⟨by omega, by omega⟩, by unfold xu; first | (rw [if_neg (by omega)]; done) | (rw [if_pos (by omega), if_pos hk]; done) | (rw [if_pos (by omega), if_neg hk, e1]; done)⟩, H1⟩ ?_
   rintro z w8 ⟨⟨⟨hz0, hzl⟩, hz⟩, HM⟩
   dsimp only [List.cons_append, List.nil_append]
   refine aP (bT O (bP O (aV (nI ay O) (aV (gY O O) (jF O (fun h9 => ?_) (fun h9 => ?_))))))
   ·(try simp only [Z] at h9)
    refine bC (bP O (bC (bP O (bC (aV (dD ay bQ O O (by omega)) (bC ?_))))))
    refine aV (eG (bY aZ O) O (by first | exact fB.kX (hr _ (HM)) (by omega) | exact fB.uQ (hr _ (HM)) (by omega) | exact fB.uG (hr _ (HM)) (by omega))) ?_
    refine bC (dY O func14 (nY HM hT) ?_)
    rintro _ w9 ⟨rfl, H9⟩
    refine bC (aV (dR O O) (jE O O (je O (fun h10 => ?_) (fun h10 => ?_))))
    ·(try simp only [Z] at h10)
     have hQ : (eH (l.getD z.toNat 0) == 0) = true := by rw [beq_iff_eq]; exact h10
     refine gq (aY (aC (bP O (aV (fQ O O (by omega)) (fV O (bM (aJ ?_)))))))
     refine dK (z + 1) ?_ ?_ ?_ ?_
     ·exact lG
     ·exact lG
     ·(try dsimp only)
      first | done | exact ⟨⟨⟨by omega, by omega⟩, hz.trans (qy hz0 (by omega) hQ)⟩, H9⟩
     ·(try dsimp only); omega
    ·(try simp only [Z] at h10)
     have hQ : ¬ (eH (l.getD z.toNat 0) == 0) = true := by rw [beq_iff_eq]; exact h10
     refine dB (aI (aI (bf (aX (bT O (fC O (dH results95 O ?_)))))))
     exact ⟨by rw [hz]; first | rw [jm (by omega)] | rw [kV hz0 (by omega) hQ], H9⟩
   ·(try simp only [Z] at h9)
    refine bJ (bJ (bJ (bJ (bJ (bJ (iL O O (iJ (qF (dB (aI (aI (bf (aX (bT O (fC O (dH results95 O ?_))))))))))))))))
    exact ⟨by rw [hz]; first | rw [jm (by omega)] | rw [kV hz0 (by omega) hQ], HM⟩
 ·(try simp only [Z] at h1)
  refine gq (aP (aY ?_))
  try have e1 : jY (fun r => cO r big == cO (l.getD x.toNat 0) big) l x = y := hy.symm.trans (by first | exact jm (by omega) | exact kV hy0 (by omega) hP)
  refine fF [(0, _)] (fun (z : Int) => [(1, .int .i64 z)]) (fun (z : Int) W => ((0 ≤ z ∧ z ≤ l.length) ∧ xu l x big = jY (fun r => eH r == 0) l z) ∧ V w0 W F) (fun (z : Int) => (l.length - z).toNat) (_) lG lG ⟨⟨⟨by omega, by omega⟩, by unfold xu; first | (rw [if_neg (by omega)]; done) | (rw [if_pos (by omega), if_pos hk]; done) | (rw [if_pos (by omega), if_neg hk, e1]; done)⟩, H⟩ ?_
  rintro z w10 ⟨⟨⟨hz0, hzl⟩, hz⟩, HM⟩
  dsimp only [List.cons_append, List.nil_append]
  refine aP (bT O (bP O (aV (iQ (hr _ (HM)) ay O) (aV (gY O O) (jF O (fun h11 => ?_) (fun h11 => ?_))))))
  ·(try simp only [Z] at h11)
   refine bC (bP O (bC (bP O (bC ?_))))
   obtain ⟨bv, ov, cv, ev⟩ := fB.pJ (hr _ (HM)) (by omega)
   cases ev
   refine aV (dD ay bQ O O (by omega)) (bC ?_)
   refine aV (eG (bY aZ O) O (by first | exact fB.kX (hr _ (HM)) (by omega) | exact fB.uQ (hr _ (HM)) (by omega) | exact fB.uG (hr _ (HM)) (by omega))) ?_
   refine bC (dY O func14 (nY HM hT) ?_)
   rintro _ EH ⟨rfl, rF⟩
   refine bC (aV (dR O O) (jE O O (je O (fun h12 => ?_) (fun h12 => ?_))))
   ·(try simp only [Z] at h12)
    have hQ : (eH (l.getD z.toNat 0) == 0) = true := by rw [beq_iff_eq]; exact h12
    refine gq (aY (aC (bP O (aV (fQ O O (by omega)) (fV O (bM (aJ ?_)))))))
    refine dK (z + 1) ?_ ?_ ?_ ?_
    ·exact lG
    ·exact lG
    ·(try dsimp only)
     first | done | exact ⟨⟨⟨by omega, by omega⟩, hz.trans (qy hz0 (by omega) hQ)⟩, rF⟩
    ·(try dsimp only); omega
   ·(try simp only [Z] at h12)
    have hQ : ¬ (eH (l.getD z.toNat 0) == 0) = true := by rw [beq_iff_eq]; exact h12
    refine dB (aI (aI (bf (aX (bT O (fC O (dH results95 O ?_)))))))
    exact ⟨by rw [hz]; first | rw [jm (by omega)] | rw [kV hz0 (by omega) hQ], rF⟩
  ·(try simp only [Z] at h11)
   refine bJ (bJ (bJ (bJ (bJ (bJ (iL O O (iJ (qF (dB (aI (aI (bf (aX (bT O (fC O (dH results95 O ?_))))))))))))))))
   exact ⟨by rw [hz]; first | rw [jm (by omega)] | rw [kV hz0 (by omega) hQ], HM⟩
end
end Go.Proofs.YtpdeedplgmbopaaGreatDoor
end
