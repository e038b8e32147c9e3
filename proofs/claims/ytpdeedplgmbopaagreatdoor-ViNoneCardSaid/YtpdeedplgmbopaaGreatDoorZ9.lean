import Derived.Test.YtpdeedplgmbopaaGreatDoorZ4
import Derived.Test.YtpdeedplgmbopaaGreatDoorZ8
import Derived.Test.YtpdeedplgmbopaaGreatDoorZ5
import Derived.Test.YtpdeedplgmbopaaGreatDoorZ2
set_option linter.unusedSimpArgs false
set_option linter.unusedVariables false
/- Texts of mine, joined, their names in short: UGroups Ed EdTwin MapI RefTab VW VW2 VW3. -/
section
namespace Go.Proofs.YtpdeedplgmbopaaGreatDoor
open Go.RowKit
open _root_.Go.Proofs.Tryz
def AZ (c : Nat) (G : List (List iR)) (N : List iR) (k : Nat) : HP := rH fun (x : Value × List (Value × List dQ)) => fact (x.2.map (fun g => g.2.map dQ.says) = Kz N ++ G.reverse.take k) • dK c (.cells #[x.1] 226 (0, 0)) • Bq x.1 x.2
theorem rev_succ {G : List (List iR)} {k : Nat} (hk : k < G.length) : G.reverse.take (k + 1) = G.reverse.take k ++ [G.getD (G.length - (k + 1)) []] := by
  rw [List.take_succ_eq_append_getElem (by simpa using hk)]
  congr 1
  rw [List.getElem_reverse, List.getD_eq_getElem?_getD, List.getElem?_eq_getElem (by omega)]
  have e : G.length - 1 - k = G.length - (k + 1) := by omega
  simp only [Option.getD_some, e]
section
variable {w0 w : World} {F : HP} {p c k : Nat} {G : List (List iR)} {N : List iR} {op : Int} {v u : Value} {es fs : List dQ} {gs hs : List (Value × List dQ)}
theorem V.MN (H : V w0 w (AZ c G N k • F)) : ∃ u hs, hs.map (fun g => g.2.map dQ.says) = Kz N ++ G.reverse.take k ∧ hs.length ≤ G.length + 1 ∧ V w0 w (dK c (.cells #[u] 226 (0, 0)) • Row 80 1 u hs.length (hs.map (·.1)) • nJ hs • F) := by
  obtain ⟨⟨u, hs⟩, H⟩ := H.lJ
  obtain ⟨h, H⟩ := H.flat.fact
  refine ⟨u, hs, h, ?_, (H.flat.swap.XL).f3⟩
  have := congrArg List.length h
  have := Va N
  simp only [List.length_map, List.length_append, List.length_take, List.length_reverse] at *
  omega
theorem V.Gn (h : hs.map (fun g => g.2.map dQ.says) = Kz N ++ G.reverse.take k) (H : V w0 w (dK c (.cells #[u] 226 (0, 0)) • Bq u hs • F)) : V w0 w (AZ c G N k • F) :=
  V.iy (u, hs) (V.deep (V.jY h H.deep))
theorem SG (H : V w0 w F) (hv : v.oneCell' = true) : gI prog 175 #[v] w fun v' w' => ∃ b, v' = .func (.func 196) #[] #[.pointer (some ⟨b, 0, none⟩)] ∧ V w0 w' (dK b (.cells #[v] 226 (0, 0)) • F) := by
  refine gG func175 ntmps175 ?_
  refine iE (jr (iD (l := [_]) H O (by first | rfl | exact Af (by first | rfl | assumption))) ?_)
  rintro _ w1 ⟨b1, rfl, H1⟩
  refine gJ O (iE (aV (vN O O) (eY O (dG results175 O ?_))))
  exact ⟨_, O, H1⟩
theorem Pv (b : Nat) : Iter prog w0 (.func (.func 196) #[] #[.pointer (some ⟨b, 0, none⟩)]) (dK b (.cells #[v] 226 (0, 0)) • Row 80 1 v gs.length (gs.map (·.1)) • nJ gs) gs.length
  (fun k vs A => ∃ gl wI, gs.getD (gs.length - (k + 1)) default = (gl, wI) ∧ vs = [.int .i64 ((gs.length - (k + 1) : Nat) : Int), gl] ∧ A = AQ gl wI) := by
 intro l J X w hy H
 refine ⟨196, [], [.pointer (some ⟨b, 0, none⟩)], _, _, O, func196, O, O, ?_⟩
 have H1 : V w0 w (dK b (.cells #[v] 226 (0, 0)) • Row 80 1 v gs.length (gs.map (·.1)) • nJ gs • J 0) := H.of_eq (by ac_rfl)
 obtain ⟨a, c, hv, hc1, hc2, _⟩ := (H1.swap.aS).form
 subst hv
 simp only [List.nil_append, List.cons_append]
 refine TW func196 ntmps196 ?_
 dsimp only [vJ, Nat.reduceAdd]
 refine iE (fG bf O (H1).get.2 O (aV (jw ((H1.f2).aS) bf O) (aV (kX O O (by omega)) (gJ O (aY ?_)))))
 refine fF [(0, _), (1, _)] (fun (k : Nat) => [(3, .int .i64 ((k : Int) - 1))]) (fun (k : Nat) W => k ≤ gs.length ∧ V w0 W (dK b (.cells #[.slice a gs.length c] 226 (0, 0)) • Row 80 1 (.slice a gs.length c) gs.length (gs.map (·.1)) • nJ gs • J (gs.length - k))) (fun (k : Nat) => k) (gs.length) qB lI ⟨by omega, by rw [Nat.sub_self]; exact H1⟩ ?_
 rintro k w1 ⟨hk, HL⟩
 dsimp only [List.cons_append, List.nil_append]
 refine aP (bP O (aV (lK O O) (jh O (fun h1 => ?_) (fun h1 => ?_))))
 ·(try simp only [Z] at h1)
  refine fZ (aP (aY (aP ?_)))
  obtain ⟨m, rfl⟩ : ∃ m, k = m + 1 := ⟨k - 1, by omega⟩
  rw [show (((m + 1 : Nat) : Int) - 1) = (m : Int) from by omega]
  have hkl : m < gs.length := by omega
  refine aC (jJ O O (fG bf O (HL).get.2 O (bQ O ?_)))
  obtain ⟨bv, ov, cv, ev⟩ := Rd.pW ((HL.f2).aS) (by omega)
  cases ev
  refine aV (dI bf bH O O (by omega)) ?_
  refine aV (fA (dn aU O) O (by first | exact Rd.lW ((HL.f2).aS) (by omega) | exact Rd.wK ((HL.f2).aS) (by omega) | exact Rd.wH ((HL.f2).aS) (by omega))) ?_
  rw [show (gs.map (·.1)).getD m undef = (gs.getD m default).1 from by simp [List.getD_eq_getElem?_getD, hkl]]
  obtain ⟨gl, wI, hg⟩ : ∃ gl wI, gs.getD m default = (gl, wI) := ⟨_, _, rfl⟩
  rw [hg]
  have Ho2 := HL.f3
  have XY := Ho2.Fa hkl hg
  refine jr (Kw O O (hy (gs.length - (m + 1)) (by omega) _ _ ⟨gl, wI, by rw [show gs.length - (gs.length - (m + 1) + 1) = m from by omega]; exact hg, by rw [show gs.length - (gs.length - (m + 1) + 1) = m from by omega], O⟩ (nJ gs • Row 80 1 (.slice (some ⟨bv, ov, none⟩) gs.length c) gs.length (gs.map (·.1)) • dK b (.cells #[.slice (some ⟨bv, ov, none⟩) gs.length c] 226 (0, 0))) _ (XY.of_eq (by ac_rfl))).bool) ?_
  rintro _ w4 ⟨t, rfl, ht1, ht2⟩
  refine aV (lY O) (jh O (fun h2 => ?_) (fun h2 => ?_))
  ·(try simp only [Z] at h2)
   have HX := ht2 (by simpa using h2)
   refine mD (aT (aF (aF (aT (we0 results196 ?_)))))
   exact .inr (HX.of_eq (by ac_rfl))
  ·(try simp only [Z] at h2)
   have HN : V w0 w4 (dK b (.cells #[.slice (some ⟨bv, ov, none⟩) gs.length c] 226 (0, 0)) • Row 80 1 (.slice (some ⟨bv, ov, none⟩) gs.length c) gs.length (gs.map (·.1)) • nJ gs • J (gs.length - m)) := by
    have h9 := ht1 (by simpa using h2)
    rw [show gs.length - (m + 1) + 1 = gs.length - m from by omega] at h9
    exact h9.of_eq (by ac_rfl)
   refine bY (aJ (aX (aC (bQ O (aV (kX O O (by omega)) (fU O (bM ?_)))))))
   refine dL (m) ?_ ?_ ?_ ?_
   ·exact lI
   ·exact qB
   ·(try dsimp only)
    first | done | exact ⟨by omega, HN.f3.f3.f3⟩
   ·(try dsimp only); omega
 ·(try simp only [Z] at h1)
  refine dB (aI (aI (aZ (lg (.inr O) results196 ?_))))
  obtain rfl : k = 0 := by omega
  rw [Nat.sub_zero] at HL
  exact .inl (HL.of_eq (by ac_rfl))
theorem EP (H : V w0 w (iQ p G N op • F)) : gI prog 135 #[.pointer (some ⟨p, 0, none⟩)] w fun v w' => ∃ c, v = .func (.func 176) #[] #[.pointer (some ⟨c, 0, none⟩)] ∧ V w0 w' (AZ c G N G.length • iQ p G N op • F) := by
 refine gG func135 ntmps135 ?_
 refine jg O (iE (jr (fH (l := [_]) H zeroValue226 O) ?_))
 rintro _ w1 ⟨b1, rfl, H1⟩
 refine pJ (bP O (dS O func158 (mW H1.f2) ?_))
 rintro _ _ ⟨rfl, rfl⟩
 refine aV (lY O) ?_
 obtain ⟨Az, yK, nM, mP, kZ, uQ, rU, FZ, F5, Md, qC⟩ := (H1.f2).xZ
 have hLn : mP.length ≤ 16384 := by omega
 have hBn := MG rU kZ.2.2.2.2.2
 refine iJ (wcE O (fun h1 => ?_))
 (try simp only [Z] at h1)
 refine kM [(0, _), (3, _)] (fun (_ : Unit) => []) (fun (_ : Unit) W => V w0 W (AZ b1 G N 0 • dK p (.cells #[Az, yK, .int .i64 op, .int .i64 (iG G N : Nat), .bool true] 235 (0, 0)) • Row 80 1 Az nM.length (nM.map (·.1)) • nJ nM • Row 189 3 yK mP.length (mP.flatMap dQ.enc) • kE mP • F)) qB ?_ ?_
 ·rintro _ w4 HJ
  dsimp only [List.cons_append, List.nil_append]
  refine bP O (dJ O (bD 0 bn O cZ O (bD 0 bG O eH O (fG bf O (HJ.f2).get.2 O (dS O func175 (SG HJ (Rd.one ((HJ.f3).aS))) ?_)))))
  rintro _ w5 ⟨bB5, rfl, H5⟩
  refine iJ (aY ?_)
  obtain ⟨R6, hR6, HR6⟩ := V.aa5 (H5.f5.f5.f3.f4)
  refine yN O (Pv bB5) (fun k => AZ b1 G N k • R6) (fact False) (fun _ => fact False) (HR6.f4.f4.f4.f4.f4.f4.f4.g3.comm) (by rfl) ?_ ?_ ?_ ?_
  ·rintro l7 k ZV vs7 A7 ⟨gl, wI, hg, rfl, rfl⟩ G7 w7 H7
   try simp only [bW, nG, uK] at H7
   refine ⟨O, ?_⟩
   dsimp only [Ph]
   obtain ⟨u, hs, U7, hhl, HI⟩ := (H7.f2).MN
   have hge : wI.map dQ.says = G.getD (G.length - (k + 1)) [] := by
    rw [← FZ, ← uQ]
    have h9 : (nM.map (fun g => g.2.map dQ.says)).getD (nM.length - (k + 1)) [] = (nM.getD (nM.length - (k + 1)) default).2.map dQ.says := by simp [List.getD_eq_getElem?_getD, show nM.length - (k + 1) < nM.length by omega]
    rw [h9, hg]
   have hgm : G.getD (G.length - (k + 1)) [] ∈ G := vC (by omega)
   have hBg := MG hge (kZ.2.2.2.2.1 _ hgm)
   have hLg : wI.length ≤ 16384 := by
    have h8 := kZ.2.1
    unfold iG at h8
    have h7 := congrArg List.length hge
    rw [List.length_map] at h7
    have h6 := Fb hgm
    omega
   refine aC (fU O (bM ?_))
   refine Pg (HI.g5) ?_
   intro G8 w8 H8
   try simp only [bW] at H8
   refine aY ?_
   have abM := H8.drew
   have Vj := V.kp (abM.f4.f4.f4.f4)
   refine yC [0] Vj O (jS 0 O Vj (fun W hW => jX bf O ((Kp.h hW)).get.2 O) (jG 1 O Vj O (og 2 O (yF O func173 (xA abM.f4 hBg hLg)) ?_)))
   rintro u9 w9 ⟨fs9, ac7, H9⟩
   obtain ⟨es2, rfl⟩ : ∃ q, q = fs9 := ⟨_, rfl⟩
   have hes2 := ac7
   have O8 := V.kp (H9.f6.f6.f6.f6.f6.f6)
   refine dU O8 (fun W hW => (Kp.h hW).right.right.f4.f4.f4) ?_
   refine og 3 O (jQ (vs := [_]) H9 bf bH lq O O O (by decide) (aW (by first | rfl | exact Rd.one ((H9).aS)) bF)) ?_
   rintro l10 w10 pV
   have U0 := V.kp (pV.f7.f7.f7.f7.f7.f7.f7)
   refine dU U0 (fun W hW => (Kp.h hW).right.f6.f6.f6.f6.f6.f6) ?_
   refine og 4 O (fQ pV.f6 bf Es O O O ((pV).aS) (aW (by first | rfl | exact Rd.one ((pV.f2).aS)) bF) (by omega) (by omega)) ?_
   rintro l11 DU qo
   have Iq := qo.f2.right
   have F8 := V.kp (Iq.f6.f6.f6.f6.f6.f6)
   refine gW F8 (by kernel_rfl) ?_
   refine fM 5 O (by kernel_rfl) (eX 0 (l' := [_]) Iq.f5 eH O O (by first | rfl | exact Rd.one ((Iq).aS)) O O) ?_
   rintro _ Oz uS
   have uG := V.kp (uS.f6.f6.f6.f6.f6.f6)
   refine gW uG (by kernel_rfl) ?_
   refine qR (aJ ?_)
   refine F9 ?_
   have X := V.oN (es := es2) (uS.f5.right.f5.f3.f5.f5).deep
   exact (V.Gn (hs := hs ++ [(u9, es2)]) (by rw [List.map_append, U7, rev_succ (by omega), ← hge, ← hes2, List.append_assoc]; rfl) (V.qJ X.swap).swap).deep
  ·rintro D14 RV Ag
   have U1 := Ag.ed
   try simp only [bW, nG, uK] at U1
   have ZW := U1.Qx
   subst hR6
   refine aJ (aX (iE (aV (vN O O) (eY O ?_))))
   refine EW (.inl O) (ZW) (fun Sr yM => ?_)
   refine ⟨_, Zz results135 O, ?_⟩
   have hgl : AZ b1 G N nM.length = AZ b1 G N G.length := by rw [FZ]
   rw [hgl] at yM
   have Px := yM.f7.f7.f5.f5.f7
   have Py := V.nK kZ uQ rU rfl Px
   exact ⟨_, O, Py.f2.right.f2⟩
  ·rintro D w H; exact absurd H.swap.fact.1 id
  ·rintro id D w H; exact absurd H.swap.fact.1 fun h => h
 ·skip
  refine bP O (dJ O (bD 0 bn O cZ O (bD 1 bG O bH O (fG aU O (qC).get.2 O (aV (jw ((qC.f4).aS) aU O) (aV (iV O O) (jh O (fun h2 => ?_) (fun h2 => ?_))))))))
  ·(try simp only [Z] at h2)
   have hN : Kz N = [N] := if_neg (by rintro rfl; exact absurd F5 (by simp only [List.length_nil]; omega))
   have Y9 := qC.drew
   have BG := V.kp (Y9.f6.f6.f6.f6.f6.f6)
   refine yC [0, 5] BG O (jS 0 O BG (fun W hW => jX bf O ((Kp.h hW).f6).get.2 O) (jG 1 O BG O (kD 2 O BG O (gV 3 O BG 0 bn O cZ O (gV 4 O BG 1 bG O bH O (jS 5 O BG (fun W hW => jX aU O ((Kp.h hW)).get.2 O) (og 6 O (yF O func173 (zL Y9.f5.f5 hBn hLn)) ?_)))))))
   rintro u19 w19 ⟨ac8, abN, DW⟩
   obtain ⟨es1, rfl⟩ : ∃ q, q = ac8 := ⟨_, rfl⟩
   have hes1 := abN
   have Vk := V.kp (DW.f8.f8.f8.f8.f8.f8.f8.f8)
   refine dU Vk (fun W hW => (Kp.h hW).right.right.f6.f3.f3.f6.f6.f6) ?_
   refine og 7 O (jQ (vs := [_]) DW bf bH lq O O O (by decide) (aW (by first | rfl | exact Rd.one ((DW).aS)) bF)) ?_
   rintro l20 w20 OU
   have CZ := V.kp (OU.f9.f9.f9.f9.f9.f9.f9.f9.f9)
   refine dU CZ (fun W hW => (Kp.h hW).right.f8.f8.f8.f8.f8.f8.f8.f8) ?_
   refine og 8 O (fQ (OU.iP none) bf Es O O O ((OU).aS) (aW (by first | rfl | exact Rd.one ((OU.f2).aS)) bF) (by omega) (by omega)) ?_
   rintro l21 w21 Ir
   have Vl := Ir.f2.right
   have MO := V.kp (Vl.f9.f9.f9.f9.f9.f9.f9.f9.f9)
   refine gW MO (by kernel_rfl) ?_
   refine fM 9 O (by kernel_rfl) (eX 0 (l' := [_]) Vl.f9 eH O O (by first | rfl | exact Rd.one ((Vl).aS)) O O) ?_
   rintro _ w23 Iu
   have Jt := V.kp (Iu.f9.f9.f9.f9.f9.f9.f9.f9.f9)
   refine gW Jt (by kernel_rfl) ?_
   have X := V.oN (es := es1) (Iu.f6.f6.f9.f9.f9.f6.f7.f9.f9).deep
   have hJn : V w0 w23 (AZ b1 G N 0 • dK p (.cells #[Az, yK, .int .i64 op, .int .i64 (iG G N : Nat), .bool true] 235 (0, 0)) • Row 80 1 Az nM.length (nM.map (·.1)) • nJ nM • Row 189 3 yK mP.length (mP.flatMap dQ.enc) • kE mP • F) :=
    V.Gn (hs := [(u19, es1)]) (by rw [hN, ← rU, ← hes1]; rfl) (V.qJ (gs := []) X.FX.f3.f3.f2).swap
   refine qR ?_
   refine dh (()) ?_ ?_ ?_
   ·exact (Sub.nil _)
   ·exact qB
   ·(try dsimp only)
    first | done | exact hJn
  ·(try simp only [Z] at h2)
   have hN : Kz N = [] := if_pos (by rw [← rU, List.eq_nil_of_length_eq_zero (show mP.length = 0 by omega)]; rfl)
   have hJn : V w0 w1 (AZ b1 G N 0 • dK p (.cells #[Az, yK, .int .i64 op, .int .i64 (iG G N : Nat), .bool true] 235 (0, 0)) • Row 80 1 Az nM.length (nM.map (·.1)) • nJ nM • Row 189 3 yK mP.length (mP.flatMap dQ.enc) • kE mP • F) :=
    V.Gn (hs := []) (by rw [hN]; rfl) ((qC.f5.f5.f5.f5.f5.f6).FY none).swap
   refine bY ?_
   refine dh (()) ?_ ?_ ?_
   ·exact (Sub.nil _)
   ·exact qB
   ·(try dsimp only)
    first | done | exact hJn
theorem MQ (c : Nat) (hB : ∀ g ∈ Bz G N, ∀ e ∈ g, EB e) (hL : ∀ g ∈ Bz G N, g.length ≤ 16384) : Iter prog w0 (.func (.func 176) #[] #[.pointer (some ⟨c, 0, none⟩)]) (AZ c G N G.length) (Bz G N).length
  (fun k vs A => ∃ u, ∃ fs : List dQ, fs.map dQ.says = (Bz G N).getD k [] ∧ vs = [u] ∧ A = Jp u fs) := by
 intro l J X w hy H
 refine ⟨176, [], [.pointer (some ⟨c, 0, none⟩)], _, _, O, func176, O, O, ?_⟩
 obtain ⟨v, hs, U7, hhl, H1⟩ := H.comm.MN
 have abO := U7
 rw [List.take_of_length_le (by simp), ← XQ] at U7
 have hlen : hs.length = (Bz G N).length := by have := congrArg List.length U7; simpa using this
 obtain ⟨a, d, hv, hc1, hc2, _⟩ := (H1.swap.aS).form
 subst hv
 simp only [List.nil_append, List.cons_append]
 refine TW func176 ntmps176 ?_
 dsimp only [vJ, Nat.reduceAdd]
 refine iE (fG bf O (H1).get.2 O (aV (jw ((H1.f2).aS) bf O) (bQ O (iJ (aY ?_)))))
 refine fF [(0, _), (5, _), (6, _)] (fun (k : Nat) => [(7, .int .i64 (k : Int))]) (fun (k : Nat) W => k ≤ hs.length ∧ V w0 W (dK c (.cells #[.slice a hs.length d] 226 (0, 0)) • Row 80 1 (.slice a hs.length d) hs.length (hs.map (·.1)) • nJ hs • J k)) (fun (k : Nat) => hs.length - k) (0) uM lI ⟨by omega, H1⟩ ?_
 rintro k w1 ⟨hk, HL⟩
 dsimp only [List.cons_append, List.nil_append]
 refine iE (aV (iL O O) (pJ (bJ O (fun h1 => ?_) (fun h1 => ?_))))
 ·(try simp only [Z] at h1)
  refine fZ (aP (aY (iE ?_)))
  obtain ⟨bv, ov, cv, ev⟩ := Rd.pW ((HL.f2).aS) (by omega)
  cases ev
  refine aV (dI bf bH O O (by omega)) ?_
  refine aV (fA (dn aU O) O (by first | exact Rd.lW ((HL.f2).aS) (by omega) | exact Rd.wK ((HL.f2).aS) (by omega) | exact Rd.wH ((HL.f2).aS) (by omega))) ?_
  have hkl : k < hs.length := by omega
  rw [show (hs.map (·.1)).getD k undef = (hs.getD k default).1 from by simp [List.getD_eq_getElem?_getD, hkl]]
  obtain ⟨gl, wI, hg⟩ : ∃ gl wI, hs.getD k default = (gl, wI) := ⟨_, _, rfl⟩
  rw [hg]
  have Ho2 := HL.f3
  have XY := Ho2.Fa hkl hg
  have hge : wI.map dQ.says = (Bz G N).getD k [] := by
   rw [← U7]
   have h9 : (hs.map (fun g => g.2.map dQ.says)).getD k [] = (hs.getD k default).2.map dQ.says := by simp [List.getD_eq_getElem?_getD, hkl]
   rw [h9, hg]
  have hgm : (Bz G N).getD k [] ∈ Bz G N := vC (by omega)
  have hBg := MG hge (hB _ hgm)
  have hLg : wI.length ≤ 16384 := by
   have h7 := congrArg List.length hge
   rw [List.length_map] at h7
   have := hL _ hgm
   omega
  refine gJ O (bP O (bQ O (dS O func173 (xA XY hBg hLg) ?_)))
  rintro u4 w4 ⟨fs4, ac9, H4⟩
  obtain ⟨es2, rfl⟩ : ∃ q, q = fs4 := ⟨_, rfl⟩
  have hes2 := ac9
  have Hd5 := H4.f3.right
  refine jr (Kw O O (hy k (by omega) _ _ ⟨_, es2, hes2.trans hge, O, O⟩ (nJ hs • Row 80 1 (.slice (some ⟨bv, ov, none⟩) hs.length d) hs.length (hs.map (·.1)) • dK c (.cells #[.slice (some ⟨bv, ov, none⟩) hs.length d] 226 (0, 0))) _ (Hd5.of_eq (by unfold Jp; ac_rfl))).bool) ?_
  rintro _ w6 ⟨t, rfl, ht1, ht2⟩
  refine aV (lY O) (jh O (fun h2 => ?_) (fun h2 => ?_))
  ·(try simp only [Z] at h2)
   have HX := ht2 (by simpa using h2)
   refine mD (aT (aF (aF (aT (we0 results176 ?_)))))
   exact .inr (V.comm (V.Gn (u := .slice (some ⟨bv, ov, none⟩) hs.length d) abO (HX.of_eq (by unfold Bq; ac_rfl))))
  ·(try simp only [Z] at h2)
   have HN : V w0 w6 (dK c (.cells #[.slice (some ⟨bv, ov, none⟩) hs.length d] 226 (0, 0)) • Row 80 1 (.slice (some ⟨bv, ov, none⟩) hs.length d) hs.length (hs.map (·.1)) • nJ hs • J (k + 1)) := by
    have h9 := ht1 (by simpa using h2)
    exact h9.of_eq (by ac_rfl)
   refine bY (aJ (aX (aC (aV (gy O O (by omega)) (bQ O (bM ?_))))))
   refine dL (k + 1) ?_ ?_ ?_ ?_
   ·exact lI
   ·exact uM
   ·(try dsimp only)
    first | done | exact ⟨by omega, HN.f3.f3.f3⟩
   ·(try dsimp only); omega
 ·(try simp only [Z] at h1)
  refine dB (aI (aI (aZ (lg (.inr O) results176 ?_))))
  obtain rfl : k = hs.length := by omega
  rw [← hlen]
  exact .inl (V.comm (V.Gn (u := .slice a hs.length d) abO (HL.of_eq (by unfold Bq; ac_rfl))))
end
end Go.Proofs.YtpdeedplgmbopaaGreatDoor
end
section
namespace Go.Proofs.YtpdeedplgmbopaaGreatDoor
open Go.RowKit
def Ew (P : Int → Nat) (U : Int → List (List iR)) : List Int → HP
  | [] => emp
  | k :: D => iQ (P k) (U k) [] 0 • Ew P U D
def MR (D : List Int) (P : Int → Nat) : Int → Option Value := fun k => if k ∈ D then some (.pointer (some ⟨P k, 0, none⟩)) else none
theorem qM {P : Int → Nat} {U : Int → List (List iR)} {k : Int} : ∀ {D : List Int}, k ∈ D → Ew P U D = (iQ (P k) (U k) [] 0 • Ew P U (D.erase k))
  | x :: D, h => by
    by_cases e : x = k
    · subst e; rw [List.erase_cons_head]; rfl
    · rw [List.erase_cons_tail (by simpa using e)]
      have hk : k ∈ D := (List.mem_cons.1 h).resolve_left (Ne.symm e)
      show (iQ (P x) (U x) [] 0 • Ew P U D) = _
      rw [qM hk]
      show (iQ (P x) (U x) [] 0 • iQ (P k) (U k) [] 0 • Ew P U (D.erase k)) = (iQ (P k) (U k) [] 0 • (iQ (P x) (U x) [] 0 • Ew P U (D.erase k)))
      ac_rfl
theorem Ai {P P' : Int → Nat} {U U' : Int → List (List iR)} : ∀ {D : List Int}, (∀ k ∈ D, P k = P' k ∧ U k = U' k) → Ew P U D = Ew P' U' D
  | [], _ => rfl
  | x :: D, h => by
    show (iQ (P x) (U x) [] 0 • Ew P U D) = (iQ (P' x) (U' x) [] 0 • Ew P' U' D)
    rw [(h x (by simp)).1, (h x (by simp)).2, Ai fun k hk => h k (List.mem_cons_of_mem _ hk)]
def wM (b : Nat) (U : Int → List (List iR)) : HP := rH fun (x : List Int × (Int → Nat)) => fact (x.1.Nodup ∧ ∀ k, k ∉ x.1 → U k = []) • fD qE b (MR x.1 x.2) • Ew x.2 U x.1
def MS (b : Nat) (U : Int → List (List iR)) (k : Int) (p : Nat) : HP := rH fun (x : List Int × (Int → Nat)) => fact (x.1.Nodup ∧ (∀ k, k ∉ x.1 → U k = []) ∧ k ∈ x.1 ∧ x.2 k = p) • fD qE b (MR x.1 x.2) • Ew x.2 U (x.1.erase k)
section
variable {w0 w : World} {F : HP} {b p : Nat} {k : Int} {U : Int → List (List iR)} {G : List (List iR)}
theorem V.XZ (H : V w0 w (wM b U • F)) : ∃ D P, (D : List Int).Nodup ∧ (∀ k, k ∉ D → U k = []) ∧ V w0 w (fD qE b (MR D P) • Ew P U D • F) := by
  obtain ⟨⟨D, P⟩, H⟩ := H.lJ
  obtain ⟨⟨h1, h2⟩, H⟩ := H.flat.fact
  exact ⟨D, P, h1, h2, H.flat⟩
theorem V.Aj {D : List Int} {P : Int → Nat} (h1 : D.Nodup) (h2 : ∀ k, k ∉ D → U k = []) (H : V w0 w (fD qE b (MR D P) • Ew P U D • F)) : V w0 w (wM b U • F) :=
  V.iy (D, P) (V.deep (V.jY ⟨h1, h2⟩ H.deep))
theorem V.Za {D : List Int} {P : Int → Nat} (h1 : D.Nodup) (h2 : ∀ k, k ∉ D → U k = []) (hk : k ∈ D) (H : V w0 w (fD qE b (MR D P) • Ew P U D • F)) : V w0 w (iQ (P k) (U k) [] 0 • MS b U k (P k) • F) := by
  have H1 : V w0 w ((fD qE b (MR D P) • Ew P U (D.erase k)) • iQ (P k) (U k) [] 0 • F) := H.of_eq (by rw [qM hk]; ac_rfl)
  have H2 : V w0 w (MS b U k (P k) • iQ (P k) (U k) [] 0 • F) := V.iy (D, P) (V.deep (V.jY ⟨h1, h2, hk, rfl⟩ H1))
  exact H2.swap
theorem V.DX (H : V w0 w (MS b U k p • iQ p G [] 0 • F)) : V w0 w (wM b (wL U k G) • F) := by
  obtain ⟨⟨D, P⟩, H⟩ := H.lJ
  obtain ⟨⟨h1, h2, hk, hp⟩, H⟩ := H.flat.fact
  dsimp only at h1 h2 hk hp H
  subst hp
  refine V.Aj (D := D) (P := P) h1 (fun x hx => ?_) ?_
  · rw [tq _ _ (by rintro rfl; exact hx hk)]; exact h2 x hx
  · rw [qM (U := wL U k G) hk, nN, Ai (P' := P) (U' := U) fun x hx => ⟨rfl, tq _ _ (by rintro rfl; exact (List.Nodup.not_mem_erase h1) hx)⟩]
    exact H.of_eq (by ac_rfl)
end
def rF (t : Int → Option ByteArray) : Int → Option Value := fun k => (t k).map .string
def Pz (pb pr pw pt pm : Nat) (c : lZ) : HP := jc pb c.L c.pt c.mark • iF pr c.E c.at_ • dK pw (.cells #[.int .i64 c.place, .map (some pt)] 122 (0, 0)) • fD qE pt (rF c.tx) • wM pm c.un
def MV (pb pr pw pm : Nat) (c : lZ) : List Value := [.pointer (some ⟨pb, 0, none⟩), .pointer (some ⟨pr, 0, none⟩), .pointer (some ⟨pw, 0, none⟩), .map (some pm), .int .i64 c.mode, .bool c.over, .int .i64 c.last, .int .i64 c.fr, .int .i64 c.to, .int .i64 c.res, .bool c.run]
def uI (inn : Bool) (c : lZ) (u : List Value) : HP := if inn = true then rH fun (x : Nat × Nat × Nat × Nat × Nat) => fact (u = MV x.1 x.2.1 x.2.2.1 x.2.2.2.2 c) • Pz x.1 x.2.1 x.2.2.1 x.2.2.2.1 x.2.2.2.2 c else (fact ((u.all fun x => x.oneCell') = true))
def PD (hl : List pz) (c : lZ) : Prop := 0 ≤ c.place ∧ c.place ≤ hl.length ∧ (∀ k t, c.tx k = some t → t.size ≤ 16384)
def xC (e : iR) : Prop := 0 ≤ e.1 ∧ 0 < e.2.1.length + e.2.2.length ∧ e.2.1.length ≤ 1024 ∧ e.2.2.length ≤ 1024
def lM (s : dF) : Prop := PD s.hl s.c ∧ (s.inn = true → PD s.hl s.was ∧ iG (s.was.un s.was.place) [] ≤ 16384 ∧ ∀ k, ∀ g ∈ s.was.un k, ∀ e ∈ g, xC e) ∧ (-1 ≤ s.arg ∧ s.arg ≤ 1000000) ∧ (∀ e ∈ s.put, xC e) ∧ iG s.here s.put ≤ 16384 ∧ (∀ k, ∀ g ∈ s.c.un k, ∀ e ∈ g, xC e)
structure EdP where
  pb : Nat
  pr : Nat
  pw : Nat
  pt : Nat
  pm : Nat
  ph : Nat
  bl : Nat
  pv : Value
  es : List dQ
  u0 : Value
  u1 : Value
  u2 : Value
  u3 : Value
  u4 : Value
  u5 : Value
  u6 : Value
  u7 : Value
  u8 : Value
  u9 : Value
  ua : Value
def EdG (e : Nat) (s : dF) (M : Nat → HP) : HP := rH fun (x : EdP) => fact (lM s ∧ x.es.map dQ.says = s.put) •
  dK e (.cells (.pointer (some ⟨x.pb, 0, none⟩) :: .pointer (some ⟨x.pr, 0, none⟩) :: .pointer (some ⟨x.pw, 0, none⟩) :: .map (some x.pm) :: .int .i64 s.c.mode :: .bool s.c.over :: .int .i64 s.c.last :: .int .i64 s.c.fr :: .int .i64 s.c.to :: .int .i64 s.c.res :: .bool s.c.run :: .pointer (some ⟨x.ph, 0, none⟩) :: .pointer (some ⟨x.bl, 0, none⟩) :: .bool s.given :: .bool s.minus :: .int .i64 s.arg :: .bool s.inn :: x.u0 :: x.u1 :: x.u2 :: x.u3 :: x.u4 :: x.u5 :: x.u6 :: x.u7 :: x.u8 :: x.u9 :: x.ua :: .int .i64 s.cls :: .bool s.killed :: .bool s.lu :: .bool s.argues :: .bool s.whole :: x.pv :: []).toArray 82 (0, 0)) •
  jc x.pb s.c.L s.c.pt s.c.mark • iF x.pr s.c.E s.c.at_ • dK x.pw (.cells #[.int .i64 s.c.place, .map (some x.pt)] 122 (0, 0)) • fD qE x.pt (rF s.c.tx) • M x.pm •
  gQ x.ph s.hl s.base s.most • dK x.bl (.cells #[.int .i64 s.qL] 161 (0, 0)) • Row 189 3 x.pv s.put.length (x.es.flatMap dQ.enc) • kE x.es • uI s.inn s.was [x.u0, x.u1, x.u2, x.u3, x.u4, x.u5, x.u6, x.u7, x.u8, x.u9, x.ua]
def gB (e : Nat) (s : dF) : HP := EdG e s fun pm => wM pm s.c.un
def ada (e : Nat) (s : dF) (p : Nat) : HP := EdG e s fun pm => MS pm s.c.un s.c.place p
section
variable {w0 w : World} {F : HP} {e : Nat} {s : dF} {M : Nat → HP}
theorem V.edG (H : V w0 w (EdG e s M • F)) : ∃ pb pr pw pt pm ph bl pv es u0 u1 u2 u3 u4 u5 u6 u7 u8 u9 ua, lM s ∧ es.map dQ.says = s.put ∧ es.length = s.put.length ∧ V w0 w (
  dK e (.cells (.pointer (some ⟨pb, 0, none⟩) :: .pointer (some ⟨pr, 0, none⟩) :: .pointer (some ⟨pw, 0, none⟩) :: .map (some pm) :: .int .i64 s.c.mode :: .bool s.c.over :: .int .i64 s.c.last :: .int .i64 s.c.fr :: .int .i64 s.c.to :: .int .i64 s.c.res :: .bool s.c.run :: .pointer (some ⟨ph, 0, none⟩) :: .pointer (some ⟨bl, 0, none⟩) :: .bool s.given :: .bool s.minus :: .int .i64 s.arg :: .bool s.inn :: u0 :: u1 :: u2 :: u3 :: u4 :: u5 :: u6 :: u7 :: u8 :: u9 :: ua :: .int .i64 s.cls :: .bool s.killed :: .bool s.lu :: .bool s.argues :: .bool s.whole :: pv :: []).toArray 82 (0, 0)) •
  jc pb s.c.L s.c.pt s.c.mark • iF pr s.c.E s.c.at_ • dK pw (.cells #[.int .i64 s.c.place, .map (some pt)] 122 (0, 0)) • fD qE pt (rF s.c.tx) • M pm •
  gQ ph s.hl s.base s.most • dK bl (.cells #[.int .i64 s.qL] 161 (0, 0)) • Row 189 3 pv s.put.length (es.flatMap dQ.enc) • kE es • uI s.inn s.was [u0, u1, u2, u3, u4, u5, u6, u7, u8, u9, ua] • F) := by
  obtain ⟨⟨pb, pr, pw, pt, pm, ph, bl, pv, es, u0, u1, u2, u3, u4, u5, u6, u7, u8, u9, ua⟩, H⟩ := H.lJ
  obtain ⟨⟨h1, h2⟩, H⟩ := H.flat.fact
  refine ⟨pb, pr, pw, pt, pm, ph, bl, pv, es, u0, u1, u2, u3, u4, u5, u6, u7, u8, u9, ua, h1, h2, ?_, ?_⟩
  · rw [← h2]; simp
  · dsimp only at H
    exact H.of_eq (by simp only [bW])
theorem V.aac {pb pr pw pt pm ph bl : Nat} {pv : Value} {es : List dQ} {u0 u1 u2 u3 u4 u5 u6 u7 u8 u9 ua : Value} (h1 : lM s) (h2 : es.map dQ.says = s.put) (H : V w0 w (
  dK e (.cells (.pointer (some ⟨pb, 0, none⟩) :: .pointer (some ⟨pr, 0, none⟩) :: .pointer (some ⟨pw, 0, none⟩) :: .map (some pm) :: .int .i64 s.c.mode :: .bool s.c.over :: .int .i64 s.c.last :: .int .i64 s.c.fr :: .int .i64 s.c.to :: .int .i64 s.c.res :: .bool s.c.run :: .pointer (some ⟨ph, 0, none⟩) :: .pointer (some ⟨bl, 0, none⟩) :: .bool s.given :: .bool s.minus :: .int .i64 s.arg :: .bool s.inn :: u0 :: u1 :: u2 :: u3 :: u4 :: u5 :: u6 :: u7 :: u8 :: u9 :: ua :: .int .i64 s.cls :: .bool s.killed :: .bool s.lu :: .bool s.argues :: .bool s.whole :: pv :: []).toArray 82 (0, 0)) •
  jc pb s.c.L s.c.pt s.c.mark • iF pr s.c.E s.c.at_ • dK pw (.cells #[.int .i64 s.c.place, .map (some pt)] 122 (0, 0)) • fD qE pt (rF s.c.tx) • M pm •
  gQ ph s.hl s.base s.most • dK bl (.cells #[.int .i64 s.qL] 161 (0, 0)) • Row 189 3 pv s.put.length (es.flatMap dQ.enc) • kE es • uI s.inn s.was [u0, u1, u2, u3, u4, u5, u6, u7, u8, u9, ua] • F)) : V w0 w (EdG e s M • F) :=
  V.iy ⟨pb, pr, pw, pt, pm, ph, bl, pv, es, u0, u1, u2, u3, u4, u5, u6, u7, u8, u9, ua⟩ (V.deep (V.jY ⟨h1, h2⟩ (H.of_eq (by simp only [bW]))))
theorem V.iH {pb pr pw pt pm ph bl : Nat} {pv : Value} {es : List dQ} {u0 u1 u2 u3 u4 u5 u6 u7 u8 u9 ua : Value} (h1 : lM s) (h2 : es.map dQ.says = s.put) (H : V w0 w (
  dK e (.cells (.pointer (some ⟨pb, 0, none⟩) :: .pointer (some ⟨pr, 0, none⟩) :: .pointer (some ⟨pw, 0, none⟩) :: .map (some pm) :: .int .i64 s.c.mode :: .bool s.c.over :: .int .i64 s.c.last :: .int .i64 s.c.fr :: .int .i64 s.c.to :: .int .i64 s.c.res :: .bool s.c.run :: .pointer (some ⟨ph, 0, none⟩) :: .pointer (some ⟨bl, 0, none⟩) :: .bool s.given :: .bool s.minus :: .int .i64 s.arg :: .bool s.inn :: u0 :: u1 :: u2 :: u3 :: u4 :: u5 :: u6 :: u7 :: u8 :: u9 :: ua :: .int .i64 s.cls :: .bool s.killed :: .bool s.lu :: .bool s.argues :: .bool s.whole :: pv :: []).toArray 82 (0, 0)) •
  jc pb s.c.L s.c.pt s.c.mark • iF pr s.c.E s.c.at_ • dK pw (.cells #[.int .i64 s.c.place, .map (some pt)] 122 (0, 0)) • fD qE pt (rF s.c.tx) • wM pm s.c.un •
  gQ ph s.hl s.base s.most • dK bl (.cells #[.int .i64 s.qL] 161 (0, 0)) • Row 189 3 pv s.put.length (es.flatMap dQ.enc) • kE es • uI s.inn s.was [u0, u1, u2, u3, u4, u5, u6, u7, u8, u9, ua] • F)) : V w0 w (gB e s • F) := V.aac (M := fun pm => wM pm s.c.un) h1 h2 H
theorem V.Gp (H : V w0 w (gB e s • F)) : ∃ pb pr pw pt pm ph bl pv es u0 u1 u2 u3 u4 u5 u6 u7 u8 u9 ua, lM s ∧ es.map dQ.says = s.put ∧ es.length = s.put.length ∧ V w0 w (
  dK e (.cells (.pointer (some ⟨pb, 0, none⟩) :: .pointer (some ⟨pr, 0, none⟩) :: .pointer (some ⟨pw, 0, none⟩) :: .map (some pm) :: .int .i64 s.c.mode :: .bool s.c.over :: .int .i64 s.c.last :: .int .i64 s.c.fr :: .int .i64 s.c.to :: .int .i64 s.c.res :: .bool s.c.run :: .pointer (some ⟨ph, 0, none⟩) :: .pointer (some ⟨bl, 0, none⟩) :: .bool s.given :: .bool s.minus :: .int .i64 s.arg :: .bool s.inn :: u0 :: u1 :: u2 :: u3 :: u4 :: u5 :: u6 :: u7 :: u8 :: u9 :: ua :: .int .i64 s.cls :: .bool s.killed :: .bool s.lu :: .bool s.argues :: .bool s.whole :: pv :: []).toArray 82 (0, 0)) •
  jc pb s.c.L s.c.pt s.c.mark • iF pr s.c.E s.c.at_ • dK pw (.cells #[.int .i64 s.c.place, .map (some pt)] 122 (0, 0)) • fD qE pt (rF s.c.tx) • wM pm s.c.un •
  gQ ph s.hl s.base s.most • dK bl (.cells #[.int .i64 s.qL] 161 (0, 0)) • Row 189 3 pv s.put.length (es.flatMap dQ.enc) • kE es • uI s.inn s.was [u0, u1, u2, u3, u4, u5, u6, u7, u8, u9, ua] • F) := H.edG
end
end Go.Proofs.YtpdeedplgmbopaaGreatDoor
end
section
namespace Go.Proofs.YtpdeedplgmbopaaGreatDoor
open Go.RowKit
open _root_.Go.Proofs.Tryz
def KH {β : Type} (f : Int → Option β) (S : List Int) : Int → Option β := fun k => if k ∈ S then f k else none
theorem MW {β : Type} (f : Int → Option β) : KH f [] = fun _ => none := by funext k; simp [KH]
theorem Ju {β : Type} {f : Int → Option β} {S : List Int} {a : Int} {u : β} (h : f a = some u) : KH f (S ++ [a]) = upd (KH f S) a u := by
  funext k
  unfold KH upd
  by_cases hk : k = a
  · subst hk; simp [h]
  · simp [hk]
theorem MX {β : Type} {f : Int → Option β} {S : List Int} (h : ∀ a u, f a = some u → a ∈ S) : KH f S = f := by
  funext k
  unfold KH
  split
  · rfl
  · rename_i hk
    cases hf : f k with
    | none => rfl
    | some u => exact absurd (h k u hf) hk
theorem QW (P : Int → Nat) : MR [] P = fun _ => none := by funext k; simp [MR]
theorem Vm {D : List Int} {P : Int → Nat} {a : Int} {u : Value} (h : MR D P a = some u) : a ∈ D ∧ u = .pointer (some ⟨P a, 0, none⟩) := by
  unfold MR at h
  split at h
  · rename_i hm; exact ⟨hm, by cases h; rfl⟩
  · cases h
theorem MZ {S : List Int} {P : Int → Nat} {a : Int} {q : Nat} (h : a ∉ S) : MR (S ++ [a]) (wL P a q) = upd (MR S P) a (.pointer (some ⟨q, 0, none⟩)) := by
  funext k
  unfold MR upd wL
  by_cases hk : k = a
  · subst hk; simp
  · simp [hk]
theorem Gq {P : Int → Nat} {U : Int → List (List iR)} {a : Int} : ∀ {S : List Int}, Ew P U (S ++ [a]) = (Ew P U S • iQ (P a) (U a) [] 0)
  | [] => by show (iQ (P a) (U a) [] 0 • emp) = (emp • iQ (P a) (U a) [] 0); rw [uK, nG]
  | x :: S => by
    show (iQ (P x) (U x) [] 0 • Ew P U (S ++ [a])) = ((iQ (P x) (U x) [] 0 • Ew P U S) • iQ (P a) (U a) [] 0)
    rw [Gq, bW]
theorem DY {α : Type} {o : Option α} (h : ¬ o.isSome = true) : o = none := by cases o <;> simp_all
theorem Gs {S : List Int} {a : Int} (h : S.Nodup) (ha : a ∉ S) : (S ++ [a]).Nodup := by
  rw [List.nodup_append]
  exact ⟨h, by simp, by intro x hx y hy; rw [List.mem_singleton.1 hy]; rintro rfl; exact ha hx⟩
section
variable {w0 w : World} {F : HP} {pb pr pw pt pm : Nat} {c : lZ}
theorem Na (H : V w0 w (jc pb c.L c.pt c.mark • iF pr c.E c.at_ • dK pw (.cells #[.int .i64 c.place, .map (some pt)] 122 (0, 0)) • fD qE pt (rF c.tx) • wM pm c.un • F)) :
  gI prog 80 #[.agg #[.pointer (some ⟨pb, 0, none⟩), .pointer (some ⟨pr, 0, none⟩), .pointer (some ⟨pw, 0, none⟩), .map (some pm), .int .i64 c.mode, .bool c.over, .int .i64 c.last, .int .i64 c.fr, .int .i64 c.to, .int .i64 c.res, .bool c.run]] w fun v w' =>
   ∃ qb qr qw qt qm, v = .agg #[.pointer (some ⟨qb, 0, none⟩), .pointer (some ⟨qr, 0, none⟩), .pointer (some ⟨qw, 0, none⟩), .map (some qm), .int .i64 c.mode, .bool c.over, .int .i64 c.last, .int .i64 c.fr, .int .i64 c.to, .int .i64 c.res, .bool c.run] ∧
    V w0 w' (jc qb c.L c.pt c.mark • iF qr c.E c.at_ • dK qw (.cells #[.int .i64 c.place, .map (some qt)] 122 (0, 0)) • fD qE qt (rF c.tx) • wM qm c.un •
     jc pb c.L c.pt c.mark • iF pr c.E c.at_ • dK pw (.cells #[.int .i64 c.place, .map (some pt)] 122 (0, 0)) • fD qE pt (rF c.tx) • wM pm c.un • F) := by
 refine gG func80 ntmps80 ?_
 refine iE (jr (iD (l := [_, _, _, _, _, _, _, _, _, _, _]) H O O) ?_)
 rintro _ w1 ⟨b1, rfl, H1⟩
 refine jr (fH (l := [_, _, _, _, _, _, _, _, _, _, _]) H1 lC O) ?_
 rintro _ w2 ⟨b2, rfl, H2⟩
 refine pJ ?_
 have UH := H2.drew
 have xY := V.kp (UH.f7.f7.f7.f7.f7.f7.f7)
 refine yC [1, 4] xY O (gV 0 O xY 0 aG O vF O (jS 1 O xY (fun W hW => jX pX O ((Kp.h hW).f2).get.2 O) (gV 3 O xY 1 aG O sizeOf73 O (jS 4 O xY (fun W hW => jX sS O ((Kp.h hW).f2).get.2 O) (og 2 O (yF O func129 (Io UH.f3)) ?_)))))
 rintro _ w3 ⟨q3, rfl, H3⟩
 have yJ := V.kp (H3.f8.f8.f8.f8.f8.f8.f8.f8)
 refine dU yJ (fun W hW => (Kp.h hW).right.f7.f7.f7.f7.f5.f7.f7) ?_
 refine gV 6 O yJ 0 aG O vF O (og 5 O (yF O func85 (zF H3.f5)) ?_)
 rintro _ w4 ⟨pc4, rfl, H4⟩
 have xu := V.kp (H4.f9.f9.f9.f9.f9.f9.f9.f9.f9)
 refine gW xu (by kernel_rfl) ?_
 refine fM 7 O (by kernel_rfl) (eX 0 (l' := [_, _, _, _, _, _, _, _, _, _, _]) H4.f6 vF O O (by first | rfl | assumption) O O) ?_
 rintro _ w5 H5
 have Bv := V.kp (H5.f9.f9.f9.f9.f9.f9.f9.f9.f9)
 refine gW Bv (by kernel_rfl) ?_
 refine gV 8 O Bv 1 aG O sizeOf73 O ?_
 refine fM 9 O (by kernel_rfl) (eX 1 (l' := [_, _, _, _, _, _, _, _, _, _, _]) H5 sizeOf73 O O (by first | rfl | assumption) O O) ?_
 rintro _ w6 H6
 have Iw := V.kp (H6.f9.f9.f9.f9.f9.f9.f9.f9.f9)
 refine gW Iw (by kernel_rfl) ?_
 refine qR (aX (iE (bD 2 aG O sizeOf74 O (fG ku O (H6).get.2 O (dJ O (bD 0 eP O aj O (fG aK O (H6.f7).get.2 O (jr (jH (vY .i64) H6) ?_))))))))
 rintro _ w7 ⟨b7, rfl, H7⟩
 refine aV (oZ (pl := #[(0, 1), (1, 1)]) (#[_, _]) eP mX (fun w => by kernel_rfl) O (O)) (jr (iD (l := [_, _]) H7 O O) ?_)
 rintro _ w8 ⟨b8, rfl, H8⟩
 refine vk O (iE (bD 2 aG O sizeOf74 O (fG ku O (H8.f3).get.2 O (dJ O (bD 1 eP O sizeOf120 O (fG underlying120 O (H8.f9).get.2 O (jr (zO H8.f10 underlying120 O) ?_)))))))
 rintro _ w9 ⟨it9, mi, rfl, H9⟩
 refine iJ (aY ?_)
 obtain ⟨R10, adb, ade⟩ := V.Fv (H9.f2.f3.f3)
 have HX0 := ade
 rw [← MW (rF c.tx)] at HX0
 refine fF [(1, _), (2, _), (3, _), (30, _)] (fun (⟨S, n⟩ : List Int × Nat) => []) (fun (⟨S, n⟩ : List Int × Nat) W => V w0 W (AY qE pt it9 (rF c.tx) S n • fD qE b7 (KH (rF c.tx) S) • dK b8 (.cells #[.int .i64 c.place, .map (some b7)] 122 (0, 0)) • R10)) (fun (⟨S, n⟩ : List Int × Nat) => n) (([], _)) J3 (Sub.nil _) HX0 ?_
 rintro ⟨S, n⟩ DU HL
 dsimp only [List.cons_append, List.nil_append]
 refine iE (jr (BF HL O) ?_)
 rintro _ w12 ⟨ox, Sx, mx, rfl, Zb, um⟩
 refine aV (Vh O) (pJ (bJ O (fun h1 => ?_) (fun h1 => ?_)))
 ·(try simp only [Z] at h1)
  obtain ⟨⟨a, u⟩, rfl⟩ := Option.isSome_iff_exists.1 h1
  obtain ⟨ha, hns, hlt, rfl⟩ := Zb
  refine fZ (aY (iE ?_))
  refine aV (KG (um) (by assumption) O) ?_
  refine rG O O (rG O O (fU O (gJ O (aC (nD O O (bD 1 eP O sizeOf120 O (fG underlying120 O (um.f3).get.2 O (jJ O O (aH (tu um.f2 underlying120 aK O O O) ?_)))))))))
  rintro _ Oz uS
  refine bM (aJ ?_)
  have hres := Ju (S := S) ha
  refine dL ((S ++ [a], mx)) ?_ ?_ ?_ ?_
  ·exact (Sub.nil _)
  ·exact J3
  ·(try dsimp only)
   first | done | exact (by rw [hres]; exact uS.f3.f2.f3)
  ·(try dsimp only); omega
 ·(try simp only [Z] at h1)
  obtain rfl := DY (o := ox) (by simp [h1])
  obtain ⟨rfl, rfl, hall⟩ := Zb
  refine dB (aI ?_)
  have HX := um.f3.f2.f3
  rw [MX hall] at HX
  have aad := HX.f2
  have aae := aad.DV
  subst adb
  refine aI (aZ (aX (bP O (bD 2 aG O sizeOf74 O (aH (eX 2 (l' := [_, _, _, _, _, _, _, _, _, _, _]) aae.f4 sizeOf74 O O (by first | rfl | assumption) O O) ?_)))))
  rintro _ w16 yH
  refine Xg (jr (jH (vY .i64) yH) ?_)
  rintro _ Zc ⟨b17, rfl, Ig⟩
  refine vk O (aP ?_)
  obtain ⟨D, P, hD1, hD2, HU⟩ := (Ig.f12).XZ
  refine aC (bD 3 aG O sizeOf75 O (fG kC O (HU.f4).get.2 O (jr (zO HU kC O) ?_)))
  rintro _ XF ⟨adf, mi, rfl, CG⟩
  refine iJ (aY ?_)
  obtain ⟨R19, adg, adh⟩ := V.Fv (CG.f3.f3.f3)
  have HX0 := adh
  rw [← QW P] at HX0
  refine fF [(1, _), (2, _), (6, _), (47, _)] (fun (⟨S, n, P2⟩ : List Int × Nat × (Int → Nat)) => []) (fun (⟨S, n, P2⟩ : List Int × Nat × (Int → Nat)) W => S.Nodup ∧ V w0 W (AY qE pm adf (MR D P) S n • Ew P c.un D • fD qE b17 (MR S P2) • Ew P2 c.un S • R19)) (fun (⟨S, n, P2⟩ : List Int × Nat × (Int → Nat)) => n) (([], _, P)) J3 (Sub.nil _) ⟨List.nodup_nil, (HX0).of_eq (by show _ = (_ • _ • _ • emp • _); rw [nG])⟩ ?_
  rintro ⟨S, n, P2⟩ w20 ⟨hS, HL⟩
  dsimp only [List.cons_append, List.nil_append]
  refine iE (jr (BF HL O) ?_)
  rintro _ w21 ⟨ox, Sx, mx, rfl, Zb, Ir⟩
  refine aV (Vh O) (pJ (bJ O (fun h2 => ?_) (fun h2 => ?_)))
  ·(try simp only [Z] at h2)
   obtain ⟨⟨a, u⟩, rfl⟩ := Option.isSome_iff_exists.1 h2
   obtain ⟨ha, hns, hlt, rfl⟩ := Zb
   obtain ⟨hmem, rfl⟩ := Vm ha
   have HF := Ir.f2
   rw [qM hmem] at HF
   have HF2 := HF.flat
   refine fZ (aY (iE ?_))
   refine aV (KG (HF2.f3) (by assumption) O) ?_
   refine rG O O (rG O O (fU O (gJ O (aC (jJ O O (bQ O (dS O func130 (Gi HF2) ?_)))))))
   rintro _ w22 ⟨q22, rfl, OV⟩
   refine aH (tu OV.f5 kC aK O O O) ?_
   rintro _ w23 Iu
   refine bM (aJ ?_)
   have HQ := Iu.f2.f6.f3.f5.f5.f6
   have hu1 : Ew (wL P2 a q22) c.un (S ++ [a]) = (Ew P2 c.un S • iQ q22 (c.un a) [] 0) := by
    rw [Gq, nN, Ai (P' := P2) (U' := c.un) fun x hx => ⟨tq _ _ (by rintro rfl; exact hns hx), rfl⟩]
   refine dL ((S ++ [a], mx, wL P2 a q22)) ?_ ?_ ?_ ?_
   ·exact (Sub.nil _)
   ·exact J3
   ·(try dsimp only)
    first | done | exact ⟨Gs hS hns, HQ.of_eq (by rw [qM hmem, hu1, MZ hns]; ac_rfl)⟩
   ·(try dsimp only); omega
  ·(try simp only [Z] at h2)
   obtain rfl := DY (o := ox) (by simp [h2])
   obtain ⟨rfl, rfl, hall⟩ := Zb
   refine dB (aI ?_)
   have adi := Ir
   have adj := adi.DV
   subst adg
   have adk := adj.f2.f2
   have adl := V.Aj hD1 hD2 adk
   have hnS : ∀ k, k ∉ Sx → c.un k = [] := fun k hk => hD2 k fun hkD => hk (hall k _ (if_pos hkD))
   have aaf := adl.f3.f3
   have SH := V.Aj hS hnS aaf
   refine aI (aZ (aX (bP O (bD 3 aG O sizeOf75 O (aH (eX 3 (l' := [_, _, _, _, _, _, _, _, _, _, _]) SH.f3 sizeOf75 O O (by first | rfl | assumption) O O) ?_)))))
   rintro _ w30 Vo
   refine Xg (aV (eU aG O aQ O O (Vo).get.2) (aH (bU 0 (l' := [_, _, _, _, _, _, _, _, _, _, _]) (us := [_, _, _, _, _, _, _, _, _, _, _]) Vo.f11 aQ O O O (ay (ay (ay (ay (ay (ay (ay (ay (ay (ay (ay bF))))))))))) O O) ?_))
   rintro _ w31 SI
   refine YW ?_
   refine pO (.inl O) (JX results80 O aG O (by rw [abP]; rfl) (SI).get.2) ?_
   exact ⟨_, _, _, _, _, O, SI.right.right.f2.f3.f10.f8.f10.f6.f7.f8.f9.f10⟩
end
end Go.Proofs.YtpdeedplgmbopaaGreatDoor
end
section
namespace Go.Proofs.YtpdeedplgmbopaaGreatDoor
open Go.RowKit
section
variable {P : Program} {L : List (Nat × Value)} {w0 w : World} {F : HP} {ty : TypeId} {α : Type} {K : Key α} {f : α → Option Value} {a : α} {b : Nat} {x y z : Operand}
theorem yj [DecidableEq α] {t kt et : TypeId} {v : Value} (H : V w0 w (fD K b f • F)) (ht : P.underlying t = some (.map kt et)) (hk : P.underlying kt = some K.d)
    (hx : ev L x = some (.map (some b))) (hy : ev L y = some (K.mk a)) (hz : ev L z = some v) : ug P L (.insert t x y z) ty w fun _ w' => V w0 w' (fD K b (upd f a v) • F) := tu (ty := ty) (y := y) (z := z) H ht hk hx hy hz
theorem SK {t t' kt et : TypeId} {a : Option Nat} (ht : P.underlying t = some (.map kt et)) (hx : ev L x = some (.map a)) (hy : ev L y = some (.map none)) : Val P L (.binOp .eql t x y t') ty w (.bool a.isNone) w := fun ρ hρ _ _ _ _ => by
  simp only [execOp, hρ _ _ hx, hρ _ _ hy]
  have h1 : (eqGuard .eql t x y (.map a) (.map none)).run P w = .ok () w := by unfold eqGuard; rfl
  have h2 : (Op.equal t (.map a) (.map none)).run P w = .ok a.isNone w := Ac fun d => by cases a <;> simp [Op.equalIn, run_underlying ht]
  have h3 : binOp .eql t (.map a) (.map none) = (do pure (.bool (← Op.equal t (.map a) (.map none)))) := by rfl
  simp only [Sem.run_bind, h1, Result.andThen, h3, h2]
  simp
end
def ends (T : List (Int × Int)) : List Int := T.flatMap fun x => [x.1, x.2]
section
variable {w0 w : World} {F : HP} {r : Int}
abbrev adn : List (Int × Int) := [(48, 57), (65, 90), (97, 122)]
abbrev aeS : List (Int × Int) := [(215, 215), (247, 247), (8192, 8303), (12288, 12351), (65280, 65295), (65533, 65533)]
end
def jV (P : Int → Bool) (l : List Int) (x : Int) : Int := x + (((l.drop x.toNat).takeWhile P).length : Nat)
def uw (P : Int → Bool) (l : List Int) (x : Int) : Int := x - (((l.take x.toNat).reverse.takeWhile P).length : Nat)
section
variable {P : Int → Bool} {l : List Int} {x : Int}
theorem jo (h : (l.length : Int) ≤ x) : jV P l x = x := by
  unfold jV
  rw [List.drop_of_length_le (by omega)]
  simp
theorem qc (h0 : 0 ≤ x) (h1 : x < l.length) (h : P (l.getD x.toNat 0) = true) : jV P l x = jV P l (x + 1) := by
  unfold jV
  rw [List.getD_eq_getElem?_getD, List.getElem?_eq_getElem (by omega), Option.getD_some] at h
  rw [List.drop_eq_getElem_cons (by omega), List.takeWhile_cons, if_pos h, show (x + 1).toNat = x.toNat + 1 from by omega, List.length_cons]
  omega
theorem kN (h0 : 0 ≤ x) (h1 : x < l.length) (h : ¬ P (l.getD x.toNat 0) = true) : jV P l x = x := by
  unfold jV
  rw [List.getD_eq_getElem?_getD, List.getElem?_eq_getElem (by omega), Option.getD_some] at h
  rw [List.drop_eq_getElem_cons (by omega), List.takeWhile_cons, if_neg h]
  simp
theorem qF (h0 : 0 ≤ x) (h1 : x ≤ l.length) : x ≤ jV P l x ∧ jV P l x ≤ l.length := by
  unfold jV
  have h2 := (List.takeWhile_sublist P (l := l.drop x.toNat)).length_le
  rw [List.length_drop] at h2
  omega
theorem tC (h : x ≤ 0) : uw P l x = x := by
  unfold uw
  rw [show x.toNat = 0 from by omega]
  simp
theorem Nb (h0 : 0 < x) (h1 : x ≤ l.length) : (l.take x.toNat).reverse = l.getD (x - 1).toNat 0 :: (l.take (x - 1).toNat).reverse := by
  rw [show x.toNat = (x - 1).toNat + 1 from by omega, List.take_succ_eq_append_getElem (by omega), List.reverse_append, List.getD_eq_getElem?_getD, List.getElem?_eq_getElem (by omega)]
  rfl
theorem Gt (h0 : 0 < x) (h1 : x ≤ l.length) (h : P (l.getD (x - 1).toNat 0) = true) : uw P l x = uw P l (x - 1) := by
  unfold uw
  rw [Nb h0 h1, List.takeWhile_cons, if_pos h, List.length_cons]
  omega
theorem wU (h0 : 0 < x) (h1 : x ≤ l.length) (h : ¬ P (l.getD (x - 1).toNat 0) = true) : uw P l x = x := by
  unfold uw
  rw [Nb h0 h1, List.takeWhile_cons, if_neg h]
  simp
theorem Gu (h0 : 0 ≤ x) (h1 : x ≤ l.length) : 0 ≤ uw P l x ∧ uw P l x ≤ x := by
  unfold uw
  have h2 := (List.takeWhile_sublist P (l := (l.take x.toNat).reverse)).length_le
  rw [List.length_reverse, List.length_take] at h2
  omega
end
end Go.Proofs.YtpdeedplgmbopaaGreatDoor
end
section
namespace Go.Proofs.YtpdeedplgmbopaaGreatDoor
open Go.RowKit
open _root_.Go.Proofs.Tryz
def eF (r : Int) : Int := if r = 32 ∨ r = 9 ∨ r = 10 then 0 else if r = 95 ∨ dM r = true then 1 else 2
def bZ (r : Int) (big : Bool) : Int := if big then min (eF r) 1 else eF r
def wV (l : List Int) (x : Int) (big : Bool) : Int :=
  jV (fun r => eF r == 0) l (if x < l.length then (if bZ (l.getD x.toNat 0) big = 0 then x else jV (fun r => bZ r big == bZ (l.getD x.toNat 0) big) l x) else x)
section
variable {w0 w : World} {F : HP} {r x : Int} {big : Bool} {l : List Int} {v : Value}
theorem nV (H : V w0 w F) (hT : yG w0) : gI prog 14 #[.int .i32 r] w fun v' w' => v' = .int .i64 (eF r) ∧ V w0 w' F := by
  refine gG func14 ntmps14 ?_
  refine jg O (aP (aY (bP O (aV (dV O O) (jP O (fun h1 => ?_) (fun h1 => ?_))))))
  · (try simp only [Z] at h1)
    refine bI (bI (jF O O (bQ O (bI (bI (jF O O (gJ O (EK (jC O (aT (aF (dG results14 O ?_))))))))))))
    exact ⟨by unfold eF; rw [if_pos (by omega)], H⟩
  · (try simp only [Z] at h1)
    refine bC (bQ O (bC (aV (dV O O) (iM O O (jP O (fun h2 => ?_) (fun h2 => ?_))))))
    · (try simp only [Z] at h2)
      refine bI (bI (jF O O (gJ O (EK (jC O (aT (aF (dG results14 O ?_))))))))
      exact ⟨by unfold eF; rw [if_pos (by omega)], H⟩
    · (try simp only [Z] at h2)
      refine bC (bQ O (bC (aV (dV O O) (iM O O (gJ O (bJ O (fun h3 => ?_) (fun h3 => ?_)))))))
      · (try simp only [Z] at h3)
        refine jC O (aT (aF (dG results14 O ?_)))
        exact ⟨by unfold eF; rw [if_pos (by omega)], H⟩
      · (try simp only [Z] at h3)
        refine bP O (aV (dV O O) (jP O (fun h4 => ?_) (fun h4 => ?_)))
        · (try simp only [Z] at h4)
          refine bI (bI (jF O O (gJ O (EK (jC O (aT (aF (dG results14 O ?_))))))))
          exact ⟨by unfold eF; rw [if_neg (by omega), if_pos (by first | (left; omega) | (right; assumption))], H⟩
        · (try simp only [Z] at h4)
          refine bC (bQ O (bC (dS O func47 (OT H hT) ?_)))
          rintro _ w1 ⟨rfl, H1⟩
          refine iM O O (gJ O (bJ O (fun h5 => ?_) (fun h5 => ?_)))
          · (try simp only [Z] at h5)
            refine jC O (aT (aF (dG results14 O ?_)))
            exact ⟨by unfold eF; rw [if_neg (by omega), if_pos (by first | (left; omega) | (right; assumption))], H1⟩
          · (try simp only [Z] at h5)
            refine bY (aJ (aX (jC O (dG results14 O ?_))))
            exact ⟨by unfold eF; rw [if_neg (by omega), if_neg (by intro c; rcases c with c | c; omega; simp_all)], H1⟩
theorem lF (H : V w0 w F) (hT : yG w0) : gI prog 142 #[.int .i32 r, .bool big] w fun v' w' => v' = .int .i64 (bZ r big) ∧ V w0 w' F := by
  refine oq func142 ntmps142 ?_
  refine jg O (aP (bP O (jh O (fun h1 => ?_) (fun h1 => ?_))))
  · (try simp only [Z] at h1)
    have hb : big = true := h1
    refine bP O (dS O func14 (nV H hT) ?_)
    rintro _ w1 ⟨rfl, H1⟩
    refine aV (Cc O O) (eY O (aF (dG results142 O ?_)))
    exact ⟨by unfold bZ; rw [if_pos hb], H1⟩
  · (try simp only [Z] at h1)
    have hb : big = false := h1
    refine fZ (bP O (dS O func14 (nV H hT) ?_))
    rintro _ w2 ⟨rfl, H2⟩
    refine eY O (dG results142 O ?_)
    exact ⟨by unfold bZ; rw [if_neg (by rw [hb]; decide)], H2⟩
end
section
variable {w0 w : World} {F : HP} {r x : Int} {big : Bool} {l : List Int} {v : Value}
theorem SL (H : V w0 w F) (hr : jZ w0 F .i32 v l) (hT : yG w0) (hx0 : 0 ≤ x) (hx1 : x ≤ l.length) : gI prog 95 #[v, .int .i64 x, .bool big] w fun v' w' => v' = .int .i64 (wV l x big) ∧ V w0 w' F := by
 have Xi : l.length ≤ 9223372036854775807 := by have := (hr _ H).open; obtain ⟨a, c, e, h3, h4, _⟩ := this; omega
 refine FM func95 ntmps95 ?_
 refine jg O (aP (bP O (bQ O (aV (jk (hr _ (H)) aB O) (aV (iL O O) (jh O (fun h1 => ?_) (fun h1 => ?_)))))))
 ·(try simp only [Z] at h1)
  refine bP O (bQ O ?_)
  obtain ⟨bv, ov, cv, ev⟩ := fP.pW (hr _ (H)) (by omega)
  cases ev
  refine aV (dI aB bT O O (by omega)) ?_
  refine aV (fA (dn bg O) O (by first | exact fP.lW (hr _ (H)) (by omega) | exact fP.wK (hr _ (H)) (by omega) | exact fP.wH (hr _ (H)) (by omega))) ?_
  refine bQ O (dS O func142 (lF H hT) ?_)
  rintro _ w1 ⟨rfl, H1⟩
  refine gJ O (bP O (aV (iO O O) (jh O (fun h2 => ?_) (fun h2 => ?_))))
  ·(try simp only [Z] at h2)
   have hk : ¬ bZ (l.getD x.toNat 0) big = 0 := h2
   refine aY ?_
   refine fF [(0, _), (2, _), (7, _)] (fun (y : Int) => [(1, .int .i64 y)]) (fun (y : Int) W => ((0 ≤ y ∧ y ≤ l.length) ∧ jV (fun r => bZ r big == bZ (l.getD x.toNat 0) big) l y = jV (fun r => bZ r big == bZ (l.getD x.toNat 0) big) l x) ∧ V w0 W F) (fun (y : Int) => (l.length - y).toNat) (x) uM lI ⟨⟨⟨hx0, hx1⟩, O⟩, H1⟩ ?_
   rintro y w2 ⟨⟨⟨hy0, hyl⟩, hy⟩, HL⟩
   dsimp only [List.cons_append, List.nil_append]
   refine aP (bP O (bQ O (aV (ny aB O) (aV (iL O O) (jP O (fun h3 => ?_) (fun h3 => ?_))))))
   ·(try simp only [Z] at h3)
    refine bC (bQ O (bC (bQ O (bC (aV (dI aB bT O O (by omega)) (bC ?_))))))
    refine aV (fA (dn bg O) O (by first | exact fP.lW (hr _ (HL)) (by omega) | exact fP.wK (hr _ (HL)) (by omega) | exact fP.wH (hr _ (HL)) (by omega))) ?_
    refine bC (bQ O (bC (dS O func142 (lF HL hT) ?_)))
    rintro _ w3 ⟨rfl, H3⟩
    refine bC (bQ O (bC (aV (dV O O) (jF O O (jh O (fun h4 => ?_) (fun h4 => ?_))))))
    ·(try simp only [Z] at h4)
     have hP : (bZ (l.getD y.toNat 0) big == bZ (l.getD x.toNat 0) big) = true := by rw [beq_iff_eq]; exact h4
     refine fZ (aY (aC (bQ O (aV (gy O O (by omega)) (fU O (bM (aJ ?_)))))))
     refine dL (y + 1) ?_ ?_ ?_ ?_
     ·exact lI
     ·exact uM
     ·(try dsimp only)
      first | done | exact ⟨⟨⟨by omega, by omega⟩, (qc hy0 (by omega) hP).symm.trans hy⟩, H3⟩
     ·(try dsimp only); omega
    ·(try simp only [Z] at h4)
     have hP : ¬ (bZ (l.getD y.toNat 0) big == bZ (l.getD x.toNat 0) big) = true := by rw [beq_iff_eq]; exact h4
     refine dB (aI (aI (aZ (aX (aP (aY ?_))))))
     try have e1 : jV (fun r => bZ r big == bZ (l.getD x.toNat 0) big) l x = y := hy.symm.trans (by first | exact jo (by omega) | exact kN hy0 (by omega) hP)
     refine fF [(0, _)] (fun (z : Int) => [(1, .int .i64 z)]) (fun (z : Int) W => ((0 ≤ z ∧ z ≤ l.length) ∧ wV l x big = jV (fun r => eF r == 0) l z) ∧ V w0 W F) (fun (z : Int) => (l.length - z).toNat) (_) lI lI ⟨⟨⟨by omega, by omega⟩, by unfold wV; first | (rw [if_neg (by omega)]; done) | (rw [if_pos (by omega), if_pos hk]; done) | (rw [if_pos (by omega), if_neg hk, e1]; done)⟩, H3⟩ ?_
     rintro z w4 ⟨⟨⟨hz0, hzl⟩, hz⟩, HM⟩
     dsimp only [List.cons_append, List.nil_append]
     refine aP (bP O (bQ O (aV (ny aB O) (aV (iL O O) (jP O (fun h5 => ?_) (fun h5 => ?_))))))
     ·(try simp only [Z] at h5)
      refine bC (bQ O (bC (bQ O (bC (aV (dI aB bT O O (by omega)) (bC ?_))))))
      refine aV (fA (dn bg O) O (by first | exact fP.lW (hr _ (HM)) (by omega) | exact fP.wK (hr _ (HM)) (by omega) | exact fP.wH (hr _ (HM)) (by omega))) ?_
      refine bC (dS O func14 (nV HM hT) ?_)
      rintro _ w5 ⟨rfl, H5⟩
      refine bC (aV (dV O O) (jF O O (jh O (fun h6 => ?_) (fun h6 => ?_))))
      ·(try simp only [Z] at h6)
       have hQ : (eF (l.getD z.toNat 0) == 0) = true := by rw [beq_iff_eq]; exact h6
       refine fZ (aY (aC (bQ O (aV (gy O O (by omega)) (fU O (bM (aJ ?_)))))))
       refine dL (z + 1) ?_ ?_ ?_ ?_
       ·exact lI
       ·exact lI
       ·(try dsimp only)
        first | done | exact ⟨⟨⟨by omega, by omega⟩, hz.trans (qc hz0 (by omega) hQ)⟩, H5⟩
       ·(try dsimp only); omega
      ·(try simp only [Z] at h6)
       have hQ : ¬ (eF (l.getD z.toNat 0) == 0) = true := by rw [beq_iff_eq]; exact h6
       refine dB (aI (aI (aZ (aX (bP O (eY O (dG results95 O ?_)))))))
       exact ⟨by rw [hz]; first | rw [jo (by omega)] | rw [kN hz0 (by omega) hQ], H5⟩
     ·(try simp only [Z] at h5)
      refine bI (bI (bI (bI (bI (bI (iM O O (iJ (qy (dB (aI (aI (aZ (aX (bP O (eY O (dG results95 O ?_))))))))))))))))
      exact ⟨by rw [hz]; first | rw [jo (by omega)] | rw [kN hz0 (by omega) hQ], HM⟩
   ·(try simp only [Z] at h3)
    refine bI (bI (bI (bI (bI (bI (bI (bI (iM O O (iJ (qy (dB (aI (aI (aZ (aX (aP (aY ?_)))))))))))))))))
    try have e1 : jV (fun r => bZ r big == bZ (l.getD x.toNat 0) big) l x = y := hy.symm.trans (by first | exact jo (by omega) | exact kN hy0 (by omega) hP)
    refine fF [(0, _)] (fun (z : Int) => [(1, .int .i64 z)]) (fun (z : Int) W => ((0 ≤ z ∧ z ≤ l.length) ∧ wV l x big = jV (fun r => eF r == 0) l z) ∧ V w0 W F) (fun (z : Int) => (l.length - z).toNat) (_) lI lI ⟨⟨⟨by omega, by omega⟩, by unfold wV; first | (rw [if_neg (by omega)]; done) | (rw [if_pos (by omega), if_pos hk]; done) | (rw [if_pos (by omega), if_neg hk, e1]; done)⟩, HL⟩ ?_
    rintro z w6 ⟨⟨⟨hz0, hzl⟩, hz⟩, HM⟩
    dsimp only [List.cons_append, List.nil_append]
    refine aP (bP O (bQ O (aV (ny aB O) (aV (iL O O) (jP O (fun h7 => ?_) (fun h7 => ?_))))))
    ·(try simp only [Z] at h7)
     refine bC (bQ O (bC (bQ O (bC (aV (dI aB bT O O (by omega)) (bC ?_))))))
     refine aV (fA (dn bg O) O (by first | exact fP.lW (hr _ (HM)) (by omega) | exact fP.wK (hr _ (HM)) (by omega) | exact fP.wH (hr _ (HM)) (by omega))) ?_
     refine bC (dS O func14 (nV HM hT) ?_)
     rintro _ w7 ⟨rfl, H7⟩
     refine bC (aV (dV O O) (jF O O (jh O (fun h8 => ?_) (fun h8 => ?_))))
     ·(try simp only [Z] at h8)
      have hQ : (eF (l.getD z.toNat 0) == 0) = true := by rw [beq_iff_eq]; exact h8
      refine fZ (aY (aC (bQ O (aV (gy O O (by omega)) (fU O (bM (aJ ?_)))))))
      refine dL (z + 1) ?_ ?_ ?_ ?_
      ·exact lI
      ·exact lI
      ·(try dsimp only)
       first | done | exact ⟨⟨⟨by omega, by omega⟩, hz.trans (qc hz0 (by omega) hQ)⟩, H7⟩
      ·(try dsimp only); omega
     ·(try simp only [Z] at h8)
      have hQ : ¬ (eF (l.getD z.toNat 0) == 0) = true := by rw [beq_iff_eq]; exact h8
      refine dB (aI (aI (aZ (aX (bP O (eY O (dG results95 O ?_)))))))
      exact ⟨by rw [hz]; first | rw [jo (by omega)] | rw [kN hz0 (by omega) hQ], H7⟩
    ·(try simp only [Z] at h7)
     refine bI (bI (bI (bI (bI (bI (iM O O (iJ (qy (dB (aI (aI (aZ (aX (bP O (eY O (dG results95 O ?_))))))))))))))))
     exact ⟨by rw [hz]; first | rw [jo (by omega)] | rw [kN hz0 (by omega) hQ], HM⟩
  ·(try simp only [Z] at h2)
   have hk : bZ (l.getD x.toNat 0) big = 0 := by have h9 := h2; omega
   refine fZ (aP (aY ?_))
   try have e1 : jV (fun r => bZ r big == bZ (l.getD x.toNat 0) big) l x = y := hy.symm.trans (by first | exact jo (by omega) | exact kN hy0 (by omega) hP)
   refine fF [(0, _)] (fun (z : Int) => [(1, .int .i64 z)]) (fun (z : Int) W => ((0 ≤ z ∧ z ≤ l.length) ∧ wV l x big = jV (fun r => eF r == 0) l z) ∧ V w0 W F) (fun (z : Int) => (l.length - z).toNat) (_) lI lI ⟨⟨⟨by omega, by omega⟩, by unfold wV; first | (rw [if_neg (by omega)]; done) | (rw [if_pos (by omega), if_pos hk]; done) | (rw [if_pos (by omega), if_neg hk, e1]; done)⟩, H1⟩ ?_
   rintro z w8 ⟨⟨⟨hz0, hzl⟩, hz⟩, HM⟩
   dsimp only [List.cons_append, List.nil_append]
   refine aP (bP O (bQ O (aV (ny aB O) (aV (iL O O) (jP O (fun h9 => ?_) (fun h9 => ?_))))))
   ·(try simp only [Z] at h9)
    refine bC (bQ O (bC (bQ O (bC (aV (dI aB bT O O (by omega)) (bC ?_))))))
    refine aV (fA (dn bg O) O (by first | exact fP.lW (hr _ (HM)) (by omega) | exact fP.wK (hr _ (HM)) (by omega) | exact fP.wH (hr _ (HM)) (by omega))) ?_
    refine bC (dS O func14 (nV HM hT) ?_)
    rintro _ w9 ⟨rfl, H9⟩
    refine bC (aV (dV O O) (jF O O (jh O (fun h10 => ?_) (fun h10 => ?_))))
    ·(try simp only [Z] at h10)
     have hQ : (eF (l.getD z.toNat 0) == 0) = true := by rw [beq_iff_eq]; exact h10
     refine fZ (aY (aC (bQ O (aV (gy O O (by omega)) (fU O (bM (aJ ?_)))))))
     refine dL (z + 1) ?_ ?_ ?_ ?_
     ·exact lI
     ·exact lI
     ·(try dsimp only)
      first | done | exact ⟨⟨⟨by omega, by omega⟩, hz.trans (qc hz0 (by omega) hQ)⟩, H9⟩
     ·(try dsimp only); omega
    ·(try simp only [Z] at h10)
     have hQ : ¬ (eF (l.getD z.toNat 0) == 0) = true := by rw [beq_iff_eq]; exact h10
     refine dB (aI (aI (aZ (aX (bP O (eY O (dG results95 O ?_)))))))
     exact ⟨by rw [hz]; first | rw [jo (by omega)] | rw [kN hz0 (by omega) hQ], H9⟩
   ·(try simp only [Z] at h9)
    refine bI (bI (bI (bI (bI (bI (iM O O (iJ (qy (dB (aI (aI (aZ (aX (bP O (eY O (dG results95 O ?_))))))))))))))))
    exact ⟨by rw [hz]; first | rw [jo (by omega)] | rw [kN hz0 (by omega) hQ], HM⟩
 ·(try simp only [Z] at h1)
  refine fZ (aP (aY ?_))
  try have e1 : jV (fun r => bZ r big == bZ (l.getD x.toNat 0) big) l x = y := hy.symm.trans (by first | exact jo (by omega) | exact kN hy0 (by omega) hP)
  refine fF [(0, _)] (fun (z : Int) => [(1, .int .i64 z)]) (fun (z : Int) W => ((0 ≤ z ∧ z ≤ l.length) ∧ wV l x big = jV (fun r => eF r == 0) l z) ∧ V w0 W F) (fun (z : Int) => (l.length - z).toNat) (_) lI lI ⟨⟨⟨by omega, by omega⟩, by unfold wV; first | (rw [if_neg (by omega)]; done) | (rw [if_pos (by omega), if_pos hk]; done) | (rw [if_pos (by omega), if_neg hk, e1]; done)⟩, H⟩ ?_
  rintro z w10 ⟨⟨⟨hz0, hzl⟩, hz⟩, HM⟩
  dsimp only [List.cons_append, List.nil_append]
  refine aP (bP O (bQ O (aV (jk (hr _ (HM)) aB O) (aV (iL O O) (jP O (fun h11 => ?_) (fun h11 => ?_))))))
  ·(try simp only [Z] at h11)
   refine bC (bQ O (bC (bQ O (bC ?_))))
   obtain ⟨bv, ov, cv, ev⟩ := fP.pW (hr _ (HM)) (by omega)
   cases ev
   refine aV (dI aB bT O O (by omega)) (bC ?_)
   refine aV (fA (dn bg O) O (by first | exact fP.lW (hr _ (HM)) (by omega) | exact fP.wK (hr _ (HM)) (by omega) | exact fP.wH (hr _ (HM)) (by omega))) ?_
   refine bC (dS O func14 (nV HM hT) ?_)
   rintro _ DU ⟨rfl, qo⟩
   refine bC (aV (dV O O) (jF O O (jh O (fun h12 => ?_) (fun h12 => ?_))))
   ·(try simp only [Z] at h12)
    have hQ : (eF (l.getD z.toNat 0) == 0) = true := by rw [beq_iff_eq]; exact h12
    refine fZ (aY (aC (bQ O (aV (gy O O (by omega)) (fU O (bM (aJ ?_)))))))
    refine dL (z + 1) ?_ ?_ ?_ ?_
    ·exact lI
    ·exact lI
    ·(try dsimp only)
     first | done | exact ⟨⟨⟨by omega, by omega⟩, hz.trans (qc hz0 (by omega) hQ)⟩, qo⟩
    ·(try dsimp only); omega
   ·(try simp only [Z] at h12)
    have hQ : ¬ (eF (l.getD z.toNat 0) == 0) = true := by rw [beq_iff_eq]; exact h12
    refine dB (aI (aI (aZ (aX (bP O (eY O (dG results95 O ?_)))))))
    exact ⟨by rw [hz]; first | rw [jo (by omega)] | rw [kN hz0 (by omega) hQ], qo⟩
  ·(try simp only [Z] at h11)
   refine bI (bI (bI (bI (bI (bI (iM O O (iJ (qy (dB (aI (aI (aZ (aX (bP O (eY O (dG results95 O ?_))))))))))))))))
   exact ⟨by rw [hz]; first | rw [jo (by omega)] | rw [kN hz0 (by omega) hQ], HM⟩
end
end Go.Proofs.YtpdeedplgmbopaaGreatDoor
end
