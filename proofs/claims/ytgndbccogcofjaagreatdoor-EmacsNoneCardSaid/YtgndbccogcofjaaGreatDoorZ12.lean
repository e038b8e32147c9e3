import Derived.Test.YtgndbccogcofjaaGreatDoorZ2
import Derived.Test.YtgndbccogcofjaaGreatDoorZ11
import Derived.Test.YtgndbccogcofjaaGreatDoorZ6
import Derived.Test.YtgndbccogcofjaaGreatDoorZ7
import Derived.Lib.OthersKept
import Derived.Lib.Bytealg
import Derived.Conc.AtomicLaws2
import Derived.Test.YtgndbccogcofjaaGreatDoorZ10
set_option linter.unusedSimpArgs false
set_option linter.unusedVariables false
/- Texts of mine, joined, their names in short: UGroups Ed EdTwin EdA Atom Build. -/
section
namespace Go.Proofs.YtgndbccogcofjaaGreatDoor
open Go.RowKit
open _root_.Go.Proofs.Tryz
def vF (c : Nat) (G : List (List dQ)) (N : List dQ) (k : Nat) : HP := qo fun (x : Value × List (Value × List bZ)) => fact (x.2.map (fun g => g.2.map bZ.says) = Et N ++ G.reverse.take k) • dh c (.cells #[x.1] 176 (0, 0)) • wW x.1 x.2
theorem rev_succ {G : List (List dQ)} {k : Nat} (hk : k < G.length) : G.reverse.take (k + 1) = G.reverse.take k ++ [G.getD (G.length - (k + 1)) []] := by
  rw [List.take_succ_eq_append_getElem (by simpa using hk)]
  congr 1
  rw [List.getElem_reverse, List.getD_eq_getElem?_getD, List.getElem?_eq_getElem (by omega)]
  have e : G.length - 1 - k = G.length - (k + 1) := by omega
  simp only [Option.getD_some, e]
section
variable {w0 w : World} {F : HP} {p c k : Nat} {G : List (List dQ)} {N : List dQ} {op : Int} {v u : Value} {es fs : List bZ} {gs hs : List (Value × List bZ)}
theorem aB.Gf (H : aB w0 w (vF c G N k • F)) : ∃ u hs, hs.map (fun g => g.2.map bZ.says) = Et N ++ G.reverse.take k ∧ hs.length ≤ G.length + 1 ∧ aB w0 w (dh c (.cells #[u] 176 (0, 0)) • Row 35 1 u hs.length (hs.map (·.1)) • lG hs • F) := by
  obtain ⟨⟨u, hs⟩, H⟩ := H.kH
  obtain ⟨h, H⟩ := H.flat.fact
  refine ⟨u, hs, h, ?_, (H.flat.swap.Rn).f3⟩
  have := congrArg List.length h
  have := Np N
  simp only [List.length_map, List.length_append, List.length_take, List.length_reverse] at *
  omega
theorem aB.Bd (h : hs.map (fun g => g.2.map bZ.says) = Et N ++ G.reverse.take k) (H : aB w0 w (dh c (.cells #[u] 176 (0, 0)) • wW u hs • F)) : aB w0 w (vF c G N k • F) :=
  aB.gy (u, hs) (aB.deep (aB.je h H.deep))
theorem KQ (H : aB w0 w F) (hv : v.oneCell' = true) : eG prog 216 #[v] w fun v' w' => ∃ b, v' = .func (.func 239) #[] #[.pointer (some ⟨b, 0, none⟩)] ∧ aB w0 w' (dh b (.cells #[v] 176 (0, 0)) • F) := by
 refine fP func216 ntmps216 ?_
 dsimp only [aX, Nat.reduceAdd]
 refine ay (ah (jo (gV (l := [_]) H rfl (by first | rfl | exact xM (by first | rfl | assumption))) ?_))
 rintro _ w1 ⟨b1, rfl, H1⟩
 refine aV rfl (aA (aj (ay (ah (aW (rJ rfl rfl) (aV rfl (aA (aj (aJ (aH (.inl rfl) results216 rfl ?_))))))))))
 exact ⟨_, rfl, H1⟩
theorem Iz (b : Nat) : Iter prog w0 (.func (.func 239) #[] #[.pointer (some ⟨b, 0, none⟩)]) (dh b (.cells #[v] 176 (0, 0)) • Row 35 1 v gs.length (gs.map (·.1)) • lG gs) gs.length
  (fun k vs A => ∃ gl rY, gs.getD (gs.length - (k + 1)) default = (gl, rY) ∧ vs = [.int .i64 ((gs.length - (k + 1) : Nat) : Int), gl] ∧ A = xE gl rY) := by
 intro l J X w hy H
 refine ⟨239, [], [.pointer (some ⟨b, 0, none⟩)], _, _, rfl, func239, rfl, rfl, ?_⟩
 have H1 : aB w0 w (dh b (.cells #[v] 176 (0, 0)) • Row 35 1 v gs.length (gs.map (·.1)) • lG gs • J 0) := H.of_eq (by ac_rfl)
 obtain ⟨a, c, hv, hc1, hc2, _⟩ := (H1.swap.aT).form
 subst hv
 simp only [List.nil_append, List.cons_append]
 refine fP func239 ntmps239 ?_
 dsimp only [aX, Nat.reduceAdd]
 refine ay (ah (dP underlying176 rfl (H1).get.2 rfl (aW (gW ((H1.f2).aT) underlying176 rfl) (aW (gU rfl rfl (by omega)) (aV rfl (aA (aj (bg ?_))))))))
 refine ig [(0, _), (1, _)] (fun (k : Nat) => [(3, .int .i64 ((k : Int) - 1))]) (fun (k : Nat) W => k ≤ gs.length ∧ aB w0 W (dh b (.cells #[.slice a gs.length c] 176 (0, 0)) • Row 35 1 (.slice a gs.length c) gs.length (gs.map (·.1)) • lG gs • J (gs.length - k))) (fun (k : Nat) => k) (gs.length) (Sub.cons rfl (Sub.cons rfl (Sub.nil _))) (Sub.cons rfl (Sub.nil _)) ⟨by omega, by rw [Nat.sub_self]; exact H1⟩ ?_
 rintro k w1 ⟨hk, HL⟩
 dsimp only [List.cons_append, List.nil_append]
 refine ay (ay (ah (aO rfl (aW (jm rfl rfl) (aA (aj (aQ rfl (fun h1 => ?_) (fun h1 => ?_))))))))
 ·(try simp only [aI] at h1)
  try (exfalso; first | contradiction | omega)
  all_goals
   refine aS (aj (ay (bg (ay ?_))))
   obtain ⟨m, rfl⟩ : ∃ m, k = m + 1 := ⟨k - 1, by omega⟩
   rw [show (((m + 1 : Nat) : Int) - 1) = (m : Int) from by omega]
   have hkl : m < gs.length := by omega
   refine ah (aO rfl (aO rfl (dP underlying176 rfl (HL).get.2 rfl (aO rfl ?_))))
   obtain ⟨bv, ov, cv, ev⟩ := Rd.yX ((HL.f2).aT) (by omega)
   cases ev
   refine aW (iK underlying176 sizeOf35 rfl rfl (by omega)) ?_
   refine aW (nU (iC underlying35 rfl) rfl (by first | exact Rd.Hg ((HL.f2).aT) (by omega) | exact Rd.S9 ((HL.f2).aT) (by omega) | exact Rd.QW ((HL.f2).aT) (by omega))) ?_
   rw [show (gs.map (·.1)).getD m undef = (gs.getD m default).1 from by simp [List.getD_eq_getElem?_getD, hkl]]
   obtain ⟨gl, rY, hg⟩ : ∃ gl rY, gs.getD m default = (gl, rY) := ⟨_, _, rfl⟩
   rw [hg]
   have Xd := HL.f3
   have Xf := Xd.Ep hkl hg
   refine jo (En rfl rfl (hy (gs.length - (m + 1)) (by omega) _ _ ⟨gl, rY, by rw [show gs.length - (gs.length - (m + 1) + 1) = m from by omega]; exact hg, by rw [show gs.length - (gs.length - (m + 1) + 1) = m from by omega], rfl⟩ (lG gs • Row 35 1 (.slice (some ⟨bv, ov, none⟩) gs.length c) gs.length (gs.map (·.1)) • dh b (.cells #[.slice (some ⟨bv, ov, none⟩) gs.length c] 176 (0, 0))) _ (Xf.of_eq (by ac_rfl))).bool) ?_
   rintro _ w4 ⟨t, rfl, ht1, ht2⟩
   refine aW (kC rfl) (aA (aj (aQ rfl (fun h2 => ?_) (fun h2 => ?_))))
   ·(try simp only [aI] at h2)
    try (exfalso; first | contradiction | omega)
    all_goals
     have HX := ht2 (by simpa using h2)
     refine aJ (aU (aK (aK (aU (fF (.inl rfl) results239 ?_)))))
     exact .inr (HX.of_eq (by ac_rfl))
   ·(try simp only [aI] at h2)
    try (exfalso; first | contradiction | omega)
    all_goals
     have HN : aB w0 w4 (dh b (.cells #[.slice (some ⟨bv, ov, none⟩) gs.length c] 176 (0, 0)) • Row 35 1 (.slice (some ⟨bv, ov, none⟩) gs.length c) gs.length (gs.map (·.1)) • lG gs • J (gs.length - m)) := by
      have h9 := ht1 (by simpa using h2)
      rw [show gs.length - (m + 1) + 1 = gs.length - m from by omega] at h9
      exact h9.of_eq (by ac_rfl)
     refine aS (aP (aj (ah (aO rfl (aW (gU rfl rfl (by omega)) (aV rfl (aA ?_)))))))
     refine fA (m) ?_ ?_ ?_ ?_
     ·exact (Sub.cons rfl (Sub.nil _))
     ·exact (Sub.cons rfl (Sub.cons rfl (Sub.nil _)))
     ·(try dsimp only)
      first | done | exact ⟨by omega, HN.f3.f3.f3⟩
     ·(try dsimp only); omega
 ·(try simp only [aI] at h1)
  try (exfalso; first | contradiction | omega)
  all_goals
   refine fH (aY (aY (bV (fF (.inr rfl) results239 ?_))))
   obtain rfl : k = 0 := by omega
   rw [Nat.sub_zero] at HL
   exact .inl (HL.of_eq (by ac_rfl))
theorem zf (H : aB w0 w (dN p G N op • F)) : eG prog 161 #[.pointer (some ⟨p, 0, none⟩)] w fun v w' => ∃ c, v = .func (.func 217) #[] #[.pointer (some ⟨c, 0, none⟩)] ∧ aB w0 w' (vF c G N G.length • dN p G N op • F) := by
 refine fP func161 ntmps161 ?_
 dsimp only [aX, Nat.reduceAdd]
 refine ay (ah (aV rfl (aA (aj (ay (ah (jo (fJ (l := [_]) H zeroValue176 rfl) ?_)))))))
 rintro _ w1 ⟨b1, rfl, H1⟩
 refine aA (aj (ay (ay (ah (aO rfl (dn rfl func181 (iw H1.f2) ?_))))))
 rintro _ _ ⟨rfl, rfl⟩
 refine aW (kC rfl) ?_
 obtain ⟨tN, qV, iM, iF, gY, nZ, lM, Aw, Az, Eh, jS⟩ := (H1.f2).qU
 have hLn : iF.length ≤ 16384 := by omega
 have hBn := F8 lM gY.2.2.2.2.2
 refine aA (aj (aQ rfl (fun h1 => ?_) (fun h => by exfalso; (try simp only [aI] at h); simp at h)))
 (try simp only [aI] at h1)
 refine Ji [(0, _), (3, _)] (fun (_ : Unit) => []) (fun (_ : Unit) W => aB w0 W (vF b1 G N 0 • dh p (.cells #[tN, qV, .int .i64 op, .int .i64 (dO G N : Nat), .bool true] 180 (0, 0)) • Row 35 1 tN iM.length (iM.map (·.1)) • lG iM • Row 101 3 qV iF.length (iF.flatMap bZ.enc) • iL iF • F)) (Sub.cons rfl (Sub.cons rfl (Sub.nil _))) ?_ ?_
 ·rintro _ w4 HJ
  dsimp only [List.cons_append, List.nil_append]
  refine ay (ah (aO rfl (bK rfl (aZ 0 underlying180 rfl sizeOf178 rfl (aZ 0 underlying178 rfl sizeOf176 rfl (dP underlying176 rfl (HJ.f2).get.2 rfl (dn rfl func216 (KQ HJ (Rd.one ((HJ.f3).aT))) ?_)))))))
  rintro _ w5 ⟨bB5, rfl, H5⟩
  refine aA (aj (bg ?_))
  obtain ⟨R6, VR, Xg⟩ := aB.TJ (H5.f5.f5.f3.f4)
  refine rX rfl (Iz bB5) (fun k => vF b1 G N k • R6) (fact False) (fun _ => fact False) (Xg.f4.f4.f4.f4.f4.f4.f4.g3.comm) (by rfl) ?_ ?_ ?_ ?_
  ·rintro l7 k Rw vs7 A7 ⟨gl, rY, hg, rfl, rfl⟩ G7 w7 H7
   try simp only [bQ, iO, ou] at H7
   refine ⟨rfl, ?_⟩
   dsimp only [Io]
   obtain ⟨u, hs, Nl, WW, HI⟩ := (H7.f2).Gf
   have hge : rY.map bZ.says = G.getD (G.length - (k + 1)) [] := by
    rw [← Aw, ← nZ]
    have h9 : (iM.map (fun g => g.2.map bZ.says)).getD (iM.length - (k + 1)) [] = (iM.getD (iM.length - (k + 1)) default).2.map bZ.says := by simp [List.getD_eq_getElem?_getD, show iM.length - (k + 1) < iM.length by omega]
    rw [h9, hg]
   have hgm : G.getD (G.length - (k + 1)) [] ∈ G := qO (by omega)
   have hBg := F8 hge (gY.2.2.2.2.1 _ hgm)
   have UJ : rY.length ≤ 16384 := by
    have h8 := gY.2.1
    unfold dO at h8
    have h7 := congrArg List.length hge
    rw [List.length_map] at h7
    have h6 := Es hgm
    omega
   refine ah (aV rfl (aA ?_))
   refine Il (HI.g5) ?_
   intro G8 w8 H8
   try simp only [bQ] at H8
   refine bg ?_
   have UN := H8.drew
   have Ns := aB.kp (UN.f4.f4.f4.f4)
   refine xJ [0] Ns rfl (iV 0 rfl Ns (fun W hW => jr underlying176 rfl ((Kp.h hW)).get.2 rfl) (iq 1 rfl Ns rfl (jB 2 rfl (vK rfl func187 (qA UN.f4 hBg UJ)) ?_)))
   rintro u9 w9 ⟨fs9, Xh, H9⟩
   obtain ⟨es2, rfl⟩ : ∃ q, q = fs9 := ⟨_, rfl⟩
   have hes2 := Xh
   have Ii := aB.kp (H9.f6.f6.f6.f6.f6.f6)
   refine dM Ii (fun W hW => (Kp.h hW).right.right.f4.f4.f4) ?_
   refine jB 3 rfl (kM (vs := [_]) H9 underlying176 sizeOf35 zeroValue35 rfl rfl rfl (by decide) (aC (by first | rfl | exact Rd.one ((H9).aT)) bP)) ?_
   rintro l10 w10 ng
   have Dt := aB.kp (ng.f7.f7.f7.f7.f7.f7.f7)
   refine dM Dt (fun W hW => (Kp.h hW).right.f6.f6.f6.f6.f6.f6) ?_
   refine jB 4 rfl (gK ng.f6 underlying176 (show (prog.info? 35).map (fun i => (i.zero, i.size, i.bytes)) = some (some (.slice none 0 0), 1, 24) by kernel_rfl) rfl rfl rfl ((ng).aT) (aC (by first | rfl | exact Rd.one ((ng.f2).aT)) bP) (by omega) (by omega)) ?_
   rintro Z5 Ht wB
   have Ir := wB.f2.right
   have wY := aB.kp (Ir.f6.f6.f6.f6.f6.f6)
   refine eX wY (by kernel_rfl) ?_
   refine eP 5 rfl (by kernel_rfl) (aN 0 (l' := [_]) Ir.f5 sizeOf176 rfl rfl (by first | rfl | exact Rd.one ((Ir).aT)) rfl rfl) ?_
   rintro _ Me uX
   have uY := aB.kp (uX.f6.f6.f6.f6.f6.f6)
   refine eX uY (by kernel_rfl) ?_
   refine oV (aP ?_)
   refine AO ?_
   have X := aB.oN (es := es2) (uX.f5.right.f5.f3.f5.f5).deep
   exact (aB.Bd (hs := hs ++ [(u9, es2)]) (by rw [List.map_append, Nl, rev_succ (by omega), ← hge, ← hes2, List.append_assoc]; rfl) (aB.qR X.swap).swap).deep
  ·rintro Z7 Ky wM
   have FQ := wM.ed
   try simp only [bQ, iO, ou] at FQ
   have Rx := FQ.Jh
   subst VR
   refine aP (aj (ay (ah (aW (rJ rfl rfl) (aV rfl (aA (aj (aJ ?_))))))))
   refine zk (.inl rfl) (Rx) (fun MB wC => ?_)
   refine ⟨_, QO results161 rfl, ?_⟩
   have hgl : vF b1 G N iM.length = vF b1 G N G.length := by rw [Aw]
   rw [hgl] at wC
   have Xi := wC.f7.f7.f5.f5.f7
   have Xj := aB.iT gY nZ lM rfl Xi
   exact ⟨_, rfl, Xj.f2.right.f2⟩
  ·rintro D w H; exact absurd H.swap.fact.1 id
  ·rintro id D w H; exact absurd H.swap.fact.1 fun h => h
 ·skip
  refine ay (ah (aO rfl (bK rfl (aZ 0 underlying180 rfl sizeOf178 rfl (aZ 1 underlying178 rfl sizeOf35 rfl (dP underlying35 rfl (jS).get.2 rfl (aW (gW ((jS.f4).aT) underlying35 rfl) (aW (dB rfl rfl) (aA (aj (aQ rfl (fun h2 => ?_) (fun h2 => ?_))))))))))))
  ·(try simp only [aI] at h2)
   have hN : Et N = [N] := if_neg (by rintro rfl; exact absurd Az (by simp only [List.length_nil]; omega))
   have Qs := jS.drew
   have vV := aB.kp (Qs.f6.f6.f6.f6.f6.f6)
   refine xJ [0, 5] vV rfl (iV 0 rfl vV (fun W hW => jr underlying176 rfl ((Kp.h hW).f6).get.2 rfl) (iq 1 rfl vV rfl (jv 2 rfl vV rfl (fU 3 rfl vV 0 underlying180 rfl sizeOf178 rfl (fU 4 rfl vV 1 underlying178 rfl sizeOf35 rfl (iV 5 rfl vV (fun W hW => jr underlying35 rfl ((Kp.h hW)).get.2 rfl) (jB 6 rfl (vK rfl func187 (tY Qs.f5.f5 hBn hLn)) ?_)))))))
   rintro u19 Qh ⟨Xk, UO, Aa⟩
   obtain ⟨es1, rfl⟩ : ∃ q, q = Xk := ⟨_, rfl⟩
   have hes1 := UO
   have Nu := aB.kp (Aa.f8.f8.f8.f8.f8.f8.f8.f8)
   refine dM Nu (fun W hW => (Kp.h hW).right.right.f6.f3.f3.f6.f6.f6) ?_
   refine jB 7 rfl (kM (vs := [_]) Aa underlying176 sizeOf35 zeroValue35 rfl rfl rfl (by decide) (aC (by first | rfl | exact Rd.one ((Aa).aT)) bP)) ?_
   rintro Xl Qd wz
   have yP := aB.kp (wz.f9.f9.f9.f9.f9.f9.f9.f9.f9)
   refine dM yP (fun W hW => (Kp.h hW).right.f8.f8.f8.f8.f8.f8.f8.f8) ?_
   refine jB 8 rfl (gK (wz.iP none) underlying176 (show (prog.info? 35).map (fun i => (i.zero, i.size, i.bytes)) = some (some (.slice none 0 0), 1, 24) by kernel_rfl) rfl rfl rfl ((wz).aT) (aC (by first | rfl | exact Rd.one ((wz.f2).aT)) bP) (by omega) (by omega)) ?_
   rintro l21 Rf nY
   have Ey := nY.f2.right
   have Bf := aB.kp (Ey.f9.f9.f9.f9.f9.f9.f9.f9.f9)
   refine eX Bf (by kernel_rfl) ?_
   refine eP 9 rfl (by kernel_rfl) (aN 0 (l' := [_]) Ey.f9 sizeOf176 rfl rfl (by first | rfl | exact Rd.one ((Ey).aT)) rfl rfl) ?_
   rintro _ Qi xC
   have Dv := aB.kp (xC.f9.f9.f9.f9.f9.f9.f9.f9.f9)
   refine eX Dv (by kernel_rfl) ?_
   have X := aB.oN (es := es1) (xC.f6.f6.f9.f9.f9.f6.f7.f9.f9).deep
   have Xm : aB w0 Qi (vF b1 G N 0 • dh p (.cells #[tN, qV, .int .i64 op, .int .i64 (dO G N : Nat), .bool true] 180 (0, 0)) • Row 35 1 tN iM.length (iM.map (·.1)) • lG iM • Row 101 3 qV iF.length (iF.flatMap bZ.enc) • iL iF • F) :=
    aB.Bd (hs := [(u19, es1)]) (by rw [hN, ← lM, ← hes1]; rfl) (aB.qR (gs := []) X.FU.f3.f3.f2).swap
   refine oV ?_
   refine rG (()) ?_ ?_ ?_
   ·exact (Sub.nil _)
   ·exact (Sub.cons rfl (Sub.cons rfl (Sub.nil _)))
   ·(try dsimp only)
    first | done | exact Xm
  ·(try simp only [aI] at h2)
   have hN : Et N = [] := if_pos (by rw [← lM, List.eq_nil_of_length_eq_zero (show iF.length = 0 by omega)]; rfl)
   have Xm : aB w0 w1 (vF b1 G N 0 • dh p (.cells #[tN, qV, .int .i64 op, .int .i64 (dO G N : Nat), .bool true] 180 (0, 0)) • Row 35 1 tN iM.length (iM.map (·.1)) • lG iM • Row 101 3 qV iF.length (iF.flatMap bZ.enc) • iL iF • F) :=
    aB.Bd (hs := []) (by rw [hN]; rfl) ((jS.f5.f5.f5.f5.f5.f6).wX none).swap
   refine aS ?_
   refine rG (()) ?_ ?_ ?_
   ·exact (Sub.nil _)
   ·exact (Sub.cons rfl (Sub.cons rfl (Sub.nil _)))
   ·(try dsimp only)
    first | done | exact Xm
theorem Gg (c : Nat) (hB : ∀ g ∈ vS G N, ∀ e ∈ g, EB e) (hL : ∀ g ∈ vS G N, g.length ≤ 16384) : Iter prog w0 (.func (.func 217) #[] #[.pointer (some ⟨c, 0, none⟩)]) (vF c G N G.length) (vS G N).length
  (fun k vs A => ∃ u, ∃ fs : List bZ, fs.map bZ.says = (vS G N).getD k [] ∧ vs = [u] ∧ A = Cm u fs) := by
 intro l J X w hy H
 refine ⟨217, [], [.pointer (some ⟨c, 0, none⟩)], _, _, rfl, func217, rfl, rfl, ?_⟩
 obtain ⟨v, hs, Nl, WW, H1⟩ := H.comm.Gf
 have UQ := Nl
 rw [List.take_of_length_le (by simp), ← Ph] at Nl
 have hlen : hs.length = (vS G N).length := by have := congrArg List.length Nl; simpa using this
 obtain ⟨a, d, hv, hc1, hc2, _⟩ := (H1.swap.aT).form
 subst hv
 simp only [List.nil_append, List.cons_append]
 refine fP func217 ntmps217 ?_
 dsimp only [aX, Nat.reduceAdd]
 refine ay (ah (dP underlying176 rfl (H1).get.2 rfl (aW (gW ((H1.f2).aT) underlying176 rfl) (aO rfl (aA (aj (bg ?_)))))))
 refine ig [(0, _), (5, _), (6, _)] (fun (k : Nat) => [(7, .int .i64 (k : Int))]) (fun (k : Nat) W => k ≤ hs.length ∧ aB w0 W (dh c (.cells #[.slice a hs.length d] 176 (0, 0)) • Row 35 1 (.slice a hs.length d) hs.length (hs.map (·.1)) • lG hs • J k)) (fun (k : Nat) => hs.length - k) (0) (Sub.cons rfl (Sub.cons rfl (Sub.cons rfl (Sub.nil _)))) (Sub.cons rfl (Sub.nil _)) ⟨by omega, H1⟩ ?_
 rintro k w1 ⟨hk, HL⟩
 dsimp only [List.cons_append, List.nil_append]
 refine ay (ah (aW (eU rfl rfl) (aA (aj (ay (aQ rfl (fun h1 => ?_) (fun h1 => ?_)))))))
 ·(try simp only [aI] at h1)
  try (exfalso; first | contradiction | omega)
  all_goals
   refine aS (aj (ay (bg (ay (ah ?_)))))
   obtain ⟨bv, ov, cv, ev⟩ := Rd.yX ((HL.f2).aT) (by omega)
   cases ev
   refine aW (iK underlying176 sizeOf35 rfl rfl (by omega)) ?_
   refine aW (nU (iC underlying35 rfl) rfl (by first | exact Rd.Hg ((HL.f2).aT) (by omega) | exact Rd.S9 ((HL.f2).aT) (by omega) | exact Rd.QW ((HL.f2).aT) (by omega))) ?_
   have hkl : k < hs.length := by omega
   rw [show (hs.map (·.1)).getD k undef = (hs.getD k default).1 from by simp [List.getD_eq_getElem?_getD, hkl]]
   obtain ⟨gl, rY, hg⟩ : ∃ gl rY, hs.getD k default = (gl, rY) := ⟨_, _, rfl⟩
   rw [hg]
   have Xd := HL.f3
   have Xf := Xd.Ep hkl hg
   have hge : rY.map bZ.says = (vS G N).getD k [] := by
    rw [← Nl]
    have h9 : (hs.map (fun g => g.2.map bZ.says)).getD k [] = (hs.getD k default).2.map bZ.says := by simp [List.getD_eq_getElem?_getD, hkl]
    rw [h9, hg]
   have hgm : (vS G N).getD k [] ∈ vS G N := qO (by omega)
   have hBg := F8 hge (hB _ hgm)
   have UJ : rY.length ≤ 16384 := by
    have h7 := congrArg List.length hge
    rw [List.length_map] at h7
    have := hL _ hgm
    omega
   refine aV rfl (aA (aj (ay (ah (aO rfl (aO rfl (dn rfl func187 (qA Xf hBg UJ) ?_)))))))
   rintro u4 w4 ⟨fs4, Xn, H4⟩
   obtain ⟨es2, rfl⟩ : ∃ q, q = fs4 := ⟨_, rfl⟩
   have hes2 := Xn
   have Hd5 := H4.f3.right
   refine jo (En rfl rfl (hy k (by omega) _ _ ⟨_, es2, hes2.trans hge, rfl, rfl⟩ (lG hs • Row 35 1 (.slice (some ⟨bv, ov, none⟩) hs.length d) hs.length (hs.map (·.1)) • dh c (.cells #[.slice (some ⟨bv, ov, none⟩) hs.length d] 176 (0, 0))) _ (Hd5.of_eq (by unfold Cm; ac_rfl))).bool) ?_
   rintro _ w6 ⟨t, rfl, ht1, ht2⟩
   refine aW (kC rfl) (aA (aj (aQ rfl (fun h2 => ?_) (fun h2 => ?_))))
   ·(try simp only [aI] at h2)
    try (exfalso; first | contradiction | omega)
    all_goals
     have HX := ht2 (by simpa using h2)
     refine aJ (aU (aK (aK (aU (fF (.inl rfl) results217 ?_)))))
     exact .inr (aB.comm (aB.Bd (u := .slice (some ⟨bv, ov, none⟩) hs.length d) UQ (HX.of_eq (by unfold wW; ac_rfl))))
   ·(try simp only [aI] at h2)
    try (exfalso; first | contradiction | omega)
    all_goals
     have HN : aB w0 w6 (dh c (.cells #[.slice (some ⟨bv, ov, none⟩) hs.length d] 176 (0, 0)) • Row 35 1 (.slice (some ⟨bv, ov, none⟩) hs.length d) hs.length (hs.map (·.1)) • lG hs • J (k + 1)) := by
      have h9 := ht1 (by simpa using h2)
      exact h9.of_eq (by ac_rfl)
     refine aS (aP (aj (ah (aW (fQ rfl rfl (by omega)) (aO rfl (aA ?_))))))
     refine fA (k + 1) ?_ ?_ ?_ ?_
     ·exact (Sub.cons rfl (Sub.nil _))
     ·exact (Sub.cons rfl (Sub.cons rfl (Sub.cons rfl (Sub.nil _))))
     ·(try dsimp only)
      first | done | exact ⟨by omega, HN.f3.f3.f3⟩
     ·(try dsimp only); omega
 ·(try simp only [aI] at h1)
  try (exfalso; first | contradiction | omega)
  all_goals
   refine fH (aY (aY (bV (fF (.inr rfl) results217 ?_))))
   obtain rfl : k = hs.length := by omega
   rw [← hlen]
   exact .inl (aB.comm (aB.Bd (u := .slice a hs.length d) UQ (HL.of_eq (by unfold wW; ac_rfl))))
end
end Go.Proofs.YtgndbccogcofjaaGreatDoor
end
section
namespace Go.Proofs.YtgndbccogcofjaaGreatDoor
open Go.RowKit
def yQ (P : Int → Nat) (U : Int → List (List dQ)) : List Int → HP
  | [] => emp
  | k :: D => dN (P k) (U k) [] 0 • yQ P U D
def Gh (D : List Int) (P : Int → Nat) : Int → Option Value := fun k => if k ∈ D then some (.pointer (some ⟨P k, 0, none⟩)) else none
theorem qZ {P : Int → Nat} {U : Int → List (List dQ)} {k : Int} : ∀ {D : List Int}, k ∈ D → yQ P U D = (dN (P k) (U k) [] 0 • yQ P U (D.erase k))
  | x :: D, h => by
    by_cases e : x = k
    · subst e; rw [List.erase_cons_head]; rfl
    · rw [List.erase_cons_tail (by simpa using e)]
      have hk : k ∈ D := (List.mem_cons.1 h).resolve_left (Ne.symm e)
      show (dN (P x) (U x) [] 0 • yQ P U D) = _
      rw [qZ hk]
      show (dN (P x) (U x) [] 0 • dN (P k) (U k) [] 0 • yQ P U (D.erase k)) = (dN (P k) (U k) [] 0 • (dN (P x) (U x) [] 0 • yQ P U (D.erase k)))
      ac_rfl
theorem uD {P P' : Int → Nat} {U U' : Int → List (List dQ)} : ∀ {D : List Int}, (∀ k ∈ D, P k = P' k ∧ U k = U' k) → yQ P U D = yQ P' U' D
  | [], _ => rfl
  | x :: D, h => by
    show (dN (P x) (U x) [] 0 • yQ P U D) = (dN (P' x) (U' x) [] 0 • yQ P' U' D)
    rw [(h x (by simp)).1, (h x (by simp)).2, uD fun k hk => h k (List.mem_cons_of_mem _ hk)]
def ru (b : Nat) (U : Int → List (List dQ)) : HP := qo fun (x : List Int × (Int → Nat)) => fact (x.1.Nodup ∧ ∀ k, k ∉ x.1 → U k = []) • dW nK b (Gh x.1 x.2) • yQ x.2 U x.1
def Dw (b : Nat) (U : Int → List (List dQ)) (k : Int) (p : Nat) : HP := qo fun (x : List Int × (Int → Nat)) => fact (x.1.Nodup ∧ (∀ k, k ∉ x.1 → U k = []) ∧ k ∈ x.1 ∧ x.2 k = p) • dW nK b (Gh x.1 x.2) • yQ x.2 U (x.1.erase k)
section
variable {w0 w : World} {F : HP} {b p : Nat} {k : Int} {U : Int → List (List dQ)} {G : List (List dQ)}
theorem aB.UR (H : aB w0 w (ru b U • F)) : ∃ D P, (D : List Int).Nodup ∧ (∀ k, k ∉ D → U k = []) ∧ aB w0 w (dW nK b (Gh D P) • yQ P U D • F) := by
  obtain ⟨⟨D, P⟩, H⟩ := H.kH
  obtain ⟨⟨h1, h2⟩, H⟩ := H.flat.fact
  exact ⟨D, P, h1, h2, H.flat⟩
theorem aB.zx {D : List Int} {P : Int → Nat} (h1 : D.Nodup) (h2 : ∀ k, k ∉ D → U k = []) (H : aB w0 w (dW nK b (Gh D P) • yQ P U D • F)) : aB w0 w (ru b U • F) :=
  aB.gy (D, P) (aB.deep (aB.je ⟨h1, h2⟩ H.deep))
theorem aB.Qu {D : List Int} {P : Int → Nat} (h1 : D.Nodup) (h2 : ∀ k, k ∉ D → U k = []) (hk : k ∈ D) (H : aB w0 w (dW nK b (Gh D P) • yQ P U D • F)) : aB w0 w (dN (P k) (U k) [] 0 • Dw b U k (P k) • F) := by
  have H1 : aB w0 w ((dW nK b (Gh D P) • yQ P U (D.erase k)) • dN (P k) (U k) [] 0 • F) := H.of_eq (by rw [qZ hk]; ac_rfl)
  have H2 : aB w0 w (Dw b U k (P k) • dN (P k) (U k) [] 0 • F) := aB.gy (D, P) (aB.deep (aB.je ⟨h1, h2, hk, rfl⟩ H1))
  exact H2.swap
theorem aB.rC (H : aB w0 w (Dw b U k p • dN p G [] 0 • F)) : aB w0 w (ru b (uO U k G) • F) := by
  obtain ⟨⟨D, P⟩, H⟩ := H.kH
  obtain ⟨⟨h1, h2, hk, hp⟩, H⟩ := H.flat.fact
  dsimp only at h1 h2 hk hp H
  subst hp
  refine aB.zx (D := D) (P := P) h1 (fun x hx => ?_) ?_
  · rw [qW _ _ (by rintro rfl; exact hx hk)]; exact h2 x hx
  · rw [qZ (U := uO U k G) hk, fD, uD (P' := P) (U' := U) fun x hx => ⟨rfl, qW _ _ (by rintro rfl; exact (List.Nodup.not_mem_erase h1) hx)⟩]
    exact H.of_eq (by ac_rfl)
end
def uf (t : Int → Option ByteArray) : Int → Option Value := fun k => (t k).map .string
def IB (pb pr pw pt pm : Nat) (c : jU) : HP := dJ pb c.L c.pt c.mark • bY pr c.E c.at_ • dh pw (.cells #[.int .i64 c.place, .map (some pt)] 85 (0, 0)) • dW nK pt (uf c.tx) • ru pm c.un
def JH (pb pr pw pm : Nat) (c : jU) : List Value := [.pointer (some ⟨pb, 0, none⟩), .pointer (some ⟨pr, 0, none⟩), .pointer (some ⟨pw, 0, none⟩), .map (some pm), .int .i64 c.mode, .bool c.over, .int .i64 c.last, .int .i64 c.fr, .int .i64 c.to, .int .i64 c.res, .bool c.run]
def oP (inn : Bool) (c : jU) (u : List Value) : HP := if inn = true then qo fun (x : Nat × Nat × Nat × Nat × Nat) => fact (u = JH x.1 x.2.1 x.2.2.1 x.2.2.2.2 c) • IB x.1 x.2.1 x.2.2.1 x.2.2.2.1 x.2.2.2.2 c else (fact ((u.all fun x => x.oneCell') = true))
def IC (hl : List nS) (c : jU) : Prop := 0 ≤ c.place ∧ c.place ≤ hl.length ∧ (∀ k t, c.tx k = some t → t.size ≤ 16384)
def sD (e : dQ) : Prop := 0 ≤ e.1 ∧ 0 < e.2.1.length + e.2.2.length ∧ e.2.1.length ≤ 1024 ∧ e.2.2.length ≤ 1024
def jq (s : bD) : Prop := IC s.hl s.c ∧ (s.inn = true → IC s.hl s.was ∧ dO (s.was.un s.was.place) [] ≤ 16384 ∧ ∀ k, ∀ g ∈ s.was.un k, ∀ e ∈ g, sD e) ∧ (-1 ≤ s.arg ∧ s.arg ≤ 1000000) ∧ (∀ e ∈ s.put, sD e) ∧ dO s.here s.put ≤ 16384 ∧ (∀ k, ∀ g ∈ s.c.un k, ∀ e ∈ g, sD e)
structure EdP where
  pb : Nat
  pr : Nat
  pw : Nat
  pt : Nat
  pm : Nat
  ph : Nat
  bl : Nat
  pv : Value
  es : List bZ
  u0 : Value
  u1 : Value
  u2 : Value
  u3 : Value
  u4 : Value
  u5 : Value
  u6 : Value
  u7 : Value
  u8 : Value
  u9 : Value
  ua : Value
def VT (e : Nat) (s : bD) (M : Nat → HP) : HP := qo fun (x : EdP) => fact (jq s ∧ x.es.map bZ.says = s.put) •
  dh e (.cells (.pointer (some ⟨x.pb, 0, none⟩) :: .pointer (some ⟨x.pr, 0, none⟩) :: .pointer (some ⟨x.pw, 0, none⟩) :: .map (some x.pm) :: .int .i64 s.c.mode :: .bool s.c.over :: .int .i64 s.c.last :: .int .i64 s.c.fr :: .int .i64 s.c.to :: .int .i64 s.c.res :: .bool s.c.run :: .pointer (some ⟨x.ph, 0, none⟩) :: .pointer (some ⟨x.bl, 0, none⟩) :: .bool s.given :: .bool s.minus :: .int .i64 s.arg :: .bool s.inn :: x.u0 :: x.u1 :: x.u2 :: x.u3 :: x.u4 :: x.u5 :: x.u6 :: x.u7 :: x.u8 :: x.u9 :: x.ua :: .int .i64 s.cls :: .bool s.killed :: .bool s.jY :: .bool s.argues :: .bool s.whole :: x.pv :: []).toArray 37 (0, 0)) •
  dJ x.pb s.c.L s.c.pt s.c.mark • bY x.pr s.c.E s.c.at_ • dh x.pw (.cells #[.int .i64 s.c.place, .map (some x.pt)] 85 (0, 0)) • dW nK x.pt (uf s.c.tx) • M x.pm •
  dY x.ph s.hl s.base s.most • dh x.bl (.cells #[.int .i64 s.tZ] 106 (0, 0)) • Row 101 3 x.pv s.put.length (x.es.flatMap bZ.enc) • iL x.es • oP s.inn s.was [x.u0, x.u1, x.u2, x.u3, x.u4, x.u5, x.u6, x.u7, x.u8, x.u9, x.ua]
def dw (e : Nat) (s : bD) : HP := VT e s fun pm => ru pm s.c.un
def Xo (e : Nat) (s : bD) (p : Nat) : HP := VT e s fun pm => Dw pm s.c.un s.c.place p
section
variable {w0 w : World} {F : HP} {e : Nat} {s : bD} {M : Nat → HP}
theorem aB.edG (H : aB w0 w (VT e s M • F)) : ∃ pb pr pw pt pm ph bl pv es u0 u1 u2 u3 u4 u5 u6 u7 u8 u9 ua, jq s ∧ es.map bZ.says = s.put ∧ es.length = s.put.length ∧ aB w0 w (
  dh e (.cells (.pointer (some ⟨pb, 0, none⟩) :: .pointer (some ⟨pr, 0, none⟩) :: .pointer (some ⟨pw, 0, none⟩) :: .map (some pm) :: .int .i64 s.c.mode :: .bool s.c.over :: .int .i64 s.c.last :: .int .i64 s.c.fr :: .int .i64 s.c.to :: .int .i64 s.c.res :: .bool s.c.run :: .pointer (some ⟨ph, 0, none⟩) :: .pointer (some ⟨bl, 0, none⟩) :: .bool s.given :: .bool s.minus :: .int .i64 s.arg :: .bool s.inn :: u0 :: u1 :: u2 :: u3 :: u4 :: u5 :: u6 :: u7 :: u8 :: u9 :: ua :: .int .i64 s.cls :: .bool s.killed :: .bool s.jY :: .bool s.argues :: .bool s.whole :: pv :: []).toArray 37 (0, 0)) •
  dJ pb s.c.L s.c.pt s.c.mark • bY pr s.c.E s.c.at_ • dh pw (.cells #[.int .i64 s.c.place, .map (some pt)] 85 (0, 0)) • dW nK pt (uf s.c.tx) • M pm •
  dY ph s.hl s.base s.most • dh bl (.cells #[.int .i64 s.tZ] 106 (0, 0)) • Row 101 3 pv s.put.length (es.flatMap bZ.enc) • iL es • oP s.inn s.was [u0, u1, u2, u3, u4, u5, u6, u7, u8, u9, ua] • F) := by
  obtain ⟨⟨pb, pr, pw, pt, pm, ph, bl, pv, es, u0, u1, u2, u3, u4, u5, u6, u7, u8, u9, ua⟩, H⟩ := H.kH
  obtain ⟨⟨h1, h2⟩, H⟩ := H.flat.fact
  refine ⟨pb, pr, pw, pt, pm, ph, bl, pv, es, u0, u1, u2, u3, u4, u5, u6, u7, u8, u9, ua, h1, h2, ?_, ?_⟩
  · rw [← h2]; simp
  · dsimp only at H
    exact H.of_eq (by simp only [bQ])
theorem aB.RU {pb pr pw pt pm ph bl : Nat} {pv : Value} {es : List bZ} {u0 u1 u2 u3 u4 u5 u6 u7 u8 u9 ua : Value} (h1 : jq s) (h2 : es.map bZ.says = s.put) (H : aB w0 w (
  dh e (.cells (.pointer (some ⟨pb, 0, none⟩) :: .pointer (some ⟨pr, 0, none⟩) :: .pointer (some ⟨pw, 0, none⟩) :: .map (some pm) :: .int .i64 s.c.mode :: .bool s.c.over :: .int .i64 s.c.last :: .int .i64 s.c.fr :: .int .i64 s.c.to :: .int .i64 s.c.res :: .bool s.c.run :: .pointer (some ⟨ph, 0, none⟩) :: .pointer (some ⟨bl, 0, none⟩) :: .bool s.given :: .bool s.minus :: .int .i64 s.arg :: .bool s.inn :: u0 :: u1 :: u2 :: u3 :: u4 :: u5 :: u6 :: u7 :: u8 :: u9 :: ua :: .int .i64 s.cls :: .bool s.killed :: .bool s.jY :: .bool s.argues :: .bool s.whole :: pv :: []).toArray 37 (0, 0)) •
  dJ pb s.c.L s.c.pt s.c.mark • bY pr s.c.E s.c.at_ • dh pw (.cells #[.int .i64 s.c.place, .map (some pt)] 85 (0, 0)) • dW nK pt (uf s.c.tx) • M pm •
  dY ph s.hl s.base s.most • dh bl (.cells #[.int .i64 s.tZ] 106 (0, 0)) • Row 101 3 pv s.put.length (es.flatMap bZ.enc) • iL es • oP s.inn s.was [u0, u1, u2, u3, u4, u5, u6, u7, u8, u9, ua] • F)) : aB w0 w (VT e s M • F) :=
  aB.gy ⟨pb, pr, pw, pt, pm, ph, bl, pv, es, u0, u1, u2, u3, u4, u5, u6, u7, u8, u9, ua⟩ (aB.deep (aB.je ⟨h1, h2⟩ (H.of_eq (by simp only [bQ]))))
theorem aB.dF {pb pr pw pt pm ph bl : Nat} {pv : Value} {es : List bZ} {u0 u1 u2 u3 u4 u5 u6 u7 u8 u9 ua : Value} (h1 : jq s) (h2 : es.map bZ.says = s.put) (H : aB w0 w (
  dh e (.cells (.pointer (some ⟨pb, 0, none⟩) :: .pointer (some ⟨pr, 0, none⟩) :: .pointer (some ⟨pw, 0, none⟩) :: .map (some pm) :: .int .i64 s.c.mode :: .bool s.c.over :: .int .i64 s.c.last :: .int .i64 s.c.fr :: .int .i64 s.c.to :: .int .i64 s.c.res :: .bool s.c.run :: .pointer (some ⟨ph, 0, none⟩) :: .pointer (some ⟨bl, 0, none⟩) :: .bool s.given :: .bool s.minus :: .int .i64 s.arg :: .bool s.inn :: u0 :: u1 :: u2 :: u3 :: u4 :: u5 :: u6 :: u7 :: u8 :: u9 :: ua :: .int .i64 s.cls :: .bool s.killed :: .bool s.jY :: .bool s.argues :: .bool s.whole :: pv :: []).toArray 37 (0, 0)) •
  dJ pb s.c.L s.c.pt s.c.mark • bY pr s.c.E s.c.at_ • dh pw (.cells #[.int .i64 s.c.place, .map (some pt)] 85 (0, 0)) • dW nK pt (uf s.c.tx) • ru pm s.c.un •
  dY ph s.hl s.base s.most • dh bl (.cells #[.int .i64 s.tZ] 106 (0, 0)) • Row 101 3 pv s.put.length (es.flatMap bZ.enc) • iL es • oP s.inn s.was [u0, u1, u2, u3, u4, u5, u6, u7, u8, u9, ua] • F)) : aB w0 w (dw e s • F) := aB.RU (M := fun pm => ru pm s.c.un) h1 h2 H
theorem aB.zy (H : aB w0 w (dw e s • F)) : ∃ pb pr pw pt pm ph bl pv es u0 u1 u2 u3 u4 u5 u6 u7 u8 u9 ua, jq s ∧ es.map bZ.says = s.put ∧ es.length = s.put.length ∧ aB w0 w (
  dh e (.cells (.pointer (some ⟨pb, 0, none⟩) :: .pointer (some ⟨pr, 0, none⟩) :: .pointer (some ⟨pw, 0, none⟩) :: .map (some pm) :: .int .i64 s.c.mode :: .bool s.c.over :: .int .i64 s.c.last :: .int .i64 s.c.fr :: .int .i64 s.c.to :: .int .i64 s.c.res :: .bool s.c.run :: .pointer (some ⟨ph, 0, none⟩) :: .pointer (some ⟨bl, 0, none⟩) :: .bool s.given :: .bool s.minus :: .int .i64 s.arg :: .bool s.inn :: u0 :: u1 :: u2 :: u3 :: u4 :: u5 :: u6 :: u7 :: u8 :: u9 :: ua :: .int .i64 s.cls :: .bool s.killed :: .bool s.jY :: .bool s.argues :: .bool s.whole :: pv :: []).toArray 37 (0, 0)) •
  dJ pb s.c.L s.c.pt s.c.mark • bY pr s.c.E s.c.at_ • dh pw (.cells #[.int .i64 s.c.place, .map (some pt)] 85 (0, 0)) • dW nK pt (uf s.c.tx) • ru pm s.c.un •
  dY ph s.hl s.base s.most • dh bl (.cells #[.int .i64 s.tZ] 106 (0, 0)) • Row 101 3 pv s.put.length (es.flatMap bZ.enc) • iL es • oP s.inn s.was [u0, u1, u2, u3, u4, u5, u6, u7, u8, u9, ua] • F) := H.edG
end
end Go.Proofs.YtgndbccogcofjaaGreatDoor
end
section
namespace Go.Proofs.YtgndbccogcofjaaGreatDoor
open Go.RowKit
open _root_.Go.Proofs.Tryz
def Gi {β : Type} (f : Int → Option β) (S : List Int) : Int → Option β := fun k => if k ∈ S then f k else none
theorem Nv {β : Type} (f : Int → Option β) : Gi f [] = fun _ => none := by funext k; simp [Gi]
theorem KR {β : Type} {f : Int → Option β} {S : List Int} {a : Int} {u : β} (h : f a = some u) : Gi f (S ++ [a]) = upd (Gi f S) a u := by
  funext k
  unfold Gi upd
  by_cases hk : k = a
  · subst hk; simp [h]
  · simp [hk]
theorem Nw {β : Type} {f : Int → Option β} {S : List Int} (h : ∀ a u, f a = some u → a ∈ S) : Gi f S = f := by
  funext k
  unfold Gi
  split
  · rfl
  · rename_i hk
    cases hf : f k with
    | none => rfl
    | some u => exact absurd (h k u hf) hk
theorem JI (P : Int → Nat) : Gh [] P = fun _ => none := by funext k; simp [Gh]
theorem Ny {D : List Int} {P : Int → Nat} {a : Int} {u : Value} (h : Gh D P a = some u) : a ∈ D ∧ u = .pointer (some ⟨P a, 0, none⟩) := by
  unfold Gh at h
  split at h
  · rename_i hm; exact ⟨hm, by cases h; rfl⟩
  · cases h
theorem Gj {S : List Int} {P : Int → Nat} {a : Int} {q : Nat} (h : a ∉ S) : Gh (S ++ [a]) (uO P a q) = upd (Gh S P) a (.pointer (some ⟨q, 0, none⟩)) := by
  funext k
  unfold Gh upd uO
  by_cases hk : k = a
  · subst hk; simp
  · simp [hk]
theorem Bg {P : Int → Nat} {U : Int → List (List dQ)} {a : Int} : ∀ {S : List Int}, yQ P U (S ++ [a]) = (yQ P U S • dN (P a) (U a) [] 0)
  | [] => by show (dN (P a) (U a) [] 0 • emp) = (emp • dN (P a) (U a) [] 0); rw [ou, iO]
  | x :: S => by
    show (dN (P x) (U x) [] 0 • yQ P U (S ++ [a])) = ((dN (P x) (U x) [] 0 • yQ P U S) • dN (P a) (U a) [] 0)
    rw [Bg, bQ]
theorem Dx {α : Type} {o : Option α} (h : ¬ o.isSome = true) : o = none := by cases o <;> simp_all
theorem Bh {S : List Int} {a : Int} (h : S.Nodup) (ha : a ∉ S) : (S ++ [a]).Nodup := by
  rw [List.nodup_append]
  exact ⟨h, by simp, by intro x hx y hy; rw [List.mem_singleton.1 hy]; rintro rfl; exact ha hx⟩
section
variable {w0 w : World} {F : HP} {pb pr pw pt pm : Nat} {c : jU}
theorem Gl (H : aB w0 w (dJ pb c.L c.pt c.mark • bY pr c.E c.at_ • dh pw (.cells #[.int .i64 c.place, .map (some pt)] 85 (0, 0)) • dW nK pt (uf c.tx) • ru pm c.un • F)) :
  eG prog 44 #[.agg #[.pointer (some ⟨pb, 0, none⟩), .pointer (some ⟨pr, 0, none⟩), .pointer (some ⟨pw, 0, none⟩), .map (some pm), .int .i64 c.mode, .bool c.over, .int .i64 c.last, .int .i64 c.fr, .int .i64 c.to, .int .i64 c.res, .bool c.run]] w fun v w' =>
   ∃ qb qr qw qt qm, v = .agg #[.pointer (some ⟨qb, 0, none⟩), .pointer (some ⟨qr, 0, none⟩), .pointer (some ⟨qw, 0, none⟩), .map (some qm), .int .i64 c.mode, .bool c.over, .int .i64 c.last, .int .i64 c.fr, .int .i64 c.to, .int .i64 c.res, .bool c.run] ∧
    aB w0 w' (dJ qb c.L c.pt c.mark • bY qr c.E c.at_ • dh qw (.cells #[.int .i64 c.place, .map (some qt)] 85 (0, 0)) • dW nK qt (uf c.tx) • ru qm c.un •
     dJ pb c.L c.pt c.mark • bY pr c.E c.at_ • dh pw (.cells #[.int .i64 c.place, .map (some pt)] 85 (0, 0)) • dW nK pt (uf c.tx) • ru pm c.un • F) := by
 refine fP func44 ntmps44 ?_
 dsimp only [aX, Nat.reduceAdd]
 refine ay (ah (jo (gV (l := [_, _, _, _, _, _, _, _, _, _, _]) H rfl rfl) ?_))
 rintro _ w1 ⟨b1, rfl, H1⟩
 refine jo (fJ (l := [_, _, _, _, _, _, _, _, _, _, _]) H1 zeroValue32 rfl) ?_
 rintro _ w2 ⟨b2, rfl, H2⟩
 refine aA (aj (ay ?_))
 have MK := H2.drew
 have qP := aB.kp (MK.f7.f7.f7.f7.f7.f7.f7)
 refine xJ [1, 4] qP rfl (fU 0 rfl qP 0 underlying32 rfl sizeOf27 rfl (iV 1 rfl qP (fun W hW => jr underlying27 rfl ((Kp.h hW).f2).get.2 rfl) (fU 3 rfl qP 1 underlying32 rfl sizeOf28 rfl (iV 4 rfl qP (fun W hW => jr underlying28 rfl ((Kp.h hW).f2).get.2 rfl) (jB 2 rfl (vK rfl func115 (BQ MK.f3)) ?_)))))
 rintro _ w3 ⟨q3, rfl, H3⟩
 have Cj := aB.kp (H3.f8.f8.f8.f8.f8.f8.f8.f8)
 refine dM Cj (fun W hW => (Kp.h hW).right.f7.f7.f7.f7.f5.f7.f7) ?_
 refine fU 6 rfl Cj 0 underlying32 rfl sizeOf27 rfl (jB 5 rfl (vK rfl func99 (Aq H3.f5)) ?_)
 rintro _ w4 ⟨pc4, rfl, H4⟩
 have uN := aB.kp (H4.f9.f9.f9.f9.f9.f9.f9.f9.f9)
 refine eX uN (by kernel_rfl) ?_
 refine eP 7 rfl (by kernel_rfl) (aN 0 (l' := [_, _, _, _, _, _, _, _, _, _, _]) H4.f6 sizeOf27 rfl rfl (by first | rfl | assumption) rfl rfl) ?_
 rintro _ w5 H5
 have Iq := aB.kp (H5.f9.f9.f9.f9.f9.f9.f9.f9.f9)
 refine eX Iq (by kernel_rfl) ?_
 refine fU 8 rfl Iq 1 underlying32 rfl sizeOf28 rfl ?_
 refine eP 9 rfl (by kernel_rfl) (aN 1 (l' := [_, _, _, _, _, _, _, _, _, _, _]) H5 sizeOf28 rfl rfl (by first | rfl | assumption) rfl rfl) ?_
 rintro _ w6 H6
 have Gm := aB.kp (H6.f9.f9.f9.f9.f9.f9.f9.f9.f9)
 refine eX Gm (by kernel_rfl) ?_
 refine oV (aj (ay (ah (aZ 2 underlying32 rfl sizeOf29 rfl (dP underlying29 rfl (H6).get.2 rfl (bK rfl (aZ 0 underlying85 rfl sizeOf3 rfl (dP underlying3 rfl (H6.f7).get.2 rfl (jo (gB (uM .i64) H6) ?_)))))))))
 rintro _ w7 ⟨b7, rfl, H7⟩
 refine aW (dS (pl := #[(0, 1), (1, 1)]) (#[_, _]) underlying85 zeroValue85 (fun w => by kernel_rfl) rfl (rfl)) (jo (gV (l := [_, _]) H7 rfl rfl) ?_)
 rintro _ w8 ⟨b8, rfl, H8⟩
 refine aV rfl (aA (aj (ay (ay (ah (aZ 2 underlying32 rfl sizeOf29 rfl (dP underlying29 rfl (H8.f3).get.2 rfl (bK rfl (aZ 1 underlying85 rfl sizeOf83 rfl (dP underlying83 rfl (H8.f9).get.2 rfl (jo (yK H8.f10 underlying83 rfl) ?_)))))))))))
 rintro _ w9 ⟨it9, mi, rfl, H9⟩
 refine aA (aj (bg ?_))
 obtain ⟨R10, Xp, Xq⟩ := aB.CP (H9.f2.f3.f3)
 have HX0 := Xq
 rw [← Nv (uf c.tx)] at HX0
 refine ig [(1, _), (2, _), (3, _), (30, _)] (fun (⟨S, n⟩ : List Int × Nat) => []) (fun (⟨S, n⟩ : List Int × Nat) W => aB w0 W (wO nK pt it9 (uf c.tx) S n • dW nK b7 (Gi (uf c.tx) S) • dh b8 (.cells #[.int .i64 c.place, .map (some b7)] 85 (0, 0)) • R10)) (fun (⟨S, n⟩ : List Int × Nat) => n) (([], _)) (Sub.cons rfl (Sub.cons rfl (Sub.cons rfl (Sub.cons rfl (Sub.nil _))))) (Sub.nil _) HX0 ?_
 rintro ⟨S, n⟩ Ht HL
 dsimp only [List.cons_append, List.nil_append]
 refine ay (ah (jo (zY HL rfl) ?_))
 rintro _ w12 ⟨ox, Sx, mx, rfl, UU, vM⟩
 refine aW (Qg rfl) (aA (aj (ay (aQ rfl (fun h1 => ?_) (fun h1 => ?_)))))
 ·(try simp only [aI] at h1)
  try (exfalso; first | contradiction | omega)
  all_goals
   obtain ⟨⟨a, u⟩, rfl⟩ := Option.isSome_iff_exists.1 h1
   obtain ⟨ha, hns, hlt, rfl⟩ := UU
   refine aS (aj (bg (ay (ah ?_))))
   refine aW (Js (vM) (by assumption) rfl) ?_
   refine CW rfl rfl (CW rfl rfl (aV rfl (aV rfl (aA (aj (ah (aO rfl (bK rfl (aZ 1 underlying85 rfl sizeOf83 rfl (dP underlying83 rfl (vM.f3).get.2 rfl (aO rfl (aO rfl (aG (pW vM.f2 underlying83 underlying3 rfl rfl rfl) ?_)))))))))))))
   rintro _ Me uX
   refine aA (aP ?_)
   have hres := KR (S := S) ha
   refine fA ((S ++ [a], mx)) ?_ ?_ ?_ ?_
   ·exact (Sub.nil _)
   ·exact (Sub.cons rfl (Sub.cons rfl (Sub.cons rfl (Sub.cons rfl (Sub.nil _)))))
   ·(try dsimp only)
    first | done | exact (by rw [hres]; exact uX.f3.f2.f3)
   ·(try dsimp only); omega
 ·(try simp only [aI] at h1)
  try (exfalso; first | contradiction | omega)
  all_goals
   obtain rfl := Dx (o := ox) (by simp [h1])
   obtain ⟨rfl, rfl, hall⟩ := UU
   refine fH (aY ?_)
   have HX := vM.f3.f2.f3
   rw [Nw hall] at HX
   have Xt := HX.f2
   have Xu := Xt.Di
   subst Xp
   refine aY (bV (aj (ay (ah (aO rfl (aZ 2 underlying32 rfl sizeOf29 rfl (aG (aN 2 (l' := [_, _, _, _, _, _, _, _, _, _, _]) Xu.f4 sizeOf29 rfl rfl (by first | rfl | assumption) rfl rfl) ?_)))))))
   rintro _ w16 rP
   refine aA (aj (ay (ah (jo (gB (uM .i64) rP) ?_))))
   rintro _ Tc ⟨b17, rfl, D7⟩
   refine aV rfl (aA (aj (ay (ay ?_))))
   obtain ⟨D, P, hD1, hD2, HU⟩ := (D7.f12).UR
   refine ah (aZ 3 underlying32 rfl sizeOf30 rfl (dP underlying30 rfl (HU.f4).get.2 rfl (jo (yK HU underlying30 rfl) ?_)))
   rintro _ Qc ⟨Xv, mi, rfl, C9⟩
   refine aA (aj (bg ?_))
   obtain ⟨R19, Xw, Xx⟩ := aB.CP (C9.f3.f3.f3)
   have HX0 := Xx
   rw [← JI P] at HX0
   refine ig [(1, _), (2, _), (6, _), (47, _)] (fun (⟨S, n, P2⟩ : List Int × Nat × (Int → Nat)) => []) (fun (⟨S, n, P2⟩ : List Int × Nat × (Int → Nat)) W => S.Nodup ∧ aB w0 W (wO nK pm Xv (Gh D P) S n • yQ P c.un D • dW nK b17 (Gh S P2) • yQ P2 c.un S • R19)) (fun (⟨S, n, P2⟩ : List Int × Nat × (Int → Nat)) => n) (([], _, P)) (Sub.cons rfl (Sub.cons rfl (Sub.cons rfl (Sub.cons rfl (Sub.nil _))))) (Sub.nil _) ⟨List.nodup_nil, (HX0).of_eq (by show _ = (_ • _ • _ • emp • _); rw [iO])⟩ ?_
   rintro ⟨S, n, P2⟩ Qd ⟨hS, HL⟩
   dsimp only [List.cons_append, List.nil_append]
   refine ay (ah (jo (zY HL rfl) ?_))
   rintro _ Rf ⟨ox, Sx, mx, rfl, UU, nY⟩
   refine aW (Qg rfl) (aA (aj (ay (aQ rfl (fun h2 => ?_) (fun h2 => ?_)))))
   ·(try simp only [aI] at h2)
    try (exfalso; first | contradiction | omega)
    all_goals
     obtain ⟨⟨a, u⟩, rfl⟩ := Option.isSome_iff_exists.1 h2
     obtain ⟨ha, hns, hlt, rfl⟩ := UU
     obtain ⟨hmem, rfl⟩ := Ny ha
     have HF := nY.f2
     rw [qZ hmem] at HF
     have HF2 := HF.flat
     refine aS (aj (bg (ay (ah ?_))))
     refine aW (Js (HF2.f3) (by assumption) rfl) ?_
     refine CW rfl rfl (CW rfl rfl (aV rfl (aV rfl (aA (aj (ah (aO rfl (aO rfl (aO rfl (dn rfl func116 (AX HF2) ?_))))))))))
     rintro _ VG ⟨q22, rfl, Fh⟩
     refine aG (pW Fh.f5 underlying30 underlying3 rfl rfl rfl) ?_
     rintro _ Qi xC
     refine aA (aP ?_)
     have HQ := xC.f2.f6.f3.f5.f5.f6
     have hu1 : yQ (uO P2 a q22) c.un (S ++ [a]) = (yQ P2 c.un S • dN q22 (c.un a) [] 0) := by
      rw [Bg, fD, uD (P' := P2) (U' := c.un) fun x hx => ⟨qW _ _ (by rintro rfl; exact hns hx), rfl⟩]
     refine fA ((S ++ [a], mx, uO P2 a q22)) ?_ ?_ ?_ ?_
     ·exact (Sub.nil _)
     ·exact (Sub.cons rfl (Sub.cons rfl (Sub.cons rfl (Sub.cons rfl (Sub.nil _)))))
     ·(try dsimp only)
      first | done | exact ⟨Bh hS hns, HQ.of_eq (by rw [qZ hmem, hu1, Gj hns]; ac_rfl)⟩
     ·(try dsimp only); omega
   ·(try simp only [aI] at h2)
    try (exfalso; first | contradiction | omega)
    all_goals
     obtain rfl := Dx (o := ox) (by simp [h2])
     obtain ⟨rfl, rfl, hall⟩ := UU
     refine fH (aY ?_)
     have Xy := nY
     have Xz := Xy.Di
     subst Xw
     have XA := Xz.f2.f2
     have XB := aB.zx hD1 hD2 XA
     have hnS : ∀ k, k ∉ Sx → c.un k = [] := fun k hk => hD2 k fun hkD => hk (hall k _ (if_pos hkD))
     have XC := XB.f3.f3
     have XD := aB.zx hS hnS XC
     refine aY (bV (aj (ay (ah (aO rfl (aZ 3 underlying32 rfl sizeOf30 rfl (aG (aN 3 (l' := [_, _, _, _, _, _, _, _, _, _, _]) XD.f3 sizeOf30 rfl rfl (by first | rfl | assumption) rfl rfl) ?_)))))))
     rintro _ Wp MC
     refine aA (aj (ay (ah (aW (bW underlying32 rfl sizeOf32 rfl rfl (MC).get.2) (aG (cO 0 (l' := [_, _, _, _, _, _, _, _, _, _, _]) (us := [_, _, _, _, _, _, _, _, _, _, _]) MC.f11 sizeOf32 rfl rfl rfl (aC (by first | rfl | assumption) (aC (by first | rfl | assumption) (aC (by first | rfl | assumption) (aC (by first | rfl | assumption) (aC (by first | rfl | assumption) (aC (by first | rfl | assumption) (aC (by first | rfl | assumption) (aC (by first | rfl | assumption) (aC (by first | rfl | assumption) (aC (by first | rfl | assumption) (aC (by first | rfl | assumption) bP))))))))))) rfl rfl) ?_)))))
     rintro _ Uj Hu
     refine aA (aj (aJ ?_))
     refine rH (.inl rfl) (LV results44 rfl underlying32 rfl (by rw [show (prog.info? 32).map (·.size) = some 11 from by kernel_rfl]; rfl) (Hu).get.2) ?_
     exact ⟨_, _, _, _, _, rfl, Hu.right.right.f2.f3.f10.f8.f10.f6.f7.f8.f9.f10⟩
end
end Go.Proofs.YtgndbccogcofjaaGreatDoor
end
section
namespace Go.Proofs.YtgndbccogcofjaaGreatDoor
open Go.RowKit
open _root_.Go.Proofs.Tryz
def IE (D : List Int) (P : Int → Nat) (k : Int) : Option Addr := if k ∈ D then some ⟨P k, 0, none⟩ else none
theorem Pv (D : List Int) (P : Int → Nat) (k : Int) : (Gh D P k).getD (.pointer none) = .pointer (IE D P k) := by unfold Gh IE; split <;> rfl
theorem Nz {D : List Int} {P : Int → Nat} {k : Int} (h : k ∈ D) : IE D P k = some ⟨P k, 0, none⟩ := if_pos h
theorem KT {D : List Int} {P : Int → Nat} {k : Int} (h : (IE D P k).isNone = false) : k ∈ D := by
  unfold IE at h
  split at h
  · assumption
  · cases h
theorem KU {D : List Int} {P : Int → Nat} {k : Int} (h : (IE D P k).isNone = true) : k ∉ D := by
  unfold IE at h
  split at h
  · cases h
  · assumption
theorem xq {s : bD} (h : ¬ s.qX = 0) : s.inn = false ∧ s.qX = 1 := by
  unfold bD.qX at *
  cases hi : s.inn <;> simp_all
theorem ug {s : bD} (h : s.qX = 0) : s.inn = true := by
  unfold bD.qX at h
  cases hi : s.inn <;> simp_all
theorem aB.XE {w0 w : World} {A B C F : HP} (H : aB w0 w (A • B • C • F)) : aB w0 w (A • (B • C) • F) := H.of_eq (by rw [bQ])
section
variable {w0 w : World} {F : HP} {e p : Nat} {s : bD}
theorem jJ (H : aB w0 w (dw e s • F)) : eG prog 32 #[.pointer (some ⟨e, 0, none⟩)] w fun v w' => v = .bool false ∧ w = w' := by
 refine fP func32 ntmps32 ?_
 dsimp only [aX, Nat.reduceAdd]
 refine ay (ah (aV rfl (aA (aj (ay ?_)))))
 obtain ⟨oW, oZ, pq, pz, pF, pG, pI, pJ, nO, lQ, lS, lT, lU, lV, lW, lX, lY, lZ, mg, mD, dD, bF, fK, dG⟩ := (H).zy
 refine ah (aO rfl (aW (fO underlying26 rfl rfl) (fV rfl (fun h1 => ?_) (fun h1 => ?_))))
 ·(try simp only [aI] at h1)
  try (exfalso; first | contradiction | omega)
  all_goals
   refine bC (bC (bC (bC (bC (fG rfl rfl (aV rfl (aA (aj (aJ (aH (.inl rfl) results32 rfl ?_))))))))))
   exact ⟨rfl, rfl⟩
 ·(try simp only [aI] at h1)
  try (exfalso; first | contradiction | omega)
  all_goals
   refine bf (aO rfl (bf (bK rfl (bf (aZ 11 underlying37 rfl sizeOf33 rfl (bf (dP underlying33 rfl (dG).get.2 rfl (bf (aW (fO underlying33 rfl rfl) (eY rfl rfl (aV rfl (aA (aj (aJ (aH (.inl rfl) results32 rfl ?_)))))))))))))))
   exact ⟨rfl, rfl⟩
theorem jd (H : aB w0 w (dw e s • F)) : eG prog 94 #[.pointer (some ⟨e, 0, none⟩)] w fun v w' => v = .int .i64 s.qX ∧ w = w' := by
 unfold bD.qX
 refine fP func94 ntmps94 ?_
 dsimp only [aX, Nat.reduceAdd]
 refine ay (ah (aV rfl (aA (aj (ay (bg (ay (ah (aO rfl (dn rfl func32 (jJ H) ?_))))))))))
 rintro _ _ ⟨rfl, rfl⟩
 refine aV rfl (aA (aj (nV (ay ?_))))
 obtain ⟨oW, oZ, pq, pz, pF, pG, pI, pJ, nO, lQ, lS, lT, lU, lV, lW, lX, lY, lZ, mg, mD, dD, bF, fK, dG⟩ := (H).zy
 refine ah (aO rfl (bK rfl (aZ 16 underlying37 rfl sizeOf4 rfl (dP underlying4 rfl (dG).get.2 rfl (aW (kC rfl) (aV rfl (aA (aj (aQ rfl (fun h1 => ?_) (fun h1 => ?_))))))))))
 ·(try simp only [aI] at h1)
  try (exfalso; first | contradiction | omega)
  all_goals
   refine ay (ah (aV rfl (aA (aj (aJ (aU (aK (aH (.inl rfl) results94 rfl ?_))))))))
   exact ⟨by simp [*], rfl⟩
 ·(try simp only [aI] at h1)
  try (exfalso; first | contradiction | omega)
  all_goals
   refine aS (aP (aj (ay (ah (aV rfl (aA (aj (aJ (aH (.inl rfl) results94 rfl ?_)))))))))
   exact ⟨by simp [*], rfl⟩
theorem uh {x0 x1 x4 x5 x6 x7 x8 x9 x10 x11 x12 VU x14 x15 x16 x17 x18 x19 x20 x21 UW x23 x24 x25 UY x27 x28 x29 x30 x31 x32 UZ : Value} {pw pt pm : Nat} {k : Int} {U : Int → List (List dQ)} (H : aB w0 w (dh e (.cells (x0 :: x1 :: .pointer (some ⟨pw, 0, none⟩) :: .map (some pm) :: x4 :: x5 :: x6 :: x7 :: x8 :: x9 :: x10 :: x11 :: x12 :: VU :: x14 :: x15 :: x16 :: x17 :: x18 :: x19 :: x20 :: x21 :: UW :: x23 :: x24 :: x25 :: UY :: x27 :: x28 :: x29 :: x30 :: x31 :: x32 :: UZ :: []).toArray 37 (0, 0)) • dh pw (.cells #[.int .i64 k, .map (some pt)] 85 (0, 0)) • ru pm U • F)) : eG prog 160 #[.pointer (some ⟨e, 0, none⟩)] w fun v w' => ∃ p, v = .pointer (some ⟨p, 0, none⟩) ∧
  aB w0 w' (dN p (U k) [] 0 • Dw pm U k p • dh e (.cells (x0 :: x1 :: .pointer (some ⟨pw, 0, none⟩) :: .map (some pm) :: x4 :: x5 :: x6 :: x7 :: x8 :: x9 :: x10 :: x11 :: x12 :: VU :: x14 :: x15 :: x16 :: x17 :: x18 :: x19 :: x20 :: x21 :: UW :: x23 :: x24 :: x25 :: UY :: x27 :: x28 :: x29 :: x30 :: x31 :: x32 :: UZ :: []).toArray 37 (0, 0)) • dh pw (.cells #[.int .i64 k, .map (some pt)] 85 (0, 0)) • F) := by
 refine fP func160 ntmps160 ?_
 dsimp only [aX, Nat.reduceAdd]
 refine ay (ah (aV rfl (aA (aj (ay ?_)))))
 obtain ⟨D, P, hD1, hD2, HU⟩ := (H.f3).UR
 have RV := HU.drew
 have oq := aB.kp (RV.f4.f4.f4.f4)
 refine xJ [4, 9, 12, 13] oq rfl (iq 0 rfl oq rfl (jv 1 rfl oq rfl (fU 2 rfl oq 0 underlying37 rfl sizeOf32 rfl (fU 3 rfl oq 3 underlying32 rfl sizeOf30 rfl (iV 4 rfl oq (fun W hW => jr underlying30 rfl ((Kp.h hW).f3).get.2 rfl) (iq 5 rfl oq rfl (jv 6 rfl oq rfl (fU 7 rfl oq 0 underlying37 rfl sizeOf32 rfl (fU 8 rfl oq 2 underlying32 rfl sizeOf29 rfl (iV 9 rfl oq (fun W hW => jr underlying29 rfl ((Kp.h hW).f3).get.2 rfl) (jv 10 rfl oq rfl (fU 11 rfl oq 0 underlying85 rfl sizeOf3 rfl (iV 12 rfl oq (fun W hW => jr underlying3 rfl ((Kp.h hW).f4).get.2 rfl) (iV 13 rfl oq (fun W hW => V5 (zW ((Kp.h hW)) underlying30 underlying3 zeroValue117 rfl rfl) (Pv D P k)) (iU 14 rfl oq (fun _ => fZ rfl) (oV (aj (ay (ay (ah (aO rfl (aW (fO underlying117 rfl rfl) (aA (aj (aQ rfl (fun h1 => ?_) (fun h1 => ?_))))))))))))))))))))))))))
 ·(try simp only [aI] at h1)
  try (exfalso; first | contradiction | omega)
  all_goals
   have hnm := KU h1
   refine ay (ah (dn rfl func215 (Ei RV) ?_))
   rintro _ w1 ⟨p1, rfl, H1⟩
   refine aV rfl (aA (aj ?_))
   have U0 := H1.drew
   have oQ := aB.kp (U0.f5.f5.f5.f5.f5)
   refine xJ [4, 9, 12] oQ rfl (iq 0 rfl oQ rfl (jv 1 rfl oQ rfl (fU 2 rfl oQ 0 underlying37 rfl sizeOf32 rfl (fU 3 rfl oQ 3 underlying32 rfl sizeOf30 rfl (iV 4 rfl oQ (fun W hW => jr underlying30 rfl ((Kp.h hW).f4).get.2 rfl) (iq 5 rfl oQ rfl (jv 6 rfl oQ rfl (fU 7 rfl oQ 0 underlying37 rfl sizeOf32 rfl (fU 8 rfl oQ 2 underlying32 rfl sizeOf29 rfl (iV 9 rfl oQ (fun W hW => jr underlying29 rfl ((Kp.h hW).f4).get.2 rfl) (jv 10 rfl oQ rfl (fU 11 rfl oQ 0 underlying85 rfl sizeOf3 rfl (iV 12 rfl oQ (fun W hW => jr underlying3 rfl ((Kp.h hW).f5).get.2 rfl) (iq 13 rfl oQ rfl ?_))))))))))))))
   refine eP 14 rfl (by kernel_rfl) (pW U0.f2 underlying30 underlying3 rfl rfl rfl) ?_
   rintro _ w2 H2
   have Rt := aB.kp (H2.f5.f5.f5.f5.f5)
   refine eX Rt (by kernel_rfl) ?_
   refine oV (aj (ay (ah (aO rfl (aV rfl (aA (aj (aJ (aH (.inl rfl) results160 rfl ?_)))))))))
   have hu1 : yQ (uO P k p1) U (D ++ [k]) = (yQ P U D • dN p1 [] [] 0) := by
    rw [Bg, fD, hD2 _ hnm, uD (P' := P) (U' := U) fun x hx => ⟨qW _ _ (by rintro rfl; exact hnm hx), rfl⟩]
   have HM := aB.XE H2.f5.f5.f4.f5.f5
   rw [← hu1, ← Gj hnm] at HM
   have HZ := aB.Qu (k := k) (Bh hD1 hnm) (fun k hk => hD2 k fun hm => hk (by simp [hm])) (by simp) HM
   rw [fD] at HZ
   exact ⟨_, rfl, HZ⟩
 ·(try simp only [aI] at h1)
  try (exfalso; first | contradiction | omega)
  all_goals
   have hmem := KT h1
   rw [Nz hmem]
   refine aS (aj (ay (ah (aO rfl (aV rfl (aA (aj (aJ (aH (.inl rfl) results160 rfl ?_)))))))))
   exact ⟨_, rfl, aB.Qu hD1 hD2 hmem RV.f4.f4.f4.f4⟩
theorem aB.Ez {b p : Nat} {k : Int} {U : Int → List (List dQ)} (H : aB w0 w (Dw b U k p • dN p (U k) [] 0 • F)) : aB w0 w (ru b U • F) := by
  have := H.rC
  rwa [Pm] at this
end
end Go.Proofs.YtgndbccogcofjaaGreatDoor
end
section
namespace Go.Proofs.YtgndbccogcofjaaGreatDoor
open Go.RowKit Go.Lib
section
variable {P : Program} {L : List (Nat × Value)} {w0 w : World} {F : HP} {ty : TypeId} {b : Nat} {v d : Int} {t : TypeId}
theorem NC {T : Value → World → Prop} {f : FuncId} {args : List Operand} {ts : Array TypeId} {vs : List Value} {fn : Func} {e : Array Value → Sem Value} {v : Value} {w' : World} (ha : wu L args = some vs)
    (hf : P.funcs[f]? = some fn) (hname : (fn.name == "runtime.NumGoroutine") = false) (hb : fn.body.isNone = true) (hn : Extern.findNext fn = none) (he : Extern.find fn = some e) (hr : (e vs.toArray).run P w = .ok v w') (ht : T v w') :
    oK P L (.call ⟨.value (.func f), args.toArray, ts⟩) ty w T := mF (v := v) (w' := w') (fun ρ hρ _ _ _ _ => by
  have hg : ρ (.func f) = .func (.func f) #[] #[] := hρ _ _ rfl
  have hc := run_callFunc_extern hf hname hb hn he vs.toArray w
  rw [hr] at hc
  simp [execOp, resolve, invoke, SX hρ _ _ ha, hg, Deferred.ofValue]
  exact hc) ht
theorem IG (hc : w.cell? ⟨b, 0, none⟩ = some (.int .i64 v)) : (Extern.Atomic.loadT (.int .i64) #[.pointer (some ⟨b, 0, none⟩)]).run P w = .ok (.int .i64 v) w := by
  change Sem.run P (do Extern.Atomic.read (.int .i64) (← asAddr (.pointer (some ⟨b, 0, none⟩)))) w = _
  simp [Extern.Atomic.read, asAddr, hc, Result.andThen]
theorem Px {f : FuncId} {args : List Operand} {ts : Array TypeId} {fn : Func} (H : aB w0 w (dh b (.cells #[.int .i64 v] t (0, 0)) • F)) (ha : wu L args = some [.pointer (some ⟨b, 0, none⟩), .int .i64 d])
    (hf : P.funcs[f]? = some fn) (hname : (fn.name == "runtime.NumGoroutine") = false) (hb : fn.body.isNone = true) (hn : Extern.findNext fn = none) (he : Extern.find fn = some (Extern.Atomic.update (Op.intArith .add) .i64 true)) :
    oK P L (.call ⟨.value (.func f), args.toArray, ts⟩) ty w fun u w' => u = .int .i64 (IntKind.i64.wrap (v + d)) ∧ aB w0 w' (dh b (.cells #[.int .i64 (IntKind.i64.wrap (v + d))] t (0, 0)) • F) :=
  NC ha hf hname hb hn he (Conc.run_add_entry (fC H.get.2 rfl) (sW H.get.2)) ⟨rfl, H.setCell (i := 0) _⟩
theorem ND {f : FuncId} {args : List Operand} {ts : Array TypeId} {fn : Func} (H : aB w0 w (dh b (.cells #[.int .i64 v] t (0, 0)) • F)) (ha : wu L args = some [.pointer (some ⟨b, 0, none⟩)])
    (hf : P.funcs[f]? = some fn) (hname : (fn.name == "runtime.NumGoroutine") = false) (hb : fn.body.isNone = true) (hn : Extern.findNext fn = none) (he : Extern.find fn = some (Extern.Atomic.loadT (.int .i64))) :
    oK P L (.call ⟨.value (.func f), args.toArray, ts⟩) ty w fun u w' => u = .int .i64 v ∧ w = w' :=
  NC ha hf hname hb hn he (IG (fC H.get.2 rfl)) ⟨rfl, rfl⟩
theorem xu (H : aB w0 w (dh b (.cells #[.int .i64 v] t (0, 0)) • F)) : eG Tryz.prog 95 #[.pointer (some ⟨b, 0, none⟩), .int .i64 d] w fun u w' => u = .int .i64 (IntKind.i64.wrap (v + d)) ∧ aB w0 w' (dh b (.cells #[.int .i64 (IntKind.i64.wrap (v + d))] t (0, 0)) • F) := by
 refine fP Tryz.func95 Tryz.ntmps95 ?_
 dsimp only [aX, Nat.reduceAdd]
 refine ay (ah (aV rfl (aA (aj (ay (ah (aO rfl (bK rfl (aZ 0 Tryz.underlying106 rfl Tryz.sizeOf2 rfl (aO rfl (jo (Px H rfl Tryz.func159 rfl rfl (by kernel_rfl) (by kernel_rfl)) ?_)))))))))))
 rintro _ w1 ⟨rfl, H1⟩
 refine aV rfl (aA (aj (aJ (aH (.inl rfl) Tryz.results95 rfl ?_))))
 exact ⟨rfl, H1⟩
theorem CB (H : aB w0 w (dh b (.cells #[.int .i64 v] t (0, 0)) • F)) : eG Tryz.prog 36 #[.pointer (some ⟨b, 0, none⟩)] w fun u w' => u = .int .i64 v ∧ w = w' := by
 refine fP Tryz.func36 Tryz.ntmps36 ?_
 dsimp only [aX, Nat.reduceAdd]
 refine ay (ah (aV rfl (aA (aj (ay (ah (aO rfl (bK rfl (aZ 0 Tryz.underlying106 rfl Tryz.sizeOf2 rfl (jo (ND H rfl Tryz.func106 rfl rfl (by kernel_rfl) (by kernel_rfl)) ?_))))))))))
 rintro _ _ ⟨rfl, rfl⟩
 refine aV rfl (aA (aj (aJ (aH (.inl rfl) Tryz.results36 rfl ?_))))
 exact ⟨rfl, rfl⟩
end
end Go.Proofs.YtgndbccogcofjaaGreatDoor
end
section
namespace Go.Proofs.YtgndbccogcofjaaGreatDoor
open Go.RowKit
inductive Cells : Nat → Nat → List (Nat × Nat) → List Value → List (Nat × Value) → List Value → Prop
  | nil {i o : Nat} : Cells i o [] [] [] []
  | one {i o : Nat} {pl : List (Nat × Nat)} {z : List Value} {vs : List (Nat × Value)} {cs : List Value} {v zv : Value} (h : v.oneCell' = true) (k : Cells (i + 1) (o + 1) pl z vs cs) : Cells i o ((o, 1) :: pl) (zv :: z) ((i, v) :: vs) (v :: cs)
  | agg {i o m : Nat} {pl : List (Nat × Nat)} {z : List Value} {vs : List (Nat × Value)} {cs us zs : List Value} (hm : us.length = m) (hz : zs.length = m) (k : Cells (i + 1) (o + m) pl z vs cs) : Cells i o ((o, m) :: pl) (zs ++ z) ((i, .agg us.toArray) :: vs) (us ++ cs)
  | zero {i o m : Nat} {pl : List (Nat × Nat)} {z : List Value} {vs : List (Nat × Value)} {cs zs : List Value} (hz : zs.length = m) (k : Cells (i + 1) (o + m) pl z vs cs) : Cells i o ((o, m) :: pl) (zs ++ z) vs (zs ++ cs)
theorem II {v : Value} (h : v.oneCell' = true) : v.cells = #[v] := by cases v <;> simp_all [Value.cells, Value.oneCell']
theorem Dy {pl : Array (Nat × Nat)} {i o m : Nat} {v : Value} {vs : List (Nat × Value)} {pre zs us z : List Value} {R : Option (Array Value)} (hp : pl[i]? = some (o, m)) (ho : pre.length = o) (hv : v.cells = us.toArray) (hm : us.length = m) (hz : zs.length = m)
    (h : Instr.fill (fun i => pl[i]?) (pre ++ us ++ z).toArray vs = R) : Instr.fill (fun i => pl[i]?) (pre ++ (zs ++ z)).toArray ((i, v) :: vs) = R := by
  simp only [Instr.fill]
  rw [hp]
  dsimp only
  rw [hv, if_neg (by simp; omega)]
  have hfr := ML us o 0 (pre ++ (zs ++ z)).toArray (by simp; omega)
  simp only [Nat.add_zero] at hfr
  rw [← Array.foldl_toList, Array.toList_zipIdx]
  simp only [List.toList_toArray] at hfr ⊢
  rw [show (us.zipIdx.foldl (fun cs (x : Value × Nat) => cs.setIfInBounds (o + x.2) x.1) (pre ++ (zs ++ z)).toArray) = _ from hfr]
  rw [← h]
  congr 2
  subst ho
  rw [List.take_left, ← List.append_assoc pre zs z, show pre.length + us.length = (pre ++ zs).length from by simp; omega, List.drop_left]
theorem IJ {i o : Nat} {pl : List (Nat × Nat)} {z cs : List Value} {vs : List (Nat × Value)} (h : Cells i o pl z vs cs) : ∀ {pp : List (Nat × Nat)} {pre : List Value}, pp.length = i → pre.length = o →
    Instr.fill (fun j => (pp ++ pl).toArray[j]?) (pre ++ z).toArray vs = some (pre ++ cs).toArray := by
  induction h with
  | nil => intro pp pre _ _; rfl
  | @one i o pl z vs cs v zv h k ih =>
    intro pp pre h1 h2
    refine Dy (zs := [zv]) (us := [v]) (o := o) (m := 1) (by simp [← h1]) h2 (II h) rfl rfl ?_
    have := ih (pp := pp ++ [(o, 1)]) (pre := pre ++ [v]) (by simp; omega) (by simp; omega)
    simpa using this
  | @agg i o m pl z vs cs us zs hm hz k ih =>
    intro pp pre h1 h2
    refine Dy (zs := zs) (us := us) (o := o) (m := m) (by simp [← h1]) h2 rfl hm hz ?_
    have := ih (pp := pp ++ [(o, m)]) (pre := pre ++ us) (by simp; omega) (by simp; omega)
    simpa using this
  | @zero i o m pl z vs cs zs hz k ih =>
    intro pp pre h1 h2
    have := ih (pp := pp ++ [(o, m)]) (pre := pre ++ zs) (by simp; omega) (by simp; omega)
    simpa using this
section
variable {P : Program} {L : List (Nat × Value)} {w : World} {ty : TypeId}
theorem fE {t : TypeId} {fs : Array Field} {z : Value} {zl : List Value} {pl : List (Nat × Nat)} {ps : List (Nat × Operand)} {vs : List (Nat × Value)} {cs : List Value} (cells : List Value) (ht : P.underlying t = some (.struct fs)) (hz : ∀ w, (zeroValue t).run P w = .ok z w) (hzl : z.cells = zl.toArray)
    (hpl : ∀ w, (fs.mapM fun f => do pure (f.offset, ← sizeOf f.type) : Sem (Array (Nat × Nat))).run P w = .ok pl.toArray w) (hp : Oi L ps = some vs) (hC : Cells 0 0 pl zl vs cs) (hcs : cs = cells) : Val P L (.build t ps.toArray) ty w (.agg cells.toArray) w := by
  subst hcs
  exact dS cs.toArray ht hz hpl hp (by rw [hzl]; exact IJ hC (pp := []) (pre := []) rfl rfl)
end
end Go.Proofs.YtgndbccogcofjaaGreatDoor
end
