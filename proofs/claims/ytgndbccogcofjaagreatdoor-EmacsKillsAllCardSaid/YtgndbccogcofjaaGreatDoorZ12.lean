import Derived.Test.YtgndbccogcofjaaGreatDoorZ2
import Derived.Test.YtgndbccogcofjaaGreatDoorZ11
import Derived.Test.YtgndbccogcofjaaGreatDoorZ6
import Derived.Test.YtgndbccogcofjaaGreatDoorZ7
import Derived.Lib.OthersKept
import Derived.Lib.Bytealg
import Derived.Conc.AtomicLaws2
import Derived.Test.YtgndbccogcofjaaGreatDoorZ10
set_option linter.unusedSimpArgs false
set_option linter.unusedVariables false
/- Texts of mine, joined, their names in short: UGroups Ed EdTwin EdA Atom Build. -/
section
namespace Go.Proofs.YtgndbccogcofjaaGreatDoor
open Go.RowKit
open _root_.Go.Proofs.Tryz
def wS (c : Nat) (G : List (List dU)) (N : List dU) (k : Nat) : HP := qW fun (x : Value × List (Value × List cO)) => fact (x.2.map (fun g => g.2.map cO.says) = FY N ++ G.reverse.take k) • dB c (.cells #[x.1] 176 (0, 0)) • yA x.1 x.2
theorem rev_succ {G : List (List dU)} {k : Nat} (hk : k < G.length) : G.reverse.take (k + 1) = G.reverse.take k ++ [G.getD (G.length - (k + 1)) []] := by
  rw [List.take_succ_eq_append_getElem (by simpa using hk)]
  congr 1
  rw [List.getElem_reverse, List.getD_eq_getElem?_getD, List.getElem?_eq_getElem (by omega)]
  have e : G.length - 1 - k = G.length - (k + 1) := by omega
  simp only [Option.getD_some, e]
section
variable {w0 w : World} {F : HP} {p c k : Nat} {G : List (List dU)} {N : List dU} {op : Int} {v u : Value} {es fs : List cO} {gs hs : List (Value × List cO)}
theorem aB.Io (H : aB w0 w (wS c G N k • F)) : ∃ u hs, hs.map (fun g => g.2.map cO.says) = FY N ++ G.reverse.take k ∧ hs.length ≤ G.length + 1 ∧ aB w0 w (dB c (.cells #[u] 176 (0, 0)) • Row 35 1 u hs.length (hs.map (·.1)) • mg hs • F) := by
  obtain ⟨⟨u, hs⟩, H⟩ := H.lg
  obtain ⟨h, H⟩ := H.flat.fact
  refine ⟨u, hs, h, ?_, (H.flat.swap.Tz).f3⟩
  have := congrArg List.length h
  have := OO N
  simp only [List.length_map, List.length_append, List.length_take, List.length_reverse] at *
  omega
theorem aB.CU (h : hs.map (fun g => g.2.map cO.says) = FY N ++ G.reverse.take k) (H : aB w0 w (dB c (.cells #[u] 176 (0, 0)) • yA u hs • F)) : aB w0 w (wS c G N k • F) :=
  aB.gQ (u, hs) (aB.deep (aB.jq h H.deep))
theorem MS (H : aB w0 w F) (hv : v.oneCell' = true) : fA prog 216 #[v] w fun v' w' => ∃ b, v' = .func (.func 239) #[] #[.pointer (some ⟨b, 0, none⟩)] ∧ aB w0 w' (dB b (.cells #[v] 176 (0, 0)) • F) := by
 refine fU func216 ntmps216 ?_
 dsimp only [aY, Nat.reduceAdd]
 refine ay (ah (ji (iG (l := [_]) H rfl (by first | rfl | exact yY (by first | rfl | assumption))) ?_))
 rintro _ w1 ⟨b1, rfl, H1⟩
 refine aU rfl (aA (aj (ay (ah (aW (tq rfl rfl) (aU rfl (aA (aj (aJ (aI (.inl rfl) results216 rfl ?_))))))))))
 exact ⟨_, rfl, H1⟩
theorem JH (b : Nat) : Iter prog w0 (.func (.func 239) #[] #[.pointer (some ⟨b, 0, none⟩)]) (dB b (.cells #[v] 176 (0, 0)) • Row 35 1 v gs.length (gs.map (·.1)) • mg gs) gs.length
  (fun k vs A => ∃ gl tZ, gs.getD (gs.length - (k + 1)) default = (gl, tZ) ∧ vs = [.int .i64 ((gs.length - (k + 1) : Nat) : Int), gl] ∧ A = yS gl tZ) := by
 intro l J X w hy H
 refine ⟨239, [], [.pointer (some ⟨b, 0, none⟩)], _, _, rfl, func239, rfl, rfl, ?_⟩
 have H1 : aB w0 w (dB b (.cells #[v] 176 (0, 0)) • Row 35 1 v gs.length (gs.map (·.1)) • mg gs • J 0) := H.of_eq (by ac_rfl)
 obtain ⟨a, c, hv, hc1, hc2, _⟩ := (H1.swap.aT).form
 subst hv
 simp only [List.nil_append, List.cons_append]
 refine fU func239 ntmps239 ?_
 dsimp only [aY, Nat.reduceAdd]
 refine ay (ah (dS underlying176 rfl (H1).get.2 rfl (aW (iH ((H1.f2).aT) underlying176 rfl) (aW (iq rfl rfl (by omega)) (aU rfl (aA (aj (bC ?_))))))))
 refine ig [(0, _), (1, _)] (fun (k : Nat) => [(3, .int .i64 ((k : Int) - 1))]) (fun (k : Nat) W => k ≤ gs.length ∧ aB w0 W (dB b (.cells #[.slice a gs.length c] 176 (0, 0)) • Row 35 1 (.slice a gs.length c) gs.length (gs.map (·.1)) • mg gs • J (gs.length - k))) (fun (k : Nat) => k) (gs.length) (Sub.cons rfl (Sub.cons rfl (Sub.nil _))) (Sub.cons rfl (Sub.nil _)) ⟨by omega, by rw [Nat.sub_self]; exact H1⟩ ?_
 rintro k w1 ⟨hk, HL⟩
 dsimp only [List.cons_append, List.nil_append]
 refine ay (ay (ah (aO rfl (aW (jH rfl rfl) (aA (aj (aN rfl (fun h1 => ?_) (fun h1 => ?_))))))))
 ·(try simp only [aH] at h1)
  try (exfalso; first | contradiction | omega)
  all_goals
   refine aP (aj (ay (bC (ay ?_))))
   obtain ⟨m, rfl⟩ : ∃ m, k = m + 1 := ⟨k - 1, by omega⟩
   rw [show (((m + 1 : Nat) : Int) - 1) = (m : Int) from by omega]
   have hkl : m < gs.length := by omega
   refine ah (aO rfl (aO rfl (dS underlying176 rfl (HL).get.2 rfl (aO rfl ?_))))
   obtain ⟨bv, ov, cv, ev⟩ := Rd.Bh ((HL.f2).aT) (by omega)
   cases ev
   refine aW (iZ underlying176 sizeOf35 rfl rfl (by omega)) ?_
   refine aW (pO (gI underlying35 rfl) rfl (by first | exact Rd.L9 ((HL.f2).aT) (by omega) | exact Rd.U0 ((HL.f2).aT) (by omega) | exact Rd.Uu ((HL.f2).aT) (by omega))) ?_
   rw [show (gs.map (·.1)).getD m undef = (gs.getD m default).1 from by simp [List.getD_eq_getElem?_getD, hkl]]
   obtain ⟨gl, tZ, hg⟩ : ∃ gl tZ, gs.getD m default = (gl, tZ) := ⟨_, _, rfl⟩
   rw [hg]
   have X5 := HL.f3
   have X6 := X5.FW hkl hg
   refine ji (FU rfl rfl (hy (gs.length - (m + 1)) (by omega) _ _ ⟨gl, tZ, by rw [show gs.length - (gs.length - (m + 1) + 1) = m from by omega]; exact hg, by rw [show gs.length - (gs.length - (m + 1) + 1) = m from by omega], rfl⟩ (mg gs • Row 35 1 (.slice (some ⟨bv, ov, none⟩) gs.length c) gs.length (gs.map (·.1)) • dB b (.cells #[.slice (some ⟨bv, ov, none⟩) gs.length c] 176 (0, 0))) _ (X6.of_eq (by ac_rfl))).bool) ?_
   rintro _ w4 ⟨t, rfl, ht1, ht2⟩
   refine aW (jS rfl) (aA (aj (aN rfl (fun h2 => ?_) (fun h2 => ?_))))
   ·(try simp only [aH] at h2)
    try (exfalso; first | contradiction | omega)
    all_goals
     have HX := ht2 (by simpa using h2)
     refine aJ (aV (aK (aK (aV (fM (.inl rfl) results239 ?_)))))
     exact .inr (HX.of_eq (by ac_rfl))
   ·(try simp only [aH] at h2)
    try (exfalso; first | contradiction | omega)
    all_goals
     have HN : aB w0 w4 (dB b (.cells #[.slice (some ⟨bv, ov, none⟩) gs.length c] 176 (0, 0)) • Row 35 1 (.slice (some ⟨bv, ov, none⟩) gs.length c) gs.length (gs.map (·.1)) • mg gs • J (gs.length - m)) := by
      have h9 := ht1 (by simpa using h2)
      rw [show gs.length - (m + 1) + 1 = gs.length - m from by omega] at h9
      exact h9.of_eq (by ac_rfl)
     refine aP (aS (aj (ah (aO rfl (aW (iq rfl rfl (by omega)) (aU rfl (aA ?_)))))))
     refine fD (m) ?_ ?_ ?_ ?_
     ·exact (Sub.cons rfl (Sub.nil _))
     ·exact (Sub.cons rfl (Sub.cons rfl (Sub.nil _)))
     ·(try dsimp only)
      first | done | exact ⟨by omega, HN.f3.f3.f3⟩
     ·(try dsimp only); omega
 ·(try simp only [aH] at h1)
  try (exfalso; first | contradiction | omega)
  all_goals
   refine eU (aX (aX (bV (fM (.inr rfl) results239 ?_))))
   obtain rfl : k = 0 := by omega
   rw [Nat.sub_zero] at HL
   exact .inl (HL.of_eq (by ac_rfl))
theorem Ah (H : aB w0 w (dQ p G N op • F)) : fA prog 161 #[.pointer (some ⟨p, 0, none⟩)] w fun v w' => ∃ c, v = .func (.func 217) #[] #[.pointer (some ⟨c, 0, none⟩)] ∧ aB w0 w' (wS c G N G.length • dQ p G N op • F) := by
 refine fU func161 ntmps161 ?_
 dsimp only [aY, Nat.reduceAdd]
 refine ay (ah (aU rfl (aA (aj (ay (ah (ji (fV (l := [_]) H zeroValue176 rfl) ?_)))))))
 rintro _ w1 ⟨b1, rfl, H1⟩
 refine aA (aj (ay (ay (ah (aO rfl (bZ rfl func181 (iI H1.f2) ?_))))))
 rintro _ _ ⟨rfl, rfl⟩
 refine aW (jS rfl) ?_
 obtain ⟨vk, sF, iW, iO, iy, oN, mM, BX, BZ, FN, kK⟩ := (H1.f2).sD
 have hLn : iO.length ≤ 16384 := by omega
 have hBn := Ik mM iy.2.2.2.2.2
 refine aA (aj (aN rfl (fun h1 => ?_) (fun h => by exfalso; (try simp only [aH] at h); simp at h)))
 (try simp only [aH] at h1)
 refine Kt [(0, _), (3, _)] (fun (_ : Unit) => []) (fun (_ : Unit) W => aB w0 W (wS b1 G N 0 • dB p (.cells #[vk, sF, .int .i64 op, .int .i64 (dR G N : Nat), .bool true] 180 (0, 0)) • Row 35 1 vk iW.length (iW.map (·.1)) • mg iW • Row 101 3 sF iO.length (iO.flatMap cO.enc) • iR iO • F)) (Sub.cons rfl (Sub.cons rfl (Sub.nil _))) ?_ ?_
 ·rintro _ w4 HJ
  dsimp only [List.cons_append, List.nil_append]
  refine ay (ah (aO rfl (bP rfl (bg 0 underlying180 rfl sizeOf178 rfl (bg 0 underlying178 rfl sizeOf176 rfl (dS underlying176 rfl (HJ.f2).get.2 rfl (bZ rfl func216 (MS HJ (Rd.one ((HJ.f3).aT))) ?_)))))))
  rintro _ w5 ⟨bB5, rfl, H5⟩
  refine aA (aj (bC ?_))
  obtain ⟨R6, Xb, X7⟩ := aB.UO (H5.f5.f5.f3.f4)
  refine tY rfl (JH bB5) (fun k => wS b1 G N k • R6) (fact False) (fun _ => fact False) (X7.f4.f4.f4.f4.f4.f4.f4.g3.comm) (by rfl) ?_ ?_ ?_ ?_
  ·rintro l7 k TG vs7 A7 ⟨gl, tZ, hg, rfl, rfl⟩ G7 w7 H7
   try simp only [bT, iY, oQ] at H7
   refine ⟨rfl, ?_⟩
   dsimp only [JA]
   obtain ⟨u, hs, OM, XT, HI⟩ := (H7.f2).Io
   have hge : tZ.map cO.says = G.getD (G.length - (k + 1)) [] := by
    rw [← BX, ← oN]
    have h9 : (iW.map (fun g => g.2.map cO.says)).getD (iW.length - (k + 1)) [] = (iW.getD (iW.length - (k + 1)) default).2.map cO.says := by simp [List.getD_eq_getElem?_getD, show iW.length - (k + 1) < iW.length by omega]
    rw [h9, hg]
   have hgm : G.getD (G.length - (k + 1)) [] ∈ G := rX (by omega)
   have hBg := Ik hge (iy.2.2.2.2.1 _ hgm)
   have VG : tZ.length ≤ 16384 := by
    have h8 := iy.2.1
    unfold dR at h8
    have h7 := congrArg List.length hge
    rw [List.length_map] at h7
    have h6 := FX hgm
    omega
   refine ah (aU rfl (aA ?_))
   refine Jz (HI.g5) ?_
   intro G8 w8 H8
   try simp only [bT] at H8
   refine bC ?_
   have VK := H8.drew
   have OU := aB.kp (VK.f4.f4.f4.f4)
   refine yQ [0] OU rfl (je 0 rfl OU (fun W hW => jE underlying176 rfl ((Kp.h hW)).get.2 rfl) (iE 1 rfl OU rfl (jQ 2 rfl (wK rfl func187 (ru VK.f4 hBg VG)) ?_)))
   rintro u9 w9 ⟨fs9, X8, H9⟩
   obtain ⟨es2, rfl⟩ : ∃ q, q = fs9 := ⟨_, rfl⟩
   have hes2 := X8
   have Jv := aB.kp (H9.f6.f6.f6.f6.f6.f6)
   refine dP Jv (fun W hW => (Kp.h hW).right.right.f4.f4.f4) ?_
   refine jQ 3 rfl (nK (vs := [_]) H9 underlying176 sizeOf35 zeroValue35 rfl rfl rfl (by decide) (aC (by first | rfl | exact Rd.one ((H9).aT)) bU)) ?_
   rintro l10 w10 mJ
   have Ez := aB.kp (mJ.f7.f7.f7.f7.f7.f7.f7)
   refine dP Ez (fun W hW => (Kp.h hW).right.f6.f6.f6.f6.f6.f6) ?_
   refine jQ 4 rfl (gX mJ.f6 underlying176 (show (prog.info? 35).map (fun i => (i.zero, i.size, i.bytes)) = some (some (.slice none 0 0), 1, 24) by kernel_rfl) rfl rfl rfl ((mJ).aT) (aC (by first | rfl | exact Rd.one ((mJ.f2).aT)) bU) (by omega) (by omega)) ?_
   rintro l11 He uO
   have JD := uO.f2.right
   have yC := aB.kp (JD.f6.f6.f6.f6.f6.f6)
   refine fF yC (by kernel_rfl) ?_
   refine fH 5 rfl (by kernel_rfl) (aQ 0 (l' := [_]) JD.f5 sizeOf176 rfl rfl (by first | rfl | exact Rd.one ((JD).aT)) rfl rfl) ?_
   rintro _ ND vY
   have wO := aB.kp (vY.f6.f6.f6.f6.f6.f6)
   refine fF wO (by kernel_rfl) ?_
   refine pU (aS ?_)
   refine Ci ?_
   have X := aB.pW (es := es2) (vY.f5.right.f5.f3.f5.f5).deep
   exact (aB.CU (hs := hs ++ [(u9, es2)]) (by rw [List.map_append, OM, rev_succ (by omega), ← hge, ← hes2, List.append_assoc]; rfl) (aB.su X.swap).swap).deep
  ·rintro D14 Me yc
   have Hy := yc.ed
   try simp only [bT, iY, oQ] at Hy
   have TI := Hy.Kr
   subst Xb
   refine aS (aj (ay (ah (aW (tq rfl rfl) (aU rfl (aA (aj (aJ ?_))))))))
   refine Ap (.inl rfl) (TI) (fun Oe xO => ?_)
   refine ⟨_, SK results161 rfl, ?_⟩
   have hgl : wS b1 G N iW.length = wS b1 G N G.length := by rw [BX]
   rw [hgl] at xO
   have X9 := xO.f7.f7.f5.f5.f7
   have Ya := aB.jg iy oN mM rfl X9
   exact ⟨_, rfl, Ya.f2.right.f2⟩
  ·rintro D w H; exact absurd H.swap.fact.1 id
  ·rintro id D w H; exact absurd H.swap.fact.1 fun h => h
 ·skip
  refine ay (ah (aO rfl (bP rfl (bg 0 underlying180 rfl sizeOf178 rfl (bg 1 underlying178 rfl sizeOf35 rfl (dS underlying35 rfl (kK).get.2 rfl (aW (iH ((kK.f4).aT) underlying35 rfl) (aW (dn rfl rfl) (aA (aj (aN rfl (fun h2 => ?_) (fun h2 => ?_))))))))))))
  ·(try simp only [aH] at h2)
   have hN : FY N = [N] := if_neg (by rintro rfl; exact absurd BZ (by simp only [List.length_nil]; omega))
   have RX := kK.drew
   have xw := aB.kp (RX.f6.f6.f6.f6.f6.f6)
   refine yQ [0, 5] xw rfl (je 0 rfl xw (fun W hW => jE underlying176 rfl ((Kp.h hW).f6).get.2 rfl) (iE 1 rfl xw rfl (jF 2 rfl xw rfl (gG 3 rfl xw 0 underlying180 rfl sizeOf178 rfl (gG 4 rfl xw 1 underlying178 rfl sizeOf35 rfl (je 5 rfl xw (fun W hW => jE underlying35 rfl ((Kp.h hW)).get.2 rfl) (jQ 6 rfl (wK rfl func187 (vC RX.f5.f5 hBn hLn)) ?_)))))))
   rintro u19 RF ⟨Yb, VL, BF⟩
   obtain ⟨es1, rfl⟩ : ∃ q, q = Yb := ⟨_, rfl⟩
   have hes1 := VL
   have OV := aB.kp (BF.f8.f8.f8.f8.f8.f8.f8.f8)
   refine dP OV (fun W hW => (Kp.h hW).right.right.f6.f3.f3.f6.f6.f6) ?_
   refine jQ 7 rfl (nK (vs := [_]) BF underlying176 sizeOf35 zeroValue35 rfl rfl rfl (by decide) (aC (by first | rfl | exact Rd.one ((BF).aT)) bU)) ?_
   rintro Yc Ry xM
   have zS := aB.kp (xM.f9.f9.f9.f9.f9.f9.f9.f9.f9)
   refine dP zS (fun W hW => (Kp.h hW).right.f8.f8.f8.f8.f8.f8.f8.f8) ?_
   refine jQ 8 rfl (gX (xM.jd none) underlying176 (show (prog.info? 35).map (fun i => (i.zero, i.size, i.bytes)) = some (some (.slice none 0 0), 1, 24) by kernel_rfl) rfl rfl rfl ((xM).aT) (aC (by first | rfl | exact Rd.one ((xM.f2).aT)) bU) (by omega) (by omega)) ?_
   rintro l21 Ti oM
   have F6 := oM.f2.right
   have CV := aB.kp (F6.f9.f9.f9.f9.f9.f9.f9.f9.f9)
   refine fF CV (by kernel_rfl) ?_
   refine fH 9 rfl (by kernel_rfl) (aQ 0 (l' := [_]) F6.f9 sizeOf176 rfl rfl (by first | rfl | exact Rd.one ((F6).aT)) rfl rfl) ?_
   rintro _ RG yR
   have EF := aB.kp (yR.f9.f9.f9.f9.f9.f9.f9.f9.f9)
   refine fF EF (by kernel_rfl) ?_
   have X := aB.pW (es := es1) (yR.f6.f6.f9.f9.f9.f6.f7.f9.f9).deep
   have Yd : aB w0 RG (wS b1 G N 0 • dB p (.cells #[vk, sF, .int .i64 op, .int .i64 (dR G N : Nat), .bool true] 180 (0, 0)) • Row 35 1 vk iW.length (iW.map (·.1)) • mg iW • Row 101 3 sF iO.length (iO.flatMap cO.enc) • iR iO • F) :=
    aB.CU (hs := [(u19, es1)]) (by rw [hN, ← mM, ← hes1]; rfl) (aB.su (gs := []) X.HY.f3.f3.f2).swap
   refine pU ?_
   refine sW (()) ?_ ?_ ?_
   ·exact (Sub.nil _)
   ·exact (Sub.cons rfl (Sub.cons rfl (Sub.nil _)))
   ·(try dsimp only)
    first | done | exact Yd
  ·(try simp only [aH] at h2)
   have hN : FY N = [] := if_pos (by rw [← mM, List.eq_nil_of_length_eq_zero (show iO.length = 0 by omega)]; rfl)
   have Yd : aB w0 w1 (wS b1 G N 0 • dB p (.cells #[vk, sF, .int .i64 op, .int .i64 (dR G N : Nat), .bool true] 180 (0, 0)) • Row 35 1 vk iW.length (iW.map (·.1)) • mg iW • Row 101 3 sF iO.length (iO.flatMap cO.enc) • iR iO • F) :=
    aB.CU (hs := []) (by rw [hN]; rfl) ((kK.f5.f5.f5.f5.f5.f6).yB none).swap
   refine aP ?_
   refine sW (()) ?_ ?_ ?_
   ·exact (Sub.nil _)
   ·exact (Sub.cons rfl (Sub.cons rfl (Sub.nil _)))
   ·(try dsimp only)
    first | done | exact Yd
theorem Ip (c : Nat) (hB : ∀ g ∈ xk G N, ∀ e ∈ g, EB e) (hL : ∀ g ∈ xk G N, g.length ≤ 16384) : Iter prog w0 (.func (.func 217) #[] #[.pointer (some ⟨c, 0, none⟩)]) (wS c G N G.length) (xk G N).length
  (fun k vs A => ∃ u, ∃ fs : List cO, fs.map cO.says = (xk G N).getD k [] ∧ vs = [u] ∧ A = DX u fs) := by
 intro l J X w hy H
 refine ⟨217, [], [.pointer (some ⟨c, 0, none⟩)], _, _, rfl, func217, rfl, rfl, ?_⟩
 obtain ⟨v, hs, OM, XT, H1⟩ := H.comm.Io
 have VN := OM
 rw [List.take_of_length_le (by simp), ← QF] at OM
 have hlen : hs.length = (xk G N).length := by have := congrArg List.length OM; simpa using this
 obtain ⟨a, d, hv, hc1, hc2, _⟩ := (H1.swap.aT).form
 subst hv
 simp only [List.nil_append, List.cons_append]
 refine fU func217 ntmps217 ?_
 dsimp only [aY, Nat.reduceAdd]
 refine ay (ah (dS underlying176 rfl (H1).get.2 rfl (aW (iH ((H1.f2).aT) underlying176 rfl) (aO rfl (aA (aj (bC ?_)))))))
 refine ig [(0, _), (5, _), (6, _)] (fun (k : Nat) => [(7, .int .i64 (k : Int))]) (fun (k : Nat) W => k ≤ hs.length ∧ aB w0 W (dB c (.cells #[.slice a hs.length d] 176 (0, 0)) • Row 35 1 (.slice a hs.length d) hs.length (hs.map (·.1)) • mg hs • J k)) (fun (k : Nat) => hs.length - k) (0) (Sub.cons rfl (Sub.cons rfl (Sub.cons rfl (Sub.nil _)))) (Sub.cons rfl (Sub.nil _)) ⟨by omega, H1⟩ ?_
 rintro k w1 ⟨hk, HL⟩
 dsimp only [List.cons_append, List.nil_append]
 refine ay (ah (aW (fE rfl rfl) (aA (aj (ay (aN rfl (fun h1 => ?_) (fun h1 => ?_)))))))
 ·(try simp only [aH] at h1)
  try (exfalso; first | contradiction | omega)
  all_goals
   refine aP (aj (ay (bC (ay (ah ?_)))))
   obtain ⟨bv, ov, cv, ev⟩ := Rd.Bh ((HL.f2).aT) (by omega)
   cases ev
   refine aW (iZ underlying176 sizeOf35 rfl rfl (by omega)) ?_
   refine aW (pO (gI underlying35 rfl) rfl (by first | exact Rd.L9 ((HL.f2).aT) (by omega) | exact Rd.U0 ((HL.f2).aT) (by omega) | exact Rd.Uu ((HL.f2).aT) (by omega))) ?_
   have hkl : k < hs.length := by omega
   rw [show (hs.map (·.1)).getD k undef = (hs.getD k default).1 from by simp [List.getD_eq_getElem?_getD, hkl]]
   obtain ⟨gl, tZ, hg⟩ : ∃ gl tZ, hs.getD k default = (gl, tZ) := ⟨_, _, rfl⟩
   rw [hg]
   have X5 := HL.f3
   have X6 := X5.FW hkl hg
   have hge : tZ.map cO.says = (xk G N).getD k [] := by
    rw [← OM]
    have h9 : (hs.map (fun g => g.2.map cO.says)).getD k [] = (hs.getD k default).2.map cO.says := by simp [List.getD_eq_getElem?_getD, hkl]
    rw [h9, hg]
   have hgm : (xk G N).getD k [] ∈ xk G N := rX (by omega)
   have hBg := Ik hge (hB _ hgm)
   have VG : tZ.length ≤ 16384 := by
    have h7 := congrArg List.length hge
    rw [List.length_map] at h7
    have := hL _ hgm
    omega
   refine aU rfl (aA (aj (ay (ah (aO rfl (aO rfl (bZ rfl func187 (ru X6 hBg VG) ?_)))))))
   rintro u4 w4 ⟨fs4, Ye, H4⟩
   obtain ⟨es2, rfl⟩ : ∃ q, q = fs4 := ⟨_, rfl⟩
   have hes2 := Ye
   have Hd5 := H4.f3.right
   refine ji (FU rfl rfl (hy k (by omega) _ _ ⟨_, es2, hes2.trans hge, rfl, rfl⟩ (mg hs • Row 35 1 (.slice (some ⟨bv, ov, none⟩) hs.length d) hs.length (hs.map (·.1)) • dB c (.cells #[.slice (some ⟨bv, ov, none⟩) hs.length d] 176 (0, 0))) _ (Hd5.of_eq (by unfold DX; ac_rfl))).bool) ?_
   rintro _ w6 ⟨t, rfl, ht1, ht2⟩
   refine aW (jS rfl) (aA (aj (aN rfl (fun h2 => ?_) (fun h2 => ?_))))
   ·(try simp only [aH] at h2)
    try (exfalso; first | contradiction | omega)
    all_goals
     have HX := ht2 (by simpa using h2)
     refine aJ (aV (aK (aK (aV (fM (.inl rfl) results217 ?_)))))
     exact .inr (aB.comm (aB.CU (u := .slice (some ⟨bv, ov, none⟩) hs.length d) VN (HX.of_eq (by unfold yA; ac_rfl))))
   ·(try simp only [aH] at h2)
    try (exfalso; first | contradiction | omega)
    all_goals
     have HN : aB w0 w6 (dB c (.cells #[.slice (some ⟨bv, ov, none⟩) hs.length d] 176 (0, 0)) • Row 35 1 (.slice (some ⟨bv, ov, none⟩) hs.length d) hs.length (hs.map (·.1)) • mg hs • J (k + 1)) := by
      have h9 := ht1 (by simpa using h2)
      exact h9.of_eq (by ac_rfl)
     refine aP (aS (aj (ah (aW (fP rfl rfl (by omega)) (aO rfl (aA ?_))))))
     refine fD (k + 1) ?_ ?_ ?_ ?_
     ·exact (Sub.cons rfl (Sub.nil _))
     ·exact (Sub.cons rfl (Sub.cons rfl (Sub.cons rfl (Sub.nil _))))
     ·(try dsimp only)
      first | done | exact ⟨by omega, HN.f3.f3.f3⟩
     ·(try dsimp only); omega
 ·(try simp only [aH] at h1)
  try (exfalso; first | contradiction | omega)
  all_goals
   refine eU (aX (aX (bV (fM (.inr rfl) results217 ?_))))
   obtain rfl : k = hs.length := by omega
   rw [← hlen]
   exact .inl (aB.comm (aB.CU (u := .slice a hs.length d) VN (HL.of_eq (by unfold yA; ac_rfl))))
end
end Go.Proofs.YtgndbccogcofjaaGreatDoor
end
section
namespace Go.Proofs.YtgndbccogcofjaaGreatDoor
open Go.RowKit
def zT (P : Int → Nat) (U : Int → List (List dU)) : List Int → HP
  | [] => emp
  | k :: D => dQ (P k) (U k) [] 0 • zT P U D
def Iq (D : List Int) (P : Int → Nat) : Int → Option Value := fun k => if k ∈ D then some (.pointer (some ⟨P k, 0, none⟩)) else none
theorem sK {P : Int → Nat} {U : Int → List (List dU)} {k : Int} : ∀ {D : List Int}, k ∈ D → zT P U D = (dQ (P k) (U k) [] 0 • zT P U (D.erase k))
  | x :: D, h => by
    by_cases e : x = k
    · subst e; rw [List.erase_cons_head]; rfl
    · rw [List.erase_cons_tail (by simpa using e)]
      have hk : k ∈ D := (List.mem_cons.1 h).resolve_left (Ne.symm e)
      show (dQ (P x) (U x) [] 0 • zT P U D) = _
      rw [sK hk]
      show (dQ (P x) (U x) [] 0 • dQ (P k) (U k) [] 0 • zT P U (D.erase k)) = (dQ (P k) (U k) [] 0 • (dQ (P x) (U x) [] 0 • zT P U (D.erase k)))
      ac_rfl
theorem vZ {P P' : Int → Nat} {U U' : Int → List (List dU)} : ∀ {D : List Int}, (∀ k ∈ D, P k = P' k ∧ U k = U' k) → zT P U D = zT P' U' D
  | [], _ => rfl
  | x :: D, h => by
    show (dQ (P x) (U x) [] 0 • zT P U D) = (dQ (P' x) (U' x) [] 0 • zT P' U' D)
    rw [(h x (by simp)).1, (h x (by simp)).2, vZ fun k hk => h k (List.mem_cons_of_mem _ hk)]
def sN (b : Nat) (U : Int → List (List dU)) : HP := qW fun (x : List Int × (Int → Nat)) => fact (x.1.Nodup ∧ ∀ k, k ∉ x.1 → U k = []) • dY oz b (Iq x.1 x.2) • zT x.2 U x.1
def EG (b : Nat) (U : Int → List (List dU)) (k : Int) (p : Nat) : HP := qW fun (x : List Int × (Int → Nat)) => fact (x.1.Nodup ∧ (∀ k, k ∉ x.1 → U k = []) ∧ k ∈ x.1 ∧ x.2 k = p) • dY oz b (Iq x.1 x.2) • zT x.2 U (x.1.erase k)
section
variable {w0 w : World} {F : HP} {b p : Nat} {k : Int} {U : Int → List (List dU)} {G : List (List dU)}
theorem aB.VO (H : aB w0 w (sN b U • F)) : ∃ D P, (D : List Int).Nodup ∧ (∀ k, k ∉ D → U k = []) ∧ aB w0 w (dY oz b (Iq D P) • zT P U D • F) := by
  obtain ⟨⟨D, P⟩, H⟩ := H.lg
  obtain ⟨⟨h1, h2⟩, H⟩ := H.flat.fact
  exact ⟨D, P, h1, h2, H.flat⟩
theorem aB.Az {D : List Int} {P : Int → Nat} (h1 : D.Nodup) (h2 : ∀ k, k ∉ D → U k = []) (H : aB w0 w (dY oz b (Iq D P) • zT P U D • F)) : aB w0 w (sN b U • F) :=
  aB.gQ (D, P) (aB.deep (aB.jq ⟨h1, h2⟩ H.deep))
theorem aB.RY {D : List Int} {P : Int → Nat} (h1 : D.Nodup) (h2 : ∀ k, k ∉ D → U k = []) (hk : k ∈ D) (H : aB w0 w (dY oz b (Iq D P) • zT P U D • F)) : aB w0 w (dQ (P k) (U k) [] 0 • EG b U k (P k) • F) := by
  have H1 : aB w0 w ((dY oz b (Iq D P) • zT P U (D.erase k)) • dQ (P k) (U k) [] 0 • F) := H.of_eq (by rw [sK hk]; ac_rfl)
  have H2 : aB w0 w (EG b U k (P k) • dQ (P k) (U k) [] 0 • F) := aB.gQ (D, P) (aB.deep (aB.jq ⟨h1, h2, hk, rfl⟩ H1))
  exact H2.swap
theorem aB.sO (H : aB w0 w (EG b U k p • dQ p G [] 0 • F)) : aB w0 w (sN b (wH U k G) • F) := by
  obtain ⟨⟨D, P⟩, H⟩ := H.lg
  obtain ⟨⟨h1, h2, hk, hp⟩, H⟩ := H.flat.fact
  dsimp only at h1 h2 hk hp H
  subst hp
  refine aB.Az (D := D) (P := P) h1 (fun x hx => ?_) ?_
  · rw [sG _ _ (by rintro rfl; exact hx hk)]; exact h2 x hx
  · rw [sK (U := wH U k G) hk, fB, vZ (P' := P) (U' := U) fun x hx => ⟨rfl, sG _ _ (by rintro rfl; exact (List.Nodup.not_mem_erase h1) hx)⟩]
    exact H.of_eq (by ac_rfl)
end
def vH (t : Int → Option ByteArray) : Int → Option Value := fun k => (t k).map .string
def JI (pb pr pw pt pm : Nat) (c : kN) : HP := dJ pb c.L c.pt c.mark • bY pr c.E c.at_ • dB pw (.cells #[.int .i64 c.place, .map (some pt)] 85 (0, 0)) • dY oz pt (vH c.tx) • sN pm c.un
def KU (pb pr pw pm : Nat) (c : kN) : List Value := [.pointer (some ⟨pb, 0, none⟩), .pointer (some ⟨pr, 0, none⟩), .pointer (some ⟨pw, 0, none⟩), .map (some pm), .int .i64 c.mode, .bool c.over, .int .i64 c.last, .int .i64 c.fr, .int .i64 c.to, .int .i64 c.res, .bool c.run]
def qg (dN : Bool) (c : kN) (u : List Value) : HP := if dN = true then qW fun (x : Nat × Nat × Nat × Nat × Nat) => fact (u = KU x.1 x.2.1 x.2.2.1 x.2.2.2.2 c) • JI x.1 x.2.1 x.2.2.1 x.2.2.2.1 x.2.2.2.2 c else (fact ((u.all fun x => x.oneCell') = true))
def JJ (hl : List oG) (c : kN) : Prop := 0 ≤ c.place ∧ c.place ≤ hl.length ∧ (∀ k t, c.tx k = some t → t.size ≤ 16384)
def uh (e : dU) : Prop := 0 ≤ e.1 ∧ 0 < e.2.1.length + e.2.2.length ∧ e.2.1.length ≤ 1024 ∧ e.2.2.length ≤ 1024
def jJ (s : aZ) : Prop := JJ s.hl s.c ∧ (s.dN = true → JJ s.hl s.was ∧ dR (s.was.un s.was.place) [] ≤ 16384 ∧ ∀ k, ∀ g ∈ s.was.un k, ∀ e ∈ g, uh e) ∧ (-1 ≤ s.arg ∧ s.arg ≤ 1000000) ∧ (∀ e ∈ s.put, uh e) ∧ dR s.here s.put ≤ 16384 ∧ (∀ k, ∀ g ∈ s.c.un k, ∀ e ∈ g, uh e)
structure EdP where
  pb : Nat
  pr : Nat
  pw : Nat
  pt : Nat
  pm : Nat
  ph : Nat
  bl : Nat
  pv : Value
  es : List cO
  u0 : Value
  u1 : Value
  u2 : Value
  u3 : Value
  u4 : Value
  u5 : Value
  u6 : Value
  u7 : Value
  u8 : Value
  u9 : Value
  ua : Value
def Xc (e : Nat) (s : aZ) (M : Nat → HP) : HP := qW fun (x : EdP) => fact (jJ s ∧ x.es.map cO.says = s.put) •
  dB e (.cells (.pointer (some ⟨x.pb, 0, none⟩) :: .pointer (some ⟨x.pr, 0, none⟩) :: .pointer (some ⟨x.pw, 0, none⟩) :: .map (some x.pm) :: .int .i64 s.c.mode :: .bool s.c.over :: .int .i64 s.c.last :: .int .i64 s.c.fr :: .int .i64 s.c.to :: .int .i64 s.c.res :: .bool s.c.run :: .pointer (some ⟨x.ph, 0, none⟩) :: .pointer (some ⟨x.bl, 0, none⟩) :: .bool s.given :: .bool s.minus :: .int .i64 s.arg :: .bool s.dN :: x.u0 :: x.u1 :: x.u2 :: x.u3 :: x.u4 :: x.u5 :: x.u6 :: x.u7 :: x.u8 :: x.u9 :: x.ua :: .int .i64 s.cls :: .bool s.killed :: .bool s.jX :: .bool s.argues :: .bool s.whole :: x.pv :: []).toArray 37 (0, 0)) •
  dJ x.pb s.c.L s.c.pt s.c.mark • bY x.pr s.c.E s.c.at_ • dB x.pw (.cells #[.int .i64 s.c.place, .map (some x.pt)] 85 (0, 0)) • dY oz x.pt (vH s.c.tx) • M x.pm •
  eG x.ph s.hl s.base s.most • dB x.bl (.cells #[.int .i64 s.vF] 106 (0, 0)) • Row 101 3 x.pv s.put.length (x.es.flatMap cO.enc) • iR x.es • qg s.dN s.was [x.u0, x.u1, x.u2, x.u3, x.u4, x.u5, x.u6, x.u7, x.u8, x.u9, x.ua]
def dw (e : Nat) (s : aZ) : HP := Xc e s fun pm => sN pm s.c.un
def Yf (e : Nat) (s : aZ) (p : Nat) : HP := Xc e s fun pm => EG pm s.c.un s.c.place p
section
variable {w0 w : World} {F : HP} {e : Nat} {s : aZ} {M : Nat → HP}
theorem aB.edG (H : aB w0 w (Xc e s M • F)) : ∃ pb pr pw pt pm ph bl pv es u0 u1 u2 u3 u4 u5 u6 u7 u8 u9 ua, jJ s ∧ es.map cO.says = s.put ∧ es.length = s.put.length ∧ aB w0 w (
  dB e (.cells (.pointer (some ⟨pb, 0, none⟩) :: .pointer (some ⟨pr, 0, none⟩) :: .pointer (some ⟨pw, 0, none⟩) :: .map (some pm) :: .int .i64 s.c.mode :: .bool s.c.over :: .int .i64 s.c.last :: .int .i64 s.c.fr :: .int .i64 s.c.to :: .int .i64 s.c.res :: .bool s.c.run :: .pointer (some ⟨ph, 0, none⟩) :: .pointer (some ⟨bl, 0, none⟩) :: .bool s.given :: .bool s.minus :: .int .i64 s.arg :: .bool s.dN :: u0 :: u1 :: u2 :: u3 :: u4 :: u5 :: u6 :: u7 :: u8 :: u9 :: ua :: .int .i64 s.cls :: .bool s.killed :: .bool s.jX :: .bool s.argues :: .bool s.whole :: pv :: []).toArray 37 (0, 0)) •
  dJ pb s.c.L s.c.pt s.c.mark • bY pr s.c.E s.c.at_ • dB pw (.cells #[.int .i64 s.c.place, .map (some pt)] 85 (0, 0)) • dY oz pt (vH s.c.tx) • M pm •
  eG ph s.hl s.base s.most • dB bl (.cells #[.int .i64 s.vF] 106 (0, 0)) • Row 101 3 pv s.put.length (es.flatMap cO.enc) • iR es • qg s.dN s.was [u0, u1, u2, u3, u4, u5, u6, u7, u8, u9, ua] • F) := by
  obtain ⟨⟨pb, pr, pw, pt, pm, ph, bl, pv, es, u0, u1, u2, u3, u4, u5, u6, u7, u8, u9, ua⟩, H⟩ := H.lg
  obtain ⟨⟨h1, h2⟩, H⟩ := H.flat.fact
  refine ⟨pb, pr, pw, pt, pm, ph, bl, pv, es, u0, u1, u2, u3, u4, u5, u6, u7, u8, u9, ua, h1, h2, ?_, ?_⟩
  · rw [← h2]; simp
  · dsimp only at H
    exact H.of_eq (by simp only [bT])
theorem aB.TW {pb pr pw pt pm ph bl : Nat} {pv : Value} {es : List cO} {u0 u1 u2 u3 u4 u5 u6 u7 u8 u9 ua : Value} (h1 : jJ s) (h2 : es.map cO.says = s.put) (H : aB w0 w (
  dB e (.cells (.pointer (some ⟨pb, 0, none⟩) :: .pointer (some ⟨pr, 0, none⟩) :: .pointer (some ⟨pw, 0, none⟩) :: .map (some pm) :: .int .i64 s.c.mode :: .bool s.c.over :: .int .i64 s.c.last :: .int .i64 s.c.fr :: .int .i64 s.c.to :: .int .i64 s.c.res :: .bool s.c.run :: .pointer (some ⟨ph, 0, none⟩) :: .pointer (some ⟨bl, 0, none⟩) :: .bool s.given :: .bool s.minus :: .int .i64 s.arg :: .bool s.dN :: u0 :: u1 :: u2 :: u3 :: u4 :: u5 :: u6 :: u7 :: u8 :: u9 :: ua :: .int .i64 s.cls :: .bool s.killed :: .bool s.jX :: .bool s.argues :: .bool s.whole :: pv :: []).toArray 37 (0, 0)) •
  dJ pb s.c.L s.c.pt s.c.mark • bY pr s.c.E s.c.at_ • dB pw (.cells #[.int .i64 s.c.place, .map (some pt)] 85 (0, 0)) • dY oz pt (vH s.c.tx) • M pm •
  eG ph s.hl s.base s.most • dB bl (.cells #[.int .i64 s.vF] 106 (0, 0)) • Row 101 3 pv s.put.length (es.flatMap cO.enc) • iR es • qg s.dN s.was [u0, u1, u2, u3, u4, u5, u6, u7, u8, u9, ua] • F)) : aB w0 w (Xc e s M • F) :=
  aB.gQ ⟨pb, pr, pw, pt, pm, ph, bl, pv, es, u0, u1, u2, u3, u4, u5, u6, u7, u8, u9, ua⟩ (aB.deep (aB.jq ⟨h1, h2⟩ (H.of_eq (by simp only [bT]))))
theorem aB.dF {pb pr pw pt pm ph bl : Nat} {pv : Value} {es : List cO} {u0 u1 u2 u3 u4 u5 u6 u7 u8 u9 ua : Value} (h1 : jJ s) (h2 : es.map cO.says = s.put) (H : aB w0 w (
  dB e (.cells (.pointer (some ⟨pb, 0, none⟩) :: .pointer (some ⟨pr, 0, none⟩) :: .pointer (some ⟨pw, 0, none⟩) :: .map (some pm) :: .int .i64 s.c.mode :: .bool s.c.over :: .int .i64 s.c.last :: .int .i64 s.c.fr :: .int .i64 s.c.to :: .int .i64 s.c.res :: .bool s.c.run :: .pointer (some ⟨ph, 0, none⟩) :: .pointer (some ⟨bl, 0, none⟩) :: .bool s.given :: .bool s.minus :: .int .i64 s.arg :: .bool s.dN :: u0 :: u1 :: u2 :: u3 :: u4 :: u5 :: u6 :: u7 :: u8 :: u9 :: ua :: .int .i64 s.cls :: .bool s.killed :: .bool s.jX :: .bool s.argues :: .bool s.whole :: pv :: []).toArray 37 (0, 0)) •
  dJ pb s.c.L s.c.pt s.c.mark • bY pr s.c.E s.c.at_ • dB pw (.cells #[.int .i64 s.c.place, .map (some pt)] 85 (0, 0)) • dY oz pt (vH s.c.tx) • sN pm s.c.un •
  eG ph s.hl s.base s.most • dB bl (.cells #[.int .i64 s.vF] 106 (0, 0)) • Row 101 3 pv s.put.length (es.flatMap cO.enc) • iR es • qg s.dN s.was [u0, u1, u2, u3, u4, u5, u6, u7, u8, u9, ua] • F)) : aB w0 w (dw e s • F) := aB.TW (M := fun pm => sN pm s.c.un) h1 h2 H
theorem aB.AA (H : aB w0 w (dw e s • F)) : ∃ pb pr pw pt pm ph bl pv es u0 u1 u2 u3 u4 u5 u6 u7 u8 u9 ua, jJ s ∧ es.map cO.says = s.put ∧ es.length = s.put.length ∧ aB w0 w (
  dB e (.cells (.pointer (some ⟨pb, 0, none⟩) :: .pointer (some ⟨pr, 0, none⟩) :: .pointer (some ⟨pw, 0, none⟩) :: .map (some pm) :: .int .i64 s.c.mode :: .bool s.c.over :: .int .i64 s.c.last :: .int .i64 s.c.fr :: .int .i64 s.c.to :: .int .i64 s.c.res :: .bool s.c.run :: .pointer (some ⟨ph, 0, none⟩) :: .pointer (some ⟨bl, 0, none⟩) :: .bool s.given :: .bool s.minus :: .int .i64 s.arg :: .bool s.dN :: u0 :: u1 :: u2 :: u3 :: u4 :: u5 :: u6 :: u7 :: u8 :: u9 :: ua :: .int .i64 s.cls :: .bool s.killed :: .bool s.jX :: .bool s.argues :: .bool s.whole :: pv :: []).toArray 37 (0, 0)) •
  dJ pb s.c.L s.c.pt s.c.mark • bY pr s.c.E s.c.at_ • dB pw (.cells #[.int .i64 s.c.place, .map (some pt)] 85 (0, 0)) • dY oz pt (vH s.c.tx) • sN pm s.c.un •
  eG ph s.hl s.base s.most • dB bl (.cells #[.int .i64 s.vF] 106 (0, 0)) • Row 101 3 pv s.put.length (es.flatMap cO.enc) • iR es • qg s.dN s.was [u0, u1, u2, u3, u4, u5, u6, u7, u8, u9, ua] • F) := H.edG
end
end Go.Proofs.YtgndbccogcofjaaGreatDoor
end
section
namespace Go.Proofs.YtgndbccogcofjaaGreatDoor
open Go.RowKit
open _root_.Go.Proofs.Tryz
def Ir {β : Type} (f : Int → Option β) (S : List Int) : Int → Option β := fun k => if k ∈ S then f k else none
theorem OW {β : Type} (f : Int → Option β) : Ir f [] = fun _ => none := by funext k; simp [Ir]
theorem MV {β : Type} {f : Int → Option β} {S : List Int} {a : Int} {u : β} (h : f a = some u) : Ir f (S ++ [a]) = upd (Ir f S) a u := by
  funext k
  unfold Ir upd
  by_cases hk : k = a
  · subst hk; simp [h]
  · simp [hk]
theorem OX {β : Type} {f : Int → Option β} {S : List Int} (h : ∀ a u, f a = some u → a ∈ S) : Ir f S = f := by
  funext k
  unfold Ir
  split
  · rfl
  · rename_i hk
    cases hf : f k with
    | none => rfl
    | some u => exact absurd (h k u hf) hk
theorem KX (P : Int → Nat) : Iq [] P = fun _ => none := by funext k; simp [Iq]
theorem OY {D : List Int} {P : Int → Nat} {a : Int} {u : Value} (h : Iq D P a = some u) : a ∈ D ∧ u = .pointer (some ⟨P a, 0, none⟩) := by
  unfold Iq at h
  split at h
  · rename_i hm; exact ⟨hm, by cases h; rfl⟩
  · cases h
theorem Iu {S : List Int} {P : Int → Nat} {a : Int} {q : Nat} (h : a ∉ S) : Iq (S ++ [a]) (wH P a q) = upd (Iq S P) a (.pointer (some ⟨q, 0, none⟩)) := by
  funext k
  unfold Iq upd wH
  by_cases hk : k = a
  · subst hk; simp
  · simp [hk]
theorem CW {P : Int → Nat} {U : Int → List (List dU)} {a : Int} : ∀ {S : List Int}, zT P U (S ++ [a]) = (zT P U S • dQ (P a) (U a) [] 0)
  | [] => by show (dQ (P a) (U a) [] 0 • emp) = (emp • dQ (P a) (U a) [] 0); rw [oQ, iY]
  | x :: S => by
    show (dQ (P x) (U x) [] 0 • zT P U (S ++ [a])) = ((dQ (P x) (U x) [] 0 • zT P U S) • dQ (P a) (U a) [] 0)
    rw [CW, bT]
theorem EH {α : Type} {o : Option α} (h : ¬ o.isSome = true) : o = none := by cases o <;> simp_all
theorem CX {S : List Int} {a : Int} (h : S.Nodup) (ha : a ∉ S) : (S ++ [a]).Nodup := by
  rw [List.nodup_append]
  exact ⟨h, by simp, by intro x hx y hy; rw [List.mem_singleton.1 hy]; rintro rfl; exact ha hx⟩
section
variable {w0 w : World} {F : HP} {pb pr pw pt pm : Nat} {c : kN}
theorem Iw (H : aB w0 w (dJ pb c.L c.pt c.mark • bY pr c.E c.at_ • dB pw (.cells #[.int .i64 c.place, .map (some pt)] 85 (0, 0)) • dY oz pt (vH c.tx) • sN pm c.un • F)) :
  fA prog 44 #[.agg #[.pointer (some ⟨pb, 0, none⟩), .pointer (some ⟨pr, 0, none⟩), .pointer (some ⟨pw, 0, none⟩), .map (some pm), .int .i64 c.mode, .bool c.over, .int .i64 c.last, .int .i64 c.fr, .int .i64 c.to, .int .i64 c.res, .bool c.run]] w fun v w' =>
   ∃ qb qr qw qt qm, v = .agg #[.pointer (some ⟨qb, 0, none⟩), .pointer (some ⟨qr, 0, none⟩), .pointer (some ⟨qw, 0, none⟩), .map (some qm), .int .i64 c.mode, .bool c.over, .int .i64 c.last, .int .i64 c.fr, .int .i64 c.to, .int .i64 c.res, .bool c.run] ∧
    aB w0 w' (dJ qb c.L c.pt c.mark • bY qr c.E c.at_ • dB qw (.cells #[.int .i64 c.place, .map (some qt)] 85 (0, 0)) • dY oz qt (vH c.tx) • sN qm c.un •
     dJ pb c.L c.pt c.mark • bY pr c.E c.at_ • dB pw (.cells #[.int .i64 c.place, .map (some pt)] 85 (0, 0)) • dY oz pt (vH c.tx) • sN pm c.un • F) := by
 refine fU func44 ntmps44 ?_
 dsimp only [aY, Nat.reduceAdd]
 refine ay (ah (ji (iG (l := [_, _, _, _, _, _, _, _, _, _, _]) H rfl rfl) ?_))
 rintro _ w1 ⟨b1, rfl, H1⟩
 refine ji (fV (l := [_, _, _, _, _, _, _, _, _, _, _]) H1 zeroValue32 rfl) ?_
 rintro _ w2 ⟨b2, rfl, H2⟩
 refine aA (aj (ay ?_))
 have Oo := H2.drew
 have rY := aB.kp (Oo.f7.f7.f7.f7.f7.f7.f7)
 refine yQ [1, 4] rY rfl (gG 0 rfl rY 0 underlying32 rfl sizeOf27 rfl (je 1 rfl rY (fun W hW => jE underlying27 rfl ((Kp.h hW).f2).get.2 rfl) (gG 3 rfl rY 1 underlying32 rfl sizeOf28 rfl (je 4 rfl rY (fun W hW => jE underlying28 rfl ((Kp.h hW).f2).get.2 rfl) (jQ 2 rfl (wK rfl func115 (DI Oo.f3)) ?_)))))
 rintro _ w3 ⟨q3, rfl, H3⟩
 have DW := aB.kp (H3.f8.f8.f8.f8.f8.f8.f8.f8)
 refine dP DW (fun W hW => (Kp.h hW).right.f7.f7.f7.f7.f5.f7.f7) ?_
 refine gG 6 rfl DW 0 underlying32 rfl sizeOf27 rfl (jQ 5 rfl (wK rfl func99 (BQ H3.f5)) ?_)
 rintro _ w4 ⟨pc4, rfl, H4⟩
 have wG := aB.kp (H4.f9.f9.f9.f9.f9.f9.f9.f9.f9)
 refine fF wG (by kernel_rfl) ?_
 refine fH 7 rfl (by kernel_rfl) (aQ 0 (l' := [_, _, _, _, _, _, _, _, _, _, _]) H4.f6 sizeOf27 rfl rfl (by first | rfl | assumption) rfl rfl) ?_
 rintro _ w5 H5
 have JC := aB.kp (H5.f9.f9.f9.f9.f9.f9.f9.f9.f9)
 refine fF JC (by kernel_rfl) ?_
 refine gG 8 rfl JC 1 underlying32 rfl sizeOf28 rfl ?_
 refine fH 9 rfl (by kernel_rfl) (aQ 1 (l' := [_, _, _, _, _, _, _, _, _, _, _]) H5 sizeOf28 rfl rfl (by first | rfl | assumption) rfl rfl) ?_
 rintro _ w6 H6
 have Iy := aB.kp (H6.f9.f9.f9.f9.f9.f9.f9.f9.f9)
 refine fF Iy (by kernel_rfl) ?_
 refine pU (aj (ay (ah (bg 2 underlying32 rfl sizeOf29 rfl (dS underlying29 rfl (H6).get.2 rfl (bP rfl (bg 0 underlying85 rfl sizeOf3 rfl (dS underlying3 rfl (H6.f7).get.2 rfl (ji (gU (wF .i64) H6) ?_)))))))))
 rintro _ w7 ⟨b7, rfl, H7⟩
 refine aW (dW (pl := #[(0, 1), (1, 1)]) (#[_, _]) underlying85 zeroValue85 (fun w => by kernel_rfl) rfl (rfl)) (ji (iG (l := [_, _]) H7 rfl rfl) ?_)
 rintro _ w8 ⟨b8, rfl, H8⟩
 refine aU rfl (aA (aj (ay (ay (ah (bg 2 underlying32 rfl sizeOf29 rfl (dS underlying29 rfl (H8.f3).get.2 rfl (bP rfl (bg 1 underlying85 rfl sizeOf83 rfl (dS underlying83 rfl (H8.f9).get.2 rfl (ji (zM H8.f10 underlying83 rfl) ?_)))))))))))
 rintro _ w9 ⟨it9, mi, rfl, H9⟩
 refine aA (aj (bC ?_))
 obtain ⟨R10, Yg, Yh⟩ := aB.D9 (H9.f2.f3.f3)
 have HX0 := Yh
 rw [← OW (vH c.tx)] at HX0
 refine ig [(1, _), (2, _), (3, _), (30, _)] (fun (⟨S, n⟩ : List Int × Nat) => []) (fun (⟨S, n⟩ : List Int × Nat) W => aB w0 W (yg oz pt it9 (vH c.tx) S n • dY oz b7 (Ir (vH c.tx) S) • dB b8 (.cells #[.int .i64 c.place, .map (some b7)] 85 (0, 0)) • R10)) (fun (⟨S, n⟩ : List Int × Nat) => n) (([], _)) (Sub.cons rfl (Sub.cons rfl (Sub.cons rfl (Sub.cons rfl (Sub.nil _))))) (Sub.nil _) HX0 ?_
 rintro ⟨S, n⟩ He HL
 dsimp only [List.cons_append, List.nil_append]
 refine ay (ah (ji (BA HL rfl) ?_))
 rintro _ w12 ⟨ox, Sx, mx, rfl, VP, wE⟩
 refine aW (RD rfl) (aA (aj (ay (aN rfl (fun h1 => ?_) (fun h1 => ?_)))))
 ·(try simp only [aH] at h1)
  try (exfalso; first | contradiction | omega)
  all_goals
   obtain ⟨⟨a, u⟩, rfl⟩ := Option.isSome_iff_exists.1 h1
   obtain ⟨ha, hns, hlt, rfl⟩ := VP
   refine aP (aj (bC (ay (ah ?_))))
   refine aW (KF (wE) (by assumption) rfl) ?_
   refine Ar rfl rfl (Ar rfl rfl (aU rfl (aU rfl (aA (aj (ah (aO rfl (bP rfl (bg 1 underlying85 rfl sizeOf83 rfl (dS underlying83 rfl (wE.f3).get.2 rfl (aO rfl (aO rfl (aG (qN wE.f2 underlying83 underlying3 rfl rfl rfl) ?_)))))))))))))
   rintro _ ND vY
   refine aA (aS ?_)
   have hres := MV (S := S) ha
   refine fD ((S ++ [a], mx)) ?_ ?_ ?_ ?_
   ·exact (Sub.nil _)
   ·exact (Sub.cons rfl (Sub.cons rfl (Sub.cons rfl (Sub.cons rfl (Sub.nil _)))))
   ·(try dsimp only)
    first | done | exact (by rw [hres]; exact vY.f3.f2.f3)
   ·(try dsimp only); omega
 ·(try simp only [aH] at h1)
  try (exfalso; first | contradiction | omega)
  all_goals
   obtain rfl := EH (o := ox) (by simp [h1])
   obtain ⟨rfl, rfl, hall⟩ := VP
   refine eU (aX ?_)
   have HX := wE.f3.f2.f3
   rw [OX hall] at HX
   have Yi := HX.f2
   have Yj := Yi.Eo
   subst Yg
   refine aX (bV (aj (ay (ah (aO rfl (bg 2 underlying32 rfl sizeOf29 rfl (aG (aQ 2 (l' := [_, _, _, _, _, _, _, _, _, _, _]) Yj.f4 sizeOf29 rfl rfl (by first | rfl | assumption) rfl rfl) ?_)))))))
   rintro _ w16 tJ
   refine aA (aj (ay (ah (ji (gU (wF .i64) tJ) ?_))))
   rintro _ Uw ⟨b17, rfl, Fj⟩
   refine aU rfl (aA (aj (ay (ay ?_))))
   obtain ⟨D, P, hD1, hD2, HU⟩ := (Fj.f12).VO
   refine ah (bg 3 underlying32 rfl sizeOf30 rfl (dS underlying30 rfl (HU.f4).get.2 rfl (ji (zM HU underlying30 rfl) ?_)))
   rintro _ Rx ⟨Yk, mi, rfl, Ei⟩
   refine aA (aj (bC ?_))
   obtain ⟨R19, Yl, Ym⟩ := aB.D9 (Ei.f3.f3.f3)
   have HX0 := Ym
   rw [← KX P] at HX0
   refine ig [(1, _), (2, _), (6, _), (47, _)] (fun (⟨S, n, P2⟩ : List Int × Nat × (Int → Nat)) => []) (fun (⟨S, n, P2⟩ : List Int × Nat × (Int → Nat)) W => S.Nodup ∧ aB w0 W (yg oz pm Yk (Iq D P) S n • zT P c.un D • dY oz b17 (Iq S P2) • zT P2 c.un S • R19)) (fun (⟨S, n, P2⟩ : List Int × Nat × (Int → Nat)) => n) (([], _, P)) (Sub.cons rfl (Sub.cons rfl (Sub.cons rfl (Sub.cons rfl (Sub.nil _))))) (Sub.nil _) ⟨List.nodup_nil, (HX0).of_eq (by show _ = (_ • _ • _ • emp • _); rw [iY])⟩ ?_
   rintro ⟨S, n, P2⟩ Ry ⟨hS, HL⟩
   dsimp only [List.cons_append, List.nil_append]
   refine ay (ah (ji (BA HL rfl) ?_))
   rintro _ Ti ⟨ox, Sx, mx, rfl, VP, oM⟩
   refine aW (RD rfl) (aA (aj (ay (aN rfl (fun h2 => ?_) (fun h2 => ?_)))))
   ·(try simp only [aH] at h2)
    try (exfalso; first | contradiction | omega)
    all_goals
     obtain ⟨⟨a, u⟩, rfl⟩ := Option.isSome_iff_exists.1 h2
     obtain ⟨ha, hns, hlt, rfl⟩ := VP
     obtain ⟨hmem, rfl⟩ := OY ha
     have HF := oM.f2
     rw [sK hmem] at HF
     have HF2 := HF.flat
     refine aP (aj (bC (ay (ah ?_))))
     refine aW (KF (HF2.f3) (by assumption) rfl) ?_
     refine Ar rfl rfl (Ar rfl rfl (aU rfl (aU rfl (aA (aj (ah (aO rfl (aO rfl (aO rfl (bZ rfl func116 (CJ HF2) ?_))))))))))
     rintro _ WS ⟨q22, rfl, GV⟩
     refine aG (qN GV.f5 underlying30 underlying3 rfl rfl rfl) ?_
     rintro _ RG yR
     refine aA (aS ?_)
     have HQ := yR.f2.f6.f3.f5.f5.f6
     have hu1 : zT (wH P2 a q22) c.un (S ++ [a]) = (zT P2 c.un S • dQ q22 (c.un a) [] 0) := by
      rw [CW, fB, vZ (P' := P2) (U' := c.un) fun x hx => ⟨sG _ _ (by rintro rfl; exact hns hx), rfl⟩]
     refine fD ((S ++ [a], mx, wH P2 a q22)) ?_ ?_ ?_ ?_
     ·exact (Sub.nil _)
     ·exact (Sub.cons rfl (Sub.cons rfl (Sub.cons rfl (Sub.cons rfl (Sub.nil _)))))
     ·(try dsimp only)
      first | done | exact ⟨CX hS hns, HQ.of_eq (by rw [sK hmem, hu1, Iu hns]; ac_rfl)⟩
     ·(try dsimp only); omega
   ·(try simp only [aH] at h2)
    try (exfalso; first | contradiction | omega)
    all_goals
     obtain rfl := EH (o := ox) (by simp [h2])
     obtain ⟨rfl, rfl, hall⟩ := VP
     refine eU (aX ?_)
     have Yn := oM
     have Yo := Yn.Eo
     subst Yl
     have Yp := Yo.f2.f2
     have Yq := aB.Az hD1 hD2 Yp
     have hnS : ∀ k, k ∉ Sx → c.un k = [] := fun k hk => hD2 k fun hkD => hk (hall k _ (if_pos hkD))
     have Yr := Yq.f3.f3
     have Yt := aB.Az hS hnS Yr
     refine aX (bV (aj (ay (ah (aO rfl (bg 3 underlying32 rfl sizeOf30 rfl (aG (aQ 3 (l' := [_, _, _, _, _, _, _, _, _, _, _]) Yt.f3 sizeOf30 rfl rfl (by first | rfl | assumption) rfl rfl) ?_)))))))
     rintro _ Xw Og
     refine aA (aj (ay (ah (aW (bW underlying32 rfl sizeOf32 rfl rfl (Og).get.2) (aG (cZ 0 (l' := [_, _, _, _, _, _, _, _, _, _, _]) (us := [_, _, _, _, _, _, _, _, _, _, _]) Og.f11 sizeOf32 rfl rfl rfl (aC (by first | rfl | assumption) (aC (by first | rfl | assumption) (aC (by first | rfl | assumption) (aC (by first | rfl | assumption) (aC (by first | rfl | assumption) (aC (by first | rfl | assumption) (aC (by first | rfl | assumption) (aC (by first | rfl | assumption) (aC (by first | rfl | assumption) (aC (by first | rfl | assumption) (aC (by first | rfl | assumption) bU))))))))))) rfl rfl) ?_)))))
     rintro _ Vj Jj
     refine aA (aj (aJ ?_))
     refine sZ (.inl rfl) (NV results44 rfl underlying32 rfl (by rw [show (prog.info? 32).map (·.size) = some 11 from by kernel_rfl]; rfl) (Jj).get.2) ?_
     exact ⟨_, _, _, _, _, rfl, Jj.right.right.f2.f3.f10.f8.f10.f6.f7.f8.f9.f10⟩
end
end Go.Proofs.YtgndbccogcofjaaGreatDoor
end
section
namespace Go.Proofs.YtgndbccogcofjaaGreatDoor
open Go.RowKit
open _root_.Go.Proofs.Tryz
def JK (D : List Int) (P : Int → Nat) (k : Int) : Option Addr := if k ∈ D then some ⟨P k, 0, none⟩ else none
theorem QL (D : List Int) (P : Int → Nat) (k : Int) : (Iq D P k).getD (.pointer none) = .pointer (JK D P k) := by unfold Iq JK; split <;> rfl
theorem OZ {D : List Int} {P : Int → Nat} {k : Int} (h : k ∈ D) : JK D P k = some ⟨P k, 0, none⟩ := if_pos h
theorem MW {D : List Int} {P : Int → Nat} {k : Int} (h : (JK D P k).isNone = false) : k ∈ D := by
  unfold JK at h
  split at h
  · assumption
  · cases h
theorem MX {D : List Int} {P : Int → Nat} {k : Int} (h : (JK D P k).isNone = true) : k ∉ D := by
  unfold JK at h
  split at h
  · cases h
  · assumption
theorem yG {s : aZ} (h : ¬ s.sH = 0) : s.dN = false ∧ s.sH = 1 := by
  unfold aZ.sH at *
  cases hi : s.dN <;> simp_all
theorem vI {s : aZ} (h : s.sH = 0) : s.dN = true := by
  unfold aZ.sH at h
  cases hi : s.dN <;> simp_all
theorem aB.Yu {w0 w : World} {A B C F : HP} (H : aB w0 w (A • B • C • F)) : aB w0 w (A • (B • C) • F) := H.of_eq (by rw [bT])
section
variable {w0 w : World} {F : HP} {e p : Nat} {s : aZ}
theorem ku (H : aB w0 w (dw e s • F)) : fA prog 32 #[.pointer (some ⟨e, 0, none⟩)] w fun v w' => v = .bool false ∧ w = w' := by
 refine fU func32 ntmps32 ?_
 dsimp only [aY, Nat.reduceAdd]
 refine ay (ah (aU rfl (aA (aj (ay ?_)))))
 obtain ⟨qy, qA, qB, qC, qE, qF, qG, qH, oH, mP, mQ, mV, mW, mX, mY, mZ, ng, ni, ny, nC, dD, bG, fZ, dG⟩ := (H).AA
 refine ah (aO rfl (aW (eu underlying26 rfl rfl) (gB rfl (fun h1 => ?_) (fun h1 => ?_))))
 ·(try simp only [aH] at h1)
  try (exfalso; first | contradiction | omega)
  all_goals
   refine bD (bD (bD (bD (bD (fQ rfl rfl (aU rfl (aA (aj (aJ (aI (.inl rfl) results32 rfl ?_))))))))))
   exact ⟨rfl, rfl⟩
 ·(try simp only [aH] at h1)
  try (exfalso; first | contradiction | omega)
  all_goals
   refine bf (aO rfl (bf (bP rfl (bf (bg 11 underlying37 rfl sizeOf33 rfl (bf (dS underlying33 rfl (dG).get.2 rfl (bf (aW (eu underlying33 rfl rfl) (fG rfl rfl (aU rfl (aA (aj (aJ (aI (.inl rfl) results32 rfl ?_)))))))))))))))
   exact ⟨rfl, rfl⟩
theorem jm (H : aB w0 w (dw e s • F)) : fA prog 94 #[.pointer (some ⟨e, 0, none⟩)] w fun v w' => v = .int .i64 s.sH ∧ w = w' := by
 unfold aZ.sH
 refine fU func94 ntmps94 ?_
 dsimp only [aY, Nat.reduceAdd]
 refine ay (ah (aU rfl (aA (aj (ay (bC (ay (ah (aO rfl (bZ rfl func32 (ku H) ?_))))))))))
 rintro _ _ ⟨rfl, rfl⟩
 refine aU rfl (aA (aj (oK (ay ?_))))
 obtain ⟨qy, qA, qB, qC, qE, qF, qG, qH, oH, mP, mQ, mV, mW, mX, mY, mZ, ng, ni, ny, nC, dD, bG, fZ, dG⟩ := (H).AA
 refine ah (aO rfl (bP rfl (bg 16 underlying37 rfl sizeOf4 rfl (dS underlying4 rfl (dG).get.2 rfl (aW (jS rfl) (aU rfl (aA (aj (aN rfl (fun h1 => ?_) (fun h1 => ?_))))))))))
 ·(try simp only [aH] at h1)
  try (exfalso; first | contradiction | omega)
  all_goals
   refine ay (ah (aU rfl (aA (aj (aJ (aV (aK (aI (.inl rfl) results94 rfl ?_))))))))
   exact ⟨by simp [*], rfl⟩
 ·(try simp only [aH] at h1)
  try (exfalso; first | contradiction | omega)
  all_goals
   refine aP (aS (aj (ay (ah (aU rfl (aA (aj (aJ (aI (.inl rfl) results94 rfl ?_)))))))))
   exact ⟨by simp [*], rfl⟩
theorem vJ {x0 x1 x4 x5 x6 x7 x8 x9 x10 x11 x12 Xd x14 x15 x16 x17 x18 x19 x20 x21 VQ x23 x24 x25 VR x27 x28 x29 x30 x31 x32 VT : Value} {pw pt pm : Nat} {k : Int} {U : Int → List (List dU)} (H : aB w0 w (dB e (.cells (x0 :: x1 :: .pointer (some ⟨pw, 0, none⟩) :: .map (some pm) :: x4 :: x5 :: x6 :: x7 :: x8 :: x9 :: x10 :: x11 :: x12 :: Xd :: x14 :: x15 :: x16 :: x17 :: x18 :: x19 :: x20 :: x21 :: VQ :: x23 :: x24 :: x25 :: VR :: x27 :: x28 :: x29 :: x30 :: x31 :: x32 :: VT :: []).toArray 37 (0, 0)) • dB pw (.cells #[.int .i64 k, .map (some pt)] 85 (0, 0)) • sN pm U • F)) : fA prog 160 #[.pointer (some ⟨e, 0, none⟩)] w fun v w' => ∃ p, v = .pointer (some ⟨p, 0, none⟩) ∧
  aB w0 w' (dQ p (U k) [] 0 • EG pm U k p • dB e (.cells (x0 :: x1 :: .pointer (some ⟨pw, 0, none⟩) :: .map (some pm) :: x4 :: x5 :: x6 :: x7 :: x8 :: x9 :: x10 :: x11 :: x12 :: Xd :: x14 :: x15 :: x16 :: x17 :: x18 :: x19 :: x20 :: x21 :: VQ :: x23 :: x24 :: x25 :: VR :: x27 :: x28 :: x29 :: x30 :: x31 :: x32 :: VT :: []).toArray 37 (0, 0)) • dB pw (.cells #[.int .i64 k, .map (some pt)] 85 (0, 0)) • F) := by
 refine fU func160 ntmps160 ?_
 dsimp only [aY, Nat.reduceAdd]
 refine ay (ah (aU rfl (aA (aj (ay ?_)))))
 obtain ⟨D, P, hD1, hD2, HU⟩ := (H.f3).VO
 have JL := HU.drew
 have jh := aB.kp (JL.f4.f4.f4.f4)
 refine yQ [4, 9, 12, 13] jh rfl (iE 0 rfl jh rfl (jF 1 rfl jh rfl (gG 2 rfl jh 0 underlying37 rfl sizeOf32 rfl (gG 3 rfl jh 3 underlying32 rfl sizeOf30 rfl (je 4 rfl jh (fun W hW => jE underlying30 rfl ((Kp.h hW).f3).get.2 rfl) (iE 5 rfl jh rfl (jF 6 rfl jh rfl (gG 7 rfl jh 0 underlying37 rfl sizeOf32 rfl (gG 8 rfl jh 2 underlying32 rfl sizeOf29 rfl (je 9 rfl jh (fun W hW => jE underlying29 rfl ((Kp.h hW).f3).get.2 rfl) (jF 10 rfl jh rfl (gG 11 rfl jh 0 underlying85 rfl sizeOf3 rfl (je 12 rfl jh (fun W hW => jE underlying3 rfl ((Kp.h hW).f4).get.2 rfl) (je 13 rfl jh (fun W hW => Xl (Bv ((Kp.h hW)) underlying30 underlying3 zeroValue117 rfl rfl) (QL D P k)) (jc 14 rfl jh (fun _ => fO rfl) (pU (aj (ay (ay (ah (aO rfl (aW (eu underlying117 rfl rfl) (aA (aj (aN rfl (fun h1 => ?_) (fun h1 => ?_))))))))))))))))))))))))))
 ·(try simp only [aH] at h1)
  try (exfalso; first | contradiction | omega)
  all_goals
   have hnm := MX h1
   refine ay (ah (bZ rfl func215 (FP JL) ?_))
   rintro _ w1 ⟨p1, rfl, H1⟩
   refine aU rfl (aA (aj ?_))
   have VU := H1.drew
   have qj := aB.kp (VU.f5.f5.f5.f5.f5)
   refine yQ [4, 9, 12] qj rfl (iE 0 rfl qj rfl (jF 1 rfl qj rfl (gG 2 rfl qj 0 underlying37 rfl sizeOf32 rfl (gG 3 rfl qj 3 underlying32 rfl sizeOf30 rfl (je 4 rfl qj (fun W hW => jE underlying30 rfl ((Kp.h hW).f4).get.2 rfl) (iE 5 rfl qj rfl (jF 6 rfl qj rfl (gG 7 rfl qj 0 underlying37 rfl sizeOf32 rfl (gG 8 rfl qj 2 underlying32 rfl sizeOf29 rfl (je 9 rfl qj (fun W hW => jE underlying29 rfl ((Kp.h hW).f4).get.2 rfl) (jF 10 rfl qj rfl (gG 11 rfl qj 0 underlying85 rfl sizeOf3 rfl (je 12 rfl qj (fun W hW => jE underlying3 rfl ((Kp.h hW).f5).get.2 rfl) (iE 13 rfl qj rfl ?_))))))))))))))
   refine fH 14 rfl (by kernel_rfl) (qN VU.f2 underlying30 underlying3 rfl rfl rfl) ?_
   rintro _ w2 H2
   have TD := aB.kp (H2.f5.f5.f5.f5.f5)
   refine fF TD (by kernel_rfl) ?_
   refine pU (aj (ay (ah (aO rfl (aU rfl (aA (aj (aJ (aI (.inl rfl) results160 rfl ?_)))))))))
   have hu1 : zT (wH P k p1) U (D ++ [k]) = (zT P U D • dQ p1 [] [] 0) := by
    rw [CW, fB, hD2 _ hnm, vZ (P' := P) (U' := U) fun x hx => ⟨sG _ _ (by rintro rfl; exact hnm hx), rfl⟩]
   have HM := aB.Yu H2.f5.f5.f4.f5.f5
   rw [← hu1, ← Iu hnm] at HM
   have HZ := aB.RY (k := k) (CX hD1 hnm) (fun k hk => hD2 k fun hm => hk (by simp [hm])) (by simp) HM
   rw [fB] at HZ
   exact ⟨_, rfl, HZ⟩
 ·(try simp only [aH] at h1)
  try (exfalso; first | contradiction | omega)
  all_goals
   have hmem := MW h1
   rw [OZ hmem]
   refine aP (aj (ay (ah (aO rfl (aU rfl (aA (aj (aJ (aI (.inl rfl) results160 rfl ?_)))))))))
   exact ⟨_, rfl, aB.RY hD1 hD2 hmem JL.f4.f4.f4.f4⟩
theorem aB.F7 {b p : Nat} {k : Int} {U : Int → List (List dU)} (H : aB w0 w (EG b U k p • dQ p (U k) [] 0 • F)) : aB w0 w (sN b U • F) := by
  have := H.sO
  rwa [QH] at this
end
end Go.Proofs.YtgndbccogcofjaaGreatDoor
end
section
namespace Go.Proofs.YtgndbccogcofjaaGreatDoor
open Go.RowKit Go.Lib
section
variable {P : Program} {L : List (Nat × Value)} {w0 w : World} {F : HP} {ty : TypeId} {b : Nat} {v d : Int} {t : TypeId}
theorem O4 {T : Value → World → Prop} {f : FuncId} {args : List Operand} {ts : Array TypeId} {vs : List Value} {fn : Func} {e : Array Value → Sem Value} {v : Value} {w' : World} (ha : xK L args = some vs)
    (hf : P.funcs[f]? = some fn) (hname : (fn.name == "runtime.NumGoroutine") = false) (hb : fn.body.isNone = true) (hn : Extern.findNext fn = none) (he : Extern.find fn = some e) (hr : (e vs.toArray).run P w = .ok v w') (ht : T v w') :
    pJ P L (.call ⟨.value (.func f), args.toArray, ts⟩) ty w T := nD (v := v) (w' := w') (fun ρ hρ _ _ _ _ => by
  have hg : ρ (.func f) = .func (.func f) #[] #[] := hρ _ _ rfl
  have hc := run_callFunc_extern hf hname hb hn he vs.toArray w
  rw [hr] at hc
  simp [execOp, resolve, invoke, Us hρ _ _ ha, hg, Deferred.ofValue]
  exact hc) ht
theorem JM (hc : w.cell? ⟨b, 0, none⟩ = some (.int .i64 v)) : (Extern.Atomic.loadT (.int .i64) #[.pointer (some ⟨b, 0, none⟩)]).run P w = .ok (.int .i64 v) w := by
  change Sem.run P (do Extern.Atomic.read (.int .i64) (← asAddr (.pointer (some ⟨b, 0, none⟩)))) w = _
  simp [Extern.Atomic.read, asAddr, hc, Result.andThen]
theorem QM {f : FuncId} {args : List Operand} {ts : Array TypeId} {fn : Func} (H : aB w0 w (dB b (.cells #[.int .i64 v] t (0, 0)) • F)) (ha : xK L args = some [.pointer (some ⟨b, 0, none⟩), .int .i64 d])
    (hf : P.funcs[f]? = some fn) (hname : (fn.name == "runtime.NumGoroutine") = false) (hb : fn.body.isNone = true) (hn : Extern.findNext fn = none) (he : Extern.find fn = some (Extern.Atomic.update (Op.intArith .add) .i64 true)) :
    pJ P L (.call ⟨.value (.func f), args.toArray, ts⟩) ty w fun u w' => u = .int .i64 (IntKind.i64.wrap (v + d)) ∧ aB w0 w' (dB b (.cells #[.int .i64 (IntKind.i64.wrap (v + d))] t (0, 0)) • F) :=
  O4 ha hf hname hb hn he (Conc.run_add_entry (fK H.get.2 rfl) (uQ H.get.2)) ⟨rfl, H.setCell (i := 0) _⟩
theorem O5 {f : FuncId} {args : List Operand} {ts : Array TypeId} {fn : Func} (H : aB w0 w (dB b (.cells #[.int .i64 v] t (0, 0)) • F)) (ha : xK L args = some [.pointer (some ⟨b, 0, none⟩)])
    (hf : P.funcs[f]? = some fn) (hname : (fn.name == "runtime.NumGoroutine") = false) (hb : fn.body.isNone = true) (hn : Extern.findNext fn = none) (he : Extern.find fn = some (Extern.Atomic.loadT (.int .i64))) :
    pJ P L (.call ⟨.value (.func f), args.toArray, ts⟩) ty w fun u w' => u = .int .i64 v ∧ w = w' :=
  O4 ha hf hname hb hn he (JM (fK H.get.2 rfl)) ⟨rfl, rfl⟩
theorem yH (H : aB w0 w (dB b (.cells #[.int .i64 v] t (0, 0)) • F)) : fA Tryz.prog 95 #[.pointer (some ⟨b, 0, none⟩), .int .i64 d] w fun u w' => u = .int .i64 (IntKind.i64.wrap (v + d)) ∧ aB w0 w' (dB b (.cells #[.int .i64 (IntKind.i64.wrap (v + d))] t (0, 0)) • F) := by
 refine fU Tryz.func95 Tryz.ntmps95 ?_
 dsimp only [aY, Nat.reduceAdd]
 refine ay (ah (aU rfl (aA (aj (ay (ah (aO rfl (bP rfl (bg 0 Tryz.underlying106 rfl Tryz.sizeOf2 rfl (aO rfl (ji (QM H rfl Tryz.func159 rfl rfl (by kernel_rfl) (by kernel_rfl)) ?_)))))))))))
 rintro _ w1 ⟨rfl, H1⟩
 refine aU rfl (aA (aj (aJ (aI (.inl rfl) Tryz.results95 rfl ?_))))
 exact ⟨rfl, H1⟩
theorem DY (H : aB w0 w (dB b (.cells #[.int .i64 v] t (0, 0)) • F)) : fA Tryz.prog 36 #[.pointer (some ⟨b, 0, none⟩)] w fun u w' => u = .int .i64 v ∧ w = w' := by
 refine fU Tryz.func36 Tryz.ntmps36 ?_
 dsimp only [aY, Nat.reduceAdd]
 refine ay (ah (aU rfl (aA (aj (ay (ah (aO rfl (bP rfl (bg 0 Tryz.underlying106 rfl Tryz.sizeOf2 rfl (ji (O5 H rfl Tryz.func106 rfl rfl (by kernel_rfl) (by kernel_rfl)) ?_))))))))))
 rintro _ _ ⟨rfl, rfl⟩
 refine aU rfl (aA (aj (aJ (aI (.inl rfl) Tryz.results36 rfl ?_))))
 exact ⟨rfl, rfl⟩
end
end Go.Proofs.YtgndbccogcofjaaGreatDoor
end
section
namespace Go.Proofs.YtgndbccogcofjaaGreatDoor
open Go.RowKit
inductive Cells : Nat → Nat → List (Nat × Nat) → List Value → List (Nat × Value) → List Value → Prop
  | nil {i o : Nat} : Cells i o [] [] [] []
  | one {i o : Nat} {pl : List (Nat × Nat)} {z : List Value} {vs : List (Nat × Value)} {cs : List Value} {v zv : Value} (h : v.oneCell' = true) (k : Cells (i + 1) (o + 1) pl z vs cs) : Cells i o ((o, 1) :: pl) (zv :: z) ((i, v) :: vs) (v :: cs)
  | agg {i o m : Nat} {pl : List (Nat × Nat)} {z : List Value} {vs : List (Nat × Value)} {cs us zs : List Value} (hm : us.length = m) (hz : zs.length = m) (k : Cells (i + 1) (o + m) pl z vs cs) : Cells i o ((o, m) :: pl) (zs ++ z) ((i, .agg us.toArray) :: vs) (us ++ cs)
  | zero {i o m : Nat} {pl : List (Nat × Nat)} {z : List Value} {vs : List (Nat × Value)} {cs zs : List Value} (hz : zs.length = m) (k : Cells (i + 1) (o + m) pl z vs cs) : Cells i o ((o, m) :: pl) (zs ++ z) vs (zs ++ cs)
theorem JO {v : Value} (h : v.oneCell' = true) : v.cells = #[v] := by cases v <;> simp_all [Value.cells, Value.oneCell']
theorem EI {pl : Array (Nat × Nat)} {i o m : Nat} {v : Value} {vs : List (Nat × Value)} {pre zs us z : List Value} {R : Option (Array Value)} (hp : pl[i]? = some (o, m)) (ho : pre.length = o) (hv : v.cells = us.toArray) (hm : us.length = m) (hz : zs.length = m)
    (h : Instr.fill (fun i => pl[i]?) (pre ++ us ++ z).toArray vs = R) : Instr.fill (fun i => pl[i]?) (pre ++ (zs ++ z)).toArray ((i, v) :: vs) = R := by
  simp only [Instr.fill]
  rw [hp]
  dsimp only
  rw [hv, if_neg (by simp; omega)]
  have hfr := Oq us o 0 (pre ++ (zs ++ z)).toArray (by simp; omega)
  simp only [Nat.add_zero] at hfr
  rw [← Array.foldl_toList, Array.toList_zipIdx]
  simp only [List.toList_toArray] at hfr ⊢
  rw [show (us.zipIdx.foldl (fun cs (x : Value × Nat) => cs.setIfInBounds (o + x.2) x.1) (pre ++ (zs ++ z)).toArray) = _ from hfr]
  rw [← h]
  congr 2
  subst ho
  rw [List.take_left, ← List.append_assoc pre zs z, show pre.length + us.length = (pre ++ zs).length from by simp; omega, List.drop_left]
theorem JQ {i o : Nat} {pl : List (Nat × Nat)} {z cs : List Value} {vs : List (Nat × Value)} (h : Cells i o pl z vs cs) : ∀ {pp : List (Nat × Nat)} {pre : List Value}, pp.length = i → pre.length = o →
    Instr.fill (fun j => (pp ++ pl).toArray[j]?) (pre ++ z).toArray vs = some (pre ++ cs).toArray := by
  induction h with
  | nil => intro pp pre _ _; rfl
  | @one i o pl z vs cs v zv h k ih =>
    intro pp pre h1 h2
    refine EI (zs := [zv]) (us := [v]) (o := o) (m := 1) (by simp [← h1]) h2 (JO h) rfl rfl ?_
    have := ih (pp := pp ++ [(o, 1)]) (pre := pre ++ [v]) (by simp; omega) (by simp; omega)
    simpa using this
  | @agg i o m pl z vs cs us zs hm hz k ih =>
    intro pp pre h1 h2
    refine EI (zs := zs) (us := us) (o := o) (m := m) (by simp [← h1]) h2 rfl hm hz ?_
    have := ih (pp := pp ++ [(o, m)]) (pre := pre ++ us) (by simp; omega) (by simp; omega)
    simpa using this
  | @zero i o m pl z vs cs zs hz k ih =>
    intro pp pre h1 h2
    have := ih (pp := pp ++ [(o, m)]) (pre := pre ++ zs) (by simp; omega) (by simp; omega)
    simpa using this
section
variable {P : Program} {L : List (Nat × Value)} {w : World} {ty : TypeId}
theorem eH {t : TypeId} {fs : Array Field} {z : Value} {zl : List Value} {pl : List (Nat × Nat)} {ps : List (Nat × Operand)} {vs : List (Nat × Value)} {cs : List Value} (cells : List Value) (ht : P.underlying t = some (.struct fs)) (hz : ∀ w, (zeroValue t).run P w = .ok z w) (hzl : z.cells = zl.toArray)
    (hpl : ∀ w, (fs.mapM fun f => do pure (f.offset, ← sizeOf f.type) : Sem (Array (Nat × Nat))).run P w = .ok pl.toArray w) (hp : PY L ps = some vs) (hC : Cells 0 0 pl zl vs cs) (hcs : cs = cells) : Val P L (.build t ps.toArray) ty w (.agg cells.toArray) w := by
  subst hcs
  exact dW cs.toArray ht hz hpl hp (by rw [hzl]; exact JQ hC (pp := []) (pre := []) rfl rfl)
end
end Go.Proofs.YtgndbccogcofjaaGreatDoor
end
