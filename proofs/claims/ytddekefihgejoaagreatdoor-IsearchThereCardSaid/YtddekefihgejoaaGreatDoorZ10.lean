import Derived.Test.YtddekefihgejoaaGreatDoorZ2
import Derived.Test.YtddekefihgejoaaGreatDoorZ9
import Derived.Test.YtddekefihgejoaaGreatDoorZ5
import Derived.Lib.OthersKept
import Derived.Lib.Bytealg
import Derived.Conc.AtomicLaws2
import Derived.Test.YtddekefihgejoaaGreatDoorZ7
set_option linter.unusedSimpArgs false
set_option linter.unusedVariables false
/- Texts of mine, joined, their names in short: UGroups Ed EdTwin EdA Atom Build. -/
section
namespace Go.Proofs.YtddekefihgejoaaGreatDoor
open Go.RowKit
open _root_.Go.Proofs.Tryz
def xZ (c : Nat) (G : List (List fJ)) (N : List fJ) (k : Nat) : HP := qN fun (x : Value × List (Value × List dw)) => fact (x.2.map (fun g => g.2.map dw.says) = GU N ++ G.reverse.take k) • dh c (.cells #[x.1] 180 (0, 0)) • zi x.1 x.2
theorem rev_succ {G : List (List fJ)} {k : Nat} (hk : k < G.length) : G.reverse.take (k + 1) = G.reverse.take k ++ [G.getD (G.length - (k + 1)) []] := by
  rw [List.take_succ_eq_append_getElem (by simpa using hk)]
  congr 1
  rw [List.getElem_reverse, List.getD_eq_getElem?_getD, List.getElem?_eq_getElem (by omega)]
  have e : G.length - 1 - k = G.length - (k + 1) := by omega
  simp only [Option.getD_some, e]
section
variable {w0 w : World} {F : HP} {p c k : Nat} {G : List (List fJ)} {N : List fJ} {op : Int} {v u : Value} {es fs : List dw} {gs hs : List (Value × List dw)}
theorem aB.Jq (H : aB w0 w (xZ c G N k • F)) : ∃ u hs, hs.map (fun g => g.2.map dw.says) = GU N ++ G.reverse.take k ∧ hs.length ≤ G.length + 1 ∧ aB w0 w (dh c (.cells #[u] 180 (0, 0)) • Row 67 1 u hs.length (hs.map (·.1)) • nR hs • F) := by
  obtain ⟨⟨u, hs⟩, H⟩ := H.lD
  obtain ⟨h, H⟩ := H.flat.fact
  refine ⟨u, hs, h, ?_, (H.flat.swap.Vs).f3⟩
  have := congrArg List.length h
  have := Qy N
  simp only [List.length_map, List.length_append, List.length_take, List.length_reverse] at *
  omega
theorem aB.D8 (h : hs.map (fun g => g.2.map dw.says) = GU N ++ G.reverse.take k) (H : aB w0 w (dh c (.cells #[u] 180 (0, 0)) • zi u hs • F)) : aB w0 w (xZ c G N k • F) :=
  aB.gK (u, hs) (aB.deep (aB.jP h H.deep))
theorem Ox (H : aB w0 w F) (hv : v.oneCell' = true) : gG prog 164 #[v] w fun v' w' => ∃ b, v' = .func (.func 176) #[] #[.pointer (some ⟨b, 0, none⟩)] ∧ aB w0 w' (dh b (.cells #[v] 180 (0, 0)) • F) := by
 refine iF func164 ntmps164 ?_
 dsimp only [bg, Nat.reduceAdd]
 refine ay (ah (iw (jd (l := [_]) H rfl (by first | rfl | exact wX (by first | rfl | assumption))) ?_))
 rintro _ w1 ⟨b1, rfl, H1⟩
 refine aW rfl (aA (aj (ay (ah (aU (qR rfl rfl) (aW rfl (aA (aj (aK (aQ (.inl rfl) results164 rfl ?_))))))))))
 exact ⟨_, rfl, H1⟩
theorem La (b : Nat) : Iter prog w0 (.func (.func 176) #[] #[.pointer (some ⟨b, 0, none⟩)]) (dh b (.cells #[v] 180 (0, 0)) • Row 67 1 v gs.length (gs.map (·.1)) • nR gs) gs.length
  (fun k vs A => ∃ gl vH, gs.getD (gs.length - (k + 1)) default = (gl, vH) ∧ vs = [.int .i64 ((gs.length - (k + 1) : Nat) : Int), gl] ∧ A = zQ gl vH) := by
 intro l J X w hy H
 refine ⟨176, [], [.pointer (some ⟨b, 0, none⟩)], _, _, rfl, func176, rfl, rfl, ?_⟩
 have H1 : aB w0 w (dh b (.cells #[v] 180 (0, 0)) • Row 67 1 v gs.length (gs.map (·.1)) • nR gs • J 0) := H.of_eq (by ac_rfl)
 obtain ⟨a, c, hv, hc1, hc2, _⟩ := (H1.swap.aT).form
 subst hv
 simp only [List.nil_append, List.cons_append]
 refine iF func176 ntmps176 ?_
 dsimp only [bg, Nat.reduceAdd]
 refine ay (ah (eu underlying180 rfl (H1).get.2 rfl (aU (eX ((H1.f2).aT) underlying180 rfl) (aU (je rfl rfl (by omega)) (aW rfl (aA (aj (bf ?_))))))))
 refine eP [(0, _), (1, _)] (fun (k : Nat) => [(3, .int .i64 ((k : Int) - 1))]) (fun (k : Nat) W => k ≤ gs.length ∧ aB w0 W (dh b (.cells #[.slice a gs.length c] 180 (0, 0)) • Row 67 1 (.slice a gs.length c) gs.length (gs.map (·.1)) • nR gs • J (gs.length - k))) (fun (k : Nat) => k) (gs.length) (Sub.cons rfl (Sub.cons rfl (Sub.nil _))) (Sub.cons rfl (Sub.nil _)) ⟨by omega, by rw [Nat.sub_self]; exact H1⟩ ?_
 rintro k w1 ⟨hk, HL⟩
 dsimp only [List.cons_append, List.nil_append]
 refine ay (ay (ah (aI rfl (aU (o8 rfl rfl) (aA (aj (aP rfl (fun h1 => ?_) (fun h1 => ?_))))))))
 ·(try simp only [aG] at h1)
  try (exfalso; first | contradiction | omega)
  all_goals
   refine aO (aj (ay (bf (ay ?_))))
   obtain ⟨m, rfl⟩ : ∃ m, k = m + 1 := ⟨k - 1, by omega⟩
   rw [show (((m + 1 : Nat) : Int) - 1) = (m : Int) from by omega]
   have hkl : m < gs.length := by omega
   refine ah (aI rfl (aI rfl (eu underlying180 rfl (HL).get.2 rfl (aI rfl ?_))))
   obtain ⟨bv, ov, cv, ev⟩ := Rd.kV ((HL.f2).aT) (by omega)
   cases ev
   refine aU (bY underlying180 sizeOf67 rfl rfl (by omega)) ?_
   refine aU (dZ (bU underlying67 rfl) rfl (by first | exact Rd.nZ ((HL.f2).aT) (by omega) | exact Rd.AV ((HL.f2).aT) (by omega) | exact Rd.zX ((HL.f2).aT) (by omega))) ?_
   rw [show (gs.map (·.1)).getD m undef = (gs.getD m default).1 from by simp [List.getD_eq_getElem?_getD, hkl]]
   obtain ⟨gl, vH, hg⟩ : ∃ gl vH, gs.getD m default = (gl, vH) := ⟨_, _, rfl⟩
   rw [hg]
   have ZJ := HL.f3
   have ZK := ZJ.GN hkl hg
   refine iw (CP rfl rfl (hy (gs.length - (m + 1)) (by omega) _ _ ⟨gl, vH, by rw [show gs.length - (gs.length - (m + 1) + 1) = m from by omega]; exact hg, by rw [show gs.length - (gs.length - (m + 1) + 1) = m from by omega], rfl⟩ (nR gs • Row 67 1 (.slice (some ⟨bv, ov, none⟩) gs.length c) gs.length (gs.map (·.1)) • dh b (.cells #[.slice (some ⟨bv, ov, none⟩) gs.length c] 180 (0, 0))) _ (ZK.of_eq (by ac_rfl))).bool) ?_
   rintro _ w4 ⟨t, rfl, ht1, ht2⟩
   refine aU (gQ rfl) (aA (aj (aP rfl (fun h2 => ?_) (fun h2 => ?_))))
   ·(try simp only [aG] at h2)
    try (exfalso; first | contradiction | omega)
    all_goals
     have HX := ht2 (by simpa using h2)
     refine aK (aX (aN (aN (aX (gB (.inl rfl) results176 ?_)))))
     exact .inr (HX.of_eq (by ac_rfl))
   ·(try simp only [aG] at h2)
    try (exfalso; first | contradiction | omega)
    all_goals
     have HN : aB w0 w4 (dh b (.cells #[.slice (some ⟨bv, ov, none⟩) gs.length c] 180 (0, 0)) • Row 67 1 (.slice (some ⟨bv, ov, none⟩) gs.length c) gs.length (gs.map (·.1)) • nR gs • J (gs.length - m)) := by
      have h9 := ht1 (by simpa using h2)
      rw [show gs.length - (m + 1) + 1 = gs.length - m from by omega] at h9
      exact h9.of_eq (by ac_rfl)
     refine aO (aH (aj (ah (aI rfl (aU (je rfl rfl (by omega)) (aW rfl (aA ?_)))))))
     refine cO (m) ?_ ?_ ?_ ?_
     ·exact (Sub.cons rfl (Sub.nil _))
     ·exact (Sub.cons rfl (Sub.cons rfl (Sub.nil _)))
     ·(try dsimp only)
      first | done | exact ⟨by omega, HN.f3.f3.f3⟩
     ·(try dsimp only); omega
 ·(try simp only [aG] at h1)
  try (exfalso; first | contradiction | omega)
  all_goals
   refine dK (aV (aV (bD (gB (.inr rfl) results176 ?_))))
   obtain rfl : k = 0 := by omega
   rw [Nat.sub_zero] at HL
   exact .inl (HL.of_eq (by ac_rfl))
theorem BU (H : aB w0 w (dX p G N op • F)) : gG prog 129 #[.pointer (some ⟨p, 0, none⟩)] w fun v w' => ∃ c, v = .func (.func 165) #[] #[.pointer (some ⟨c, 0, none⟩)] ∧ aB w0 w' (xZ c G N G.length • dX p G N op • F) := by
 refine iF func129 ntmps129 ?_
 dsimp only [bg, Nat.reduceAdd]
 refine ay (ah (aW rfl (aA (aj (ay (ah (iw (cZ (l := [_]) H zeroValue180 rfl) ?_)))))))
 rintro _ w1 ⟨b1, rfl, H1⟩
 refine aA (aj (ay (ay (ah (aI rfl (dH rfl func161 (iO H1.f2) ?_))))))
 rintro _ _ ⟨rfl, rfl⟩
 refine aU (gQ rfl) ?_
 obtain ⟨vZ, tH, jE, jh, iT, oI, mJ, Ag, Ah, EP, kL⟩ := (H1.f2).qj
 have hLn : jh.length ≤ 16384 := by omega
 have hBn := Jj mJ iT.2.2.2.2.2
 refine aA (aj (aP rfl (fun h1 => ?_) (fun h => by exfalso; (try simp only [aG] at h); simp at h)))
 (try simp only [aG] at h1)
 refine lT [(0, _), (3, _)] (fun (_ : Unit) => []) (fun (_ : Unit) W => aB w0 W (xZ b1 G N 0 • dh p (.cells #[vZ, tH, .int .i64 op, .int .i64 (eY G N : Nat), .bool true] 233 (0, 0)) • Row 67 1 vZ jE.length (jE.map (·.1)) • nR jE • Row 202 3 tH jh.length (jh.flatMap dw.enc) • jo jh • F)) (Sub.cons rfl (Sub.cons rfl (Sub.nil _))) ?_ ?_
 ·rintro _ w4 HJ
  dsimp only [List.cons_append, List.nil_append]
  refine ay (ah (aI rfl (bQ rfl (bC 0 underlying233 rfl sizeOf231 rfl (bC 0 underlying231 rfl sizeOf180 rfl (eu underlying180 rfl (HJ.f2).get.2 rfl (dH rfl func164 (Ox HJ (Rd.one ((HJ.f3).aT))) ?_)))))))
  rintro _ w5 ⟨bB5, rfl, H5⟩
  refine aA (aj (bf ?_))
  obtain ⟨R6, YX, ZL⟩ := aB.WU (H5.f5.f5.f3.f4)
  refine qp rfl (La bB5) (fun k => xZ b1 G N k • R6) (fact False) (fun _ => fact False) (ZL.f4.f4.f4.f4.f4.f4.f4.g3.comm) (by rfl) ?_ ?_ ?_ ?_
  ·rintro l7 k TI vs7 A7 ⟨gl, vH, hg, rfl, rfl⟩ G7 w7 H7
   try simp only [bI, ji, nC] at H7
   refine ⟨rfl, ?_⟩
   dsimp only [Jg]
   obtain ⟨u, hs, Ou, Zz, HI⟩ := (H7.f2).Jq
   have hge : vH.map dw.says = G.getD (G.length - (k + 1)) [] := by
    rw [← Ag, ← oI]
    have h9 : (jE.map (fun g => g.2.map dw.says)).getD (jE.length - (k + 1)) [] = (jE.getD (jE.length - (k + 1)) default).2.map dw.says := by simp [List.getD_eq_getElem?_getD, show jE.length - (k + 1) < jE.length by omega]
    rw [h9, hg]
   have hgm : G.getD (G.length - (k + 1)) [] ∈ G := uw (by omega)
   have hBg := Jj hge (iT.2.2.2.2.1 _ hgm)
   have XM : vH.length ≤ 16384 := by
    have h8 := iT.2.1
    unfold eY at h8
    have h7 := congrArg List.length hge
    rw [List.length_map] at h7
    have h6 := GR hgm
    omega
   refine ah (aW rfl (aA ?_))
   refine GK (HI.g5) ?_
   intro G8 w8 H8
   try simp only [bI] at H8
   refine bf ?_
   have XT := H8.drew
   have QI := aB.kp (XT.f4.f4.f4.f4)
   refine wo [0] QI rfl (iy 0 rfl QI (fun W hW => iQ underlying180 rfl ((Kp.h hW)).get.2 rfl) (gV 1 rfl QI rfl (jr 2 rfl (rX rfl func162 (tJ XT.f4 hBg XM)) ?_)))
   rintro u9 w9 ⟨fs9, ZM, H9⟩
   obtain ⟨es2, rfl⟩ : ∃ q, q = fs9 := ⟨_, rfl⟩
   have hes2 := ZM
   have Qg := aB.kp (H9.f6.f6.f6.f6.f6.f6)
   refine bW Qg (fun W hW => (Kp.h hW).right.right.f4.f4.f4) ?_
   refine jr 3 rfl (jv (vs := [_]) H9 underlying180 sizeOf67 zeroValue67 rfl rfl rfl (by decide) (aC (by first | rfl | exact Rd.one ((H9).aT)) bn)) ?_
   rintro l10 w10 qL
   have Qq := aB.kp (qL.f7.f7.f7.f7.f7.f7.f7)
   refine bW Qq (fun W hW => (Kp.h hW).right.f6.f6.f6.f6.f6.f6) ?_
   refine jr 4 rfl (fP qL.f6 underlying180 (show (prog.info? 67).map (fun i => (i.zero, i.size, i.bytes)) = some (some (.slice none 0 0), 1, 24) by kernel_rfl) rfl rfl rfl ((qL).aT) (aC (by first | rfl | exact Rd.one ((qL.f2).aT)) bn) (by omega) (by omega)) ?_
   rintro XK Gq sD
   have ER := sD.f2.right
   have zn := aB.kp (ER.f6.f6.f6.f6.f6.f6)
   refine dR zn (by kernel_rfl) ?_
   refine dN 5 rfl (by kernel_rfl) (aS 0 (l' := [_]) ER.f5 sizeOf180 rfl rfl (by first | rfl | exact Rd.one ((ER).aT)) rfl rfl) ?_
   rintro _ O7 xQ
   have DT := aB.kp (xQ.f6.f6.f6.f6.f6.f6)
   refine dR DT (by kernel_rfl) ?_
   refine nJ (aH ?_)
   refine yx ?_
   have X := aB.rH (es := es2) (xQ.f5.right.f5.f3.f5.f5).deep
   exact (aB.D8 (hs := hs ++ [(u9, es2)]) (by rw [List.map_append, Ou, rev_succ (by omega), ← hge, ← hes2, List.append_assoc]; rfl) (aB.uF X.swap).swap).deep
  ·rintro D14 O8 zN
   have Qr := zN.ed
   try simp only [bI, ji, nC] at Qr
   have Vx := Qr.Io
   subst YX
   refine aH (aj (ay (ah (aU (qR rfl rfl) (aW rfl (aA (aj (aK ?_))))))))
   refine yQ (.inl rfl) (Vx) (fun Sv xE => ?_)
   refine ⟨_, SI results129 rfl, ?_⟩
   have hgl : xZ b1 G N jE.length = xZ b1 G N G.length := by rw [Ag]
   rw [hgl] at xE
   have ZN := xE.f7.f7.f5.f5.f7
   have ZO := aB.jw iT oI mJ rfl ZN
   exact ⟨_, rfl, ZO.f2.right.f2⟩
  ·rintro D w H; exact absurd H.swap.fact.1 id
  ·rintro id D w H; exact absurd H.swap.fact.1 fun h => h
 ·skip
  refine ay (ah (aI rfl (bQ rfl (bC 0 underlying233 rfl sizeOf231 rfl (bC 1 underlying231 rfl sizeOf67 rfl (eu underlying67 rfl (kL).get.2 rfl (aU (eX ((kL.f4).aT) underlying67 rfl) (aU (fB rfl rfl) (aA (aj (aP rfl (fun h2 => ?_) (fun h2 => ?_))))))))))))
  ·(try simp only [aG] at h2)
   have hN : GU N = [N] := if_neg (by rintro rfl; exact absurd Ah (by simp only [List.length_nil]; omega))
   have UR := kL.drew
   have yC := aB.kp (UR.f6.f6.f6.f6.f6.f6)
   refine wo [0, 5] yC rfl (iy 0 rfl yC (fun W hW => iQ underlying180 rfl ((Kp.h hW).f6).get.2 rfl) (gV 1 rfl yC rfl (iZ 2 rfl yC rfl (dV 3 rfl yC 0 underlying233 rfl sizeOf231 rfl (dV 4 rfl yC 1 underlying231 rfl sizeOf67 rfl (iy 5 rfl yC (fun W hW => iQ underlying67 rfl ((Kp.h hW)).get.2 rfl) (jr 6 rfl (rX rfl func162 (wL UR.f5.f5 hBn hLn)) ?_)))))))
   rintro u19 Sz ⟨ZP, XU, xk⟩
   obtain ⟨es1, rfl⟩ : ∃ q, q = ZP := ⟨_, rfl⟩
   have hes1 := XU
   have Jr := aB.kp (xk.f8.f8.f8.f8.f8.f8.f8.f8)
   refine bW Jr (fun W hW => (Kp.h hW).right.right.f6.f3.f3.f6.f6.f6) ?_
   refine jr 7 rfl (jv (vs := [_]) xk underlying180 sizeOf67 zeroValue67 rfl rfl rfl (by decide) (aC (by first | rfl | exact Rd.one ((xk).aT)) bn)) ?_
   rintro XV SA yJ
   have zB := aB.kp (yJ.f9.f9.f9.f9.f9.f9.f9.f9.f9)
   refine bW zB (fun W hW => (Kp.h hW).right.f8.f8.f8.f8.f8.f8.f8.f8) ?_
   refine jr 8 rfl (fP (yJ.iE none) underlying180 (show (prog.info? 67).map (fun i => (i.zero, i.size, i.bytes)) = some (some (.slice none 0 0), 1, 24) by kernel_rfl) rfl rfl rfl ((yJ).aT) (aC (by first | rfl | exact Rd.one ((yJ.f2).aT)) bn) (by omega) (by omega)) ?_
   rintro ZQ TA pF
   have BX := pF.f2.right
   have zC := aB.kp (BX.f9.f9.f9.f9.f9.f9.f9.f9.f9)
   refine dR zC (by kernel_rfl) ?_
   refine dN 9 rfl (by kernel_rfl) (aS 0 (l' := [_]) BX.f9 sizeOf180 rfl rfl (by first | rfl | exact Rd.one ((BX).aT)) rfl rfl) ?_
   rintro _ PZ vY
   have Bh := aB.kp (vY.f9.f9.f9.f9.f9.f9.f9.f9.f9)
   refine dR Bh (by kernel_rfl) ?_
   have X := aB.rH (es := es1) (vY.f6.f6.f9.f9.f9.f6.f7.f9.f9).deep
   have ZR : aB w0 PZ (xZ b1 G N 0 • dh p (.cells #[vZ, tH, .int .i64 op, .int .i64 (eY G N : Nat), .bool true] 233 (0, 0)) • Row 67 1 vZ jE.length (jE.map (·.1)) • nR jE • Row 202 3 tH jh.length (jh.flatMap dw.enc) • jo jh • F) :=
    aB.D8 (hs := [(u19, es1)]) (by rw [hN, ← mJ, ← hes1]; rfl) (aB.uF (gs := []) X.I8.f3.f3.f2).swap
   refine nJ ?_
   refine bF (()) ?_ ?_ ?_
   ·exact (Sub.nil _)
   ·exact (Sub.cons rfl (Sub.cons rfl (Sub.nil _)))
   ·(try dsimp only)
    first | done | exact ZR
  ·(try simp only [aG] at h2)
   have hN : GU N = [] := if_pos (by rw [← mJ, List.eq_nil_of_length_eq_zero (show jh.length = 0 by omega)]; rfl)
   have ZR : aB w0 w1 (xZ b1 G N 0 • dh p (.cells #[vZ, tH, .int .i64 op, .int .i64 (eY G N : Nat), .bool true] 233 (0, 0)) • Row 67 1 vZ jE.length (jE.map (·.1)) • nR jE • Row 202 3 tH jh.length (jh.flatMap dw.enc) • jo jh • F) :=
    aB.D8 (hs := []) (by rw [hN]; rfl) ((kL.f5.f5.f5.f5.f5.f6).zk none).swap
   refine aO ?_
   refine bF (()) ?_ ?_ ?_
   ·exact (Sub.nil _)
   ·exact (Sub.cons rfl (Sub.cons rfl (Sub.nil _)))
   ·(try dsimp only)
    first | done | exact ZR
theorem Js (c : Nat) (hB : ∀ g ∈ yA G N, ∀ e ∈ g, EB e) (hL : ∀ g ∈ yA G N, g.length ≤ 16384) : Iter prog w0 (.func (.func 165) #[] #[.pointer (some ⟨c, 0, none⟩)]) (xZ c G N G.length) (yA G N).length
  (fun k vs A => ∃ u, ∃ fs : List dw, fs.map dw.says = (yA G N).getD k [] ∧ vs = [u] ∧ A = EO u fs) := by
 intro l J X w hy H
 refine ⟨165, [], [.pointer (some ⟨c, 0, none⟩)], _, _, rfl, func165, rfl, rfl, ?_⟩
 obtain ⟨v, hs, Ou, Zz, H1⟩ := H.comm.Jq
 have XW := Ou
 rw [List.take_of_length_le (by simp), ← TL] at Ou
 have hlen : hs.length = (yA G N).length := by have := congrArg List.length Ou; simpa using this
 obtain ⟨a, d, hv, hc1, hc2, _⟩ := (H1.swap.aT).form
 subst hv
 simp only [List.nil_append, List.cons_append]
 refine iF func165 ntmps165 ?_
 dsimp only [bg, Nat.reduceAdd]
 refine ay (ah (eu underlying180 rfl (H1).get.2 rfl (aU (eX ((H1.f2).aT) underlying180 rfl) (aI rfl (aA (aj (bf ?_)))))))
 refine eP [(0, _), (5, _), (6, _)] (fun (k : Nat) => [(7, .int .i64 (k : Int))]) (fun (k : Nat) W => k ≤ hs.length ∧ aB w0 W (dh c (.cells #[.slice a hs.length d] 180 (0, 0)) • Row 67 1 (.slice a hs.length d) hs.length (hs.map (·.1)) • nR hs • J k)) (fun (k : Nat) => hs.length - k) (0) (Sub.cons rfl (Sub.cons rfl (Sub.cons rfl (Sub.nil _)))) (Sub.cons rfl (Sub.nil _)) ⟨by omega, H1⟩ ?_
 rintro k w1 ⟨hk, HL⟩
 dsimp only [List.cons_append, List.nil_append]
 refine ay (ah (aU (dB rfl rfl) (aA (aj (ay (aP rfl (fun h1 => ?_) (fun h1 => ?_)))))))
 ·(try simp only [aG] at h1)
  try (exfalso; first | contradiction | omega)
  all_goals
   refine aO (aj (ay (bf (ay (ah ?_)))))
   obtain ⟨bv, ov, cv, ev⟩ := Rd.kV ((HL.f2).aT) (by omega)
   cases ev
   refine aU (bY underlying180 sizeOf67 rfl rfl (by omega)) ?_
   refine aU (dZ (bU underlying67 rfl) rfl (by first | exact Rd.nZ ((HL.f2).aT) (by omega) | exact Rd.AV ((HL.f2).aT) (by omega) | exact Rd.zX ((HL.f2).aT) (by omega))) ?_
   have hkl : k < hs.length := by omega
   rw [show (hs.map (·.1)).getD k undef = (hs.getD k default).1 from by simp [List.getD_eq_getElem?_getD, hkl]]
   obtain ⟨gl, vH, hg⟩ : ∃ gl vH, hs.getD k default = (gl, vH) := ⟨_, _, rfl⟩
   rw [hg]
   have ZJ := HL.f3
   have ZK := ZJ.GN hkl hg
   have hge : vH.map dw.says = (yA G N).getD k [] := by
    rw [← Ou]
    have h9 : (hs.map (fun g => g.2.map dw.says)).getD k [] = (hs.getD k default).2.map dw.says := by simp [List.getD_eq_getElem?_getD, hkl]
    rw [h9, hg]
   have hgm : (yA G N).getD k [] ∈ yA G N := uw (by omega)
   have hBg := Jj hge (hB _ hgm)
   have XM : vH.length ≤ 16384 := by
    have h7 := congrArg List.length hge
    rw [List.length_map] at h7
    have := hL _ hgm
    omega
   refine aW rfl (aA (aj (ay (ah (aI rfl (aI rfl (dH rfl func162 (tJ ZK hBg XM) ?_)))))))
   rintro u4 w4 ⟨fs4, ZT, H4⟩
   obtain ⟨es2, rfl⟩ : ∃ q, q = fs4 := ⟨_, rfl⟩
   have hes2 := ZT
   have Hd5 := H4.f3.right
   refine iw (CP rfl rfl (hy k (by omega) _ _ ⟨_, es2, hes2.trans hge, rfl, rfl⟩ (nR hs • Row 67 1 (.slice (some ⟨bv, ov, none⟩) hs.length d) hs.length (hs.map (·.1)) • dh c (.cells #[.slice (some ⟨bv, ov, none⟩) hs.length d] 180 (0, 0))) _ (Hd5.of_eq (by unfold EO; ac_rfl))).bool) ?_
   rintro _ w6 ⟨t, rfl, ht1, ht2⟩
   refine aU (gQ rfl) (aA (aj (aP rfl (fun h2 => ?_) (fun h2 => ?_))))
   ·(try simp only [aG] at h2)
    try (exfalso; first | contradiction | omega)
    all_goals
     have HX := ht2 (by simpa using h2)
     refine aK (aX (aN (aN (aX (gB (.inl rfl) results165 ?_)))))
     exact .inr (aB.comm (aB.D8 (u := .slice (some ⟨bv, ov, none⟩) hs.length d) XW (HX.of_eq (by unfold zi; ac_rfl))))
   ·(try simp only [aG] at h2)
    try (exfalso; first | contradiction | omega)
    all_goals
     have HN : aB w0 w6 (dh c (.cells #[.slice (some ⟨bv, ov, none⟩) hs.length d] 180 (0, 0)) • Row 67 1 (.slice (some ⟨bv, ov, none⟩) hs.length d) hs.length (hs.map (·.1)) • nR hs • J (k + 1)) := by
      have h9 := ht1 (by simpa using h2)
      exact h9.of_eq (by ac_rfl)
     refine aO (aH (aj (ah (aU (dG rfl rfl (by omega)) (aI rfl (aA ?_))))))
     refine cO (k + 1) ?_ ?_ ?_ ?_
     ·exact (Sub.cons rfl (Sub.nil _))
     ·exact (Sub.cons rfl (Sub.cons rfl (Sub.cons rfl (Sub.nil _))))
     ·(try dsimp only)
      first | done | exact ⟨by omega, HN.f3.f3.f3⟩
     ·(try dsimp only); omega
 ·(try simp only [aG] at h1)
  try (exfalso; first | contradiction | omega)
  all_goals
   refine dK (aV (aV (bD (gB (.inr rfl) results165 ?_))))
   obtain rfl : k = hs.length := by omega
   rw [← hlen]
   exact .inl (aB.comm (aB.D8 (u := .slice a hs.length d) XW (HL.of_eq (by unfold zi; ac_rfl))))
end
end Go.Proofs.YtddekefihgejoaaGreatDoor
end
section
namespace Go.Proofs.YtddekefihgejoaaGreatDoor
open Go.RowKit
def Bj (P : Int → Nat) (U : Int → List (List fJ)) : List Int → HP
  | [] => emp
  | k :: D => dX (P k) (U k) [] 0 • Bj P U D
def Jt (D : List Int) (P : Int → Nat) : Int → Option Value := fun k => if k ∈ D then some (.pointer (some ⟨P k, 0, none⟩)) else none
theorem mD {P : Int → Nat} {U : Int → List (List fJ)} {k : Int} : ∀ {D : List Int}, k ∈ D → Bj P U D = (dX (P k) (U k) [] 0 • Bj P U (D.erase k))
  | x :: D, h => by
    by_cases e : x = k
    · subst e; rw [List.erase_cons_head]; rfl
    · rw [List.erase_cons_tail (by simpa using e)]
      have hk : k ∈ D := (List.mem_cons.1 h).resolve_left (Ne.symm e)
      show (dX (P x) (U x) [] 0 • Bj P U D) = _
      rw [mD hk]
      show (dX (P x) (U x) [] 0 • dX (P k) (U k) [] 0 • Bj P U (D.erase k)) = (dX (P k) (U k) [] 0 • (dX (P x) (U x) [] 0 • Bj P U (D.erase k)))
      ac_rfl
theorem xq {P P' : Int → Nat} {U U' : Int → List (List fJ)} : ∀ {D : List Int}, (∀ k ∈ D, P k = P' k ∧ U k = U' k) → Bj P U D = Bj P' U' D
  | [], _ => rfl
  | x :: D, h => by
    show (dX (P x) (U x) [] 0 • Bj P U D) = (dX (P' x) (U' x) [] 0 • Bj P' U' D)
    rw [(h x (by simp)).1, (h x (by simp)).2, xq fun k hk => h k (List.mem_cons_of_mem _ hk)]
def pV (b : Nat) (U : Int → List (List fJ)) : HP := qN fun (x : List Int × (Int → Nat)) => fact (x.1.Nodup ∧ ∀ k, k ∉ x.1 → U k = []) • dU lg b (Jt x.1 x.2) • Bj x.2 U x.1
def FH (b : Nat) (U : Int → List (List fJ)) (k : Int) (p : Nat) : HP := qN fun (x : List Int × (Int → Nat)) => fact (x.1.Nodup ∧ (∀ k, k ∉ x.1 → U k = []) ∧ k ∈ x.1 ∧ x.2 k = p) • dU lg b (Jt x.1 x.2) • Bj x.2 U (x.1.erase k)
section
variable {w0 w : World} {F : HP} {b p : Nat} {k : Int} {U : Int → List (List fJ)} {G : List (List fJ)}
theorem aB.QJ (H : aB w0 w (pV b U • F)) : ∃ D P, (D : List Int).Nodup ∧ (∀ k, k ∉ D → U k = []) ∧ aB w0 w (dU lg b (Jt D P) • Bj P U D • F) := by
  obtain ⟨⟨D, P⟩, H⟩ := H.lD
  obtain ⟨⟨h1, h2⟩, H⟩ := H.flat.fact
  exact ⟨D, P, h1, h2, H.flat⟩
theorem aB.xu {D : List Int} {P : Int → Nat} (h1 : D.Nodup) (h2 : ∀ k, k ∉ D → U k = []) (H : aB w0 w (dU lg b (Jt D P) • Bj P U D • F)) : aB w0 w (pV b U • F) :=
  aB.gK (D, P) (aB.deep (aB.jP ⟨h1, h2⟩ H.deep))
theorem aB.QK {D : List Int} {P : Int → Nat} (h1 : D.Nodup) (h2 : ∀ k, k ∉ D → U k = []) (hk : k ∈ D) (H : aB w0 w (dU lg b (Jt D P) • Bj P U D • F)) : aB w0 w (dX (P k) (U k) [] 0 • FH b U k (P k) • F) := by
  have H1 : aB w0 w ((dU lg b (Jt D P) • Bj P U (D.erase k)) • dX (P k) (U k) [] 0 • F) := H.of_eq (by rw [mD hk]; ac_rfl)
  have H2 : aB w0 w (FH b U k (P k) • dX (P k) (U k) [] 0 • F) := aB.gK (D, P) (aB.deep (aB.jP ⟨h1, h2, hk, rfl⟩ H1))
  exact H2.swap
theorem aB.uM (H : aB w0 w (FH b U k p • dX p G [] 0 • F)) : aB w0 w (pV b (tK U k G) • F) := by
  obtain ⟨⟨D, P⟩, H⟩ := H.lD
  obtain ⟨⟨h1, h2, hk, hp⟩, H⟩ := H.flat.fact
  dsimp only at h1 h2 hk hp H
  subst hp
  refine aB.xu (D := D) (P := P) h1 (fun x hx => ?_) ?_
  · rw [rM _ _ (by rintro rfl; exact hx hk)]; exact h2 x hx
  · rw [mD (U := tK U k G) hk, iK, xq (P' := P) (U' := U) fun x hx => ⟨rfl, rM _ _ (by rintro rfl; exact (List.Nodup.not_mem_erase h1) hx)⟩]
    exact H.of_eq (by ac_rfl)
end
def lq (t : Int → Option ByteArray) : Int → Option Value := fun k => (t k).map .string
def Lc (pb pr pw pt pm : Nat) (c : lK) : HP := dM pb c.L c.pt c.mark • dW pr c.E c.at_ • dh pw (.cells #[.int .i64 c.place, .map (some pt)] 125 (0, 0)) • dU lg pt (lq c.tx) • pV pm c.un
def Ju (pb pr pw pm : Nat) (c : lK) : List Value := [.pointer (some ⟨pb, 0, none⟩), .pointer (some ⟨pr, 0, none⟩), .pointer (some ⟨pw, 0, none⟩), .map (some pm), .int .i64 c.mode, .bool c.over, .int .i64 c.last, .int .i64 c.fr, .int .i64 c.to, .int .i64 c.res, .bool c.run]
def rP (inn : Bool) (c : lK) (u : List Value) : HP := if inn = true then qN fun (x : Nat × Nat × Nat × Nat × Nat) => fact (u = Ju x.1 x.2.1 x.2.2.1 x.2.2.2.2 c) • Lc x.1 x.2.1 x.2.2.1 x.2.2.2.1 x.2.2.2.2 c else emp
def Am (hl : List lC) (c : lK) : Prop := 0 ≤ c.place ∧ c.place ≤ hl.length ∧ (∀ k t, c.tx k = some t → t.size ≤ 16384)
def vM (e : fJ) : Prop := 0 ≤ e.1 ∧ 0 < e.2.1.length + e.2.2.length ∧ e.2.1.length ≤ 1024 ∧ e.2.2.length ≤ 1024
def jY (s : bH) : Prop := Am s.hl s.c ∧ (s.inn = true → Am s.hl s.was ∧ eY (s.was.un s.was.place) [] ≤ 16384 ∧ ∀ k, ∀ g ∈ s.was.un k, ∀ e ∈ g, vM e) ∧ (-1 ≤ s.arg ∧ s.arg ≤ 1000000) ∧ (∀ e ∈ s.put, vM e) ∧ eY s.here s.put ≤ 16384 ∧ (∀ k, ∀ g ∈ s.c.un k, ∀ e ∈ g, vM e)
structure EdP where
  pb : Nat
  pr : Nat
  pw : Nat
  pt : Nat
  pm : Nat
  ph : Nat
  bl : Nat
  pv : Value
  es : List dw
  u0 : Value
  u1 : Value
  u2 : Value
  u3 : Value
  u4 : Value
  u5 : Value
  u6 : Value
  u7 : Value
  u8 : Value
  u9 : Value
  ua : Value
def YZ (e : Nat) (s : bH) (M : Nat → HP) : HP := qN fun (x : EdP) => fact (jY s ∧ x.es.map dw.says = s.put) •
  dh e (.cells (.pointer (some ⟨x.pb, 0, none⟩) :: .pointer (some ⟨x.pr, 0, none⟩) :: .pointer (some ⟨x.pw, 0, none⟩) :: .map (some x.pm) :: .int .i64 s.c.mode :: .bool s.c.over :: .int .i64 s.c.last :: .int .i64 s.c.fr :: .int .i64 s.c.to :: .int .i64 s.c.res :: .bool s.c.run :: .pointer (some ⟨x.ph, 0, none⟩) :: .pointer (some ⟨x.bl, 0, none⟩) :: .bool s.given :: .bool s.minus :: .int .i64 s.arg :: .bool s.inn :: x.u0 :: x.u1 :: x.u2 :: x.u3 :: x.u4 :: x.u5 :: x.u6 :: x.u7 :: x.u8 :: x.u9 :: x.ua :: .int .i64 s.cls :: .bool s.killed :: .bool s.lW :: .bool s.argues :: .bool s.whole :: x.pv :: []).toArray 69 (0, 0)) •
  dM x.pb s.c.L s.c.pt s.c.mark • dW x.pr s.c.E s.c.at_ • dh x.pw (.cells #[.int .i64 s.c.place, .map (some x.pt)] 125 (0, 0)) • dU lg x.pt (lq s.c.tx) • M x.pm •
  dn x.ph s.hl s.base s.most • dh x.bl (.cells #[.int .i64 s.sH] 144 (0, 0)) • Row 202 3 x.pv s.put.length (x.es.flatMap dw.enc) • jo x.es • rP s.inn s.was [x.u0, x.u1, x.u2, x.u3, x.u4, x.u5, x.u6, x.u7, x.u8, x.u9, x.ua]
def dO (e : Nat) (s : bH) : HP := YZ e s fun pm => pV pm s.c.un
def ZU (e : Nat) (s : bH) (p : Nat) : HP := YZ e s fun pm => FH pm s.c.un s.c.place p
section
variable {w0 w : World} {F : HP} {e : Nat} {s : bH} {M : Nat → HP}
theorem aB.edG (H : aB w0 w (YZ e s M • F)) : ∃ pb pr pw pt pm ph bl pv es u0 u1 u2 u3 u4 u5 u6 u7 u8 u9 ua, jY s ∧ es.map dw.says = s.put ∧ es.length = s.put.length ∧ aB w0 w (
  dh e (.cells (.pointer (some ⟨pb, 0, none⟩) :: .pointer (some ⟨pr, 0, none⟩) :: .pointer (some ⟨pw, 0, none⟩) :: .map (some pm) :: .int .i64 s.c.mode :: .bool s.c.over :: .int .i64 s.c.last :: .int .i64 s.c.fr :: .int .i64 s.c.to :: .int .i64 s.c.res :: .bool s.c.run :: .pointer (some ⟨ph, 0, none⟩) :: .pointer (some ⟨bl, 0, none⟩) :: .bool s.given :: .bool s.minus :: .int .i64 s.arg :: .bool s.inn :: u0 :: u1 :: u2 :: u3 :: u4 :: u5 :: u6 :: u7 :: u8 :: u9 :: ua :: .int .i64 s.cls :: .bool s.killed :: .bool s.lW :: .bool s.argues :: .bool s.whole :: pv :: []).toArray 69 (0, 0)) •
  dM pb s.c.L s.c.pt s.c.mark • dW pr s.c.E s.c.at_ • dh pw (.cells #[.int .i64 s.c.place, .map (some pt)] 125 (0, 0)) • dU lg pt (lq s.c.tx) • M pm •
  dn ph s.hl s.base s.most • dh bl (.cells #[.int .i64 s.sH] 144 (0, 0)) • Row 202 3 pv s.put.length (es.flatMap dw.enc) • jo es • rP s.inn s.was [u0, u1, u2, u3, u4, u5, u6, u7, u8, u9, ua] • F) := by
  obtain ⟨⟨pb, pr, pw, pt, pm, ph, bl, pv, es, u0, u1, u2, u3, u4, u5, u6, u7, u8, u9, ua⟩, H⟩ := H.lD
  obtain ⟨⟨h1, h2⟩, H⟩ := H.flat.fact
  refine ⟨pb, pr, pw, pt, pm, ph, bl, pv, es, u0, u1, u2, u3, u4, u5, u6, u7, u8, u9, ua, h1, h2, ?_, ?_⟩
  · rw [← h2]; simp
  · dsimp only at H
    exact H.of_eq (by simp only [bI])
theorem aB.VI {pb pr pw pt pm ph bl : Nat} {pv : Value} {es : List dw} {u0 u1 u2 u3 u4 u5 u6 u7 u8 u9 ua : Value} (h1 : jY s) (h2 : es.map dw.says = s.put) (H : aB w0 w (
  dh e (.cells (.pointer (some ⟨pb, 0, none⟩) :: .pointer (some ⟨pr, 0, none⟩) :: .pointer (some ⟨pw, 0, none⟩) :: .map (some pm) :: .int .i64 s.c.mode :: .bool s.c.over :: .int .i64 s.c.last :: .int .i64 s.c.fr :: .int .i64 s.c.to :: .int .i64 s.c.res :: .bool s.c.run :: .pointer (some ⟨ph, 0, none⟩) :: .pointer (some ⟨bl, 0, none⟩) :: .bool s.given :: .bool s.minus :: .int .i64 s.arg :: .bool s.inn :: u0 :: u1 :: u2 :: u3 :: u4 :: u5 :: u6 :: u7 :: u8 :: u9 :: ua :: .int .i64 s.cls :: .bool s.killed :: .bool s.lW :: .bool s.argues :: .bool s.whole :: pv :: []).toArray 69 (0, 0)) •
  dM pb s.c.L s.c.pt s.c.mark • dW pr s.c.E s.c.at_ • dh pw (.cells #[.int .i64 s.c.place, .map (some pt)] 125 (0, 0)) • dU lg pt (lq s.c.tx) • M pm •
  dn ph s.hl s.base s.most • dh bl (.cells #[.int .i64 s.sH] 144 (0, 0)) • Row 202 3 pv s.put.length (es.flatMap dw.enc) • jo es • rP s.inn s.was [u0, u1, u2, u3, u4, u5, u6, u7, u8, u9, ua] • F)) : aB w0 w (YZ e s M • F) :=
  aB.gK ⟨pb, pr, pw, pt, pm, ph, bl, pv, es, u0, u1, u2, u3, u4, u5, u6, u7, u8, u9, ua⟩ (aB.deep (aB.jP ⟨h1, h2⟩ (H.of_eq (by simp only [bI]))))
theorem aB.dY {pb pr pw pt pm ph bl : Nat} {pv : Value} {es : List dw} {u0 u1 u2 u3 u4 u5 u6 u7 u8 u9 ua : Value} (h1 : jY s) (h2 : es.map dw.says = s.put) (H : aB w0 w (
  dh e (.cells (.pointer (some ⟨pb, 0, none⟩) :: .pointer (some ⟨pr, 0, none⟩) :: .pointer (some ⟨pw, 0, none⟩) :: .map (some pm) :: .int .i64 s.c.mode :: .bool s.c.over :: .int .i64 s.c.last :: .int .i64 s.c.fr :: .int .i64 s.c.to :: .int .i64 s.c.res :: .bool s.c.run :: .pointer (some ⟨ph, 0, none⟩) :: .pointer (some ⟨bl, 0, none⟩) :: .bool s.given :: .bool s.minus :: .int .i64 s.arg :: .bool s.inn :: u0 :: u1 :: u2 :: u3 :: u4 :: u5 :: u6 :: u7 :: u8 :: u9 :: ua :: .int .i64 s.cls :: .bool s.killed :: .bool s.lW :: .bool s.argues :: .bool s.whole :: pv :: []).toArray 69 (0, 0)) •
  dM pb s.c.L s.c.pt s.c.mark • dW pr s.c.E s.c.at_ • dh pw (.cells #[.int .i64 s.c.place, .map (some pt)] 125 (0, 0)) • dU lg pt (lq s.c.tx) • pV pm s.c.un •
  dn ph s.hl s.base s.most • dh bl (.cells #[.int .i64 s.sH] 144 (0, 0)) • Row 202 3 pv s.put.length (es.flatMap dw.enc) • jo es • rP s.inn s.was [u0, u1, u2, u3, u4, u5, u6, u7, u8, u9, ua] • F)) : aB w0 w (dO e s • F) := aB.VI (M := fun pm => pV pm s.c.un) h1 h2 H
theorem aB.D9 (H : aB w0 w (dO e s • F)) : ∃ pb pr pw pt pm ph bl pv es u0 u1 u2 u3 u4 u5 u6 u7 u8 u9 ua, jY s ∧ es.map dw.says = s.put ∧ es.length = s.put.length ∧ aB w0 w (
  dh e (.cells (.pointer (some ⟨pb, 0, none⟩) :: .pointer (some ⟨pr, 0, none⟩) :: .pointer (some ⟨pw, 0, none⟩) :: .map (some pm) :: .int .i64 s.c.mode :: .bool s.c.over :: .int .i64 s.c.last :: .int .i64 s.c.fr :: .int .i64 s.c.to :: .int .i64 s.c.res :: .bool s.c.run :: .pointer (some ⟨ph, 0, none⟩) :: .pointer (some ⟨bl, 0, none⟩) :: .bool s.given :: .bool s.minus :: .int .i64 s.arg :: .bool s.inn :: u0 :: u1 :: u2 :: u3 :: u4 :: u5 :: u6 :: u7 :: u8 :: u9 :: ua :: .int .i64 s.cls :: .bool s.killed :: .bool s.lW :: .bool s.argues :: .bool s.whole :: pv :: []).toArray 69 (0, 0)) •
  dM pb s.c.L s.c.pt s.c.mark • dW pr s.c.E s.c.at_ • dh pw (.cells #[.int .i64 s.c.place, .map (some pt)] 125 (0, 0)) • dU lg pt (lq s.c.tx) • pV pm s.c.un •
  dn ph s.hl s.base s.most • dh bl (.cells #[.int .i64 s.sH] 144 (0, 0)) • Row 202 3 pv s.put.length (es.flatMap dw.enc) • jo es • rP s.inn s.was [u0, u1, u2, u3, u4, u5, u6, u7, u8, u9, ua] • F) := H.edG
end
end Go.Proofs.YtddekefihgejoaaGreatDoor
end
section
namespace Go.Proofs.YtddekefihgejoaaGreatDoor
open Go.RowKit
open _root_.Go.Proofs.Tryz
def Jv {β : Type} (f : Int → Option β) (S : List Int) : Int → Option β := fun k => if k ∈ S then f k else none
theorem QL {β : Type} (f : Int → Option β) : Jv f [] = fun _ => none := by funext k; simp [Jv]
theorem Oy {β : Type} {f : Int → Option β} {S : List Int} {a : Int} {u : β} (h : f a = some u) : Jv f (S ++ [a]) = upd (Jv f S) a u := by
  funext k
  unfold Jv upd
  by_cases hk : k = a
  · subst hk; simp [h]
  · simp [hk]
theorem QM {β : Type} {f : Int → Option β} {S : List Int} (h : ∀ a u, f a = some u → a ∈ S) : Jv f S = f := by
  funext k
  unfold Jv
  split
  · rfl
  · rename_i hk
    cases hf : f k with
    | none => rfl
    | some u => exact absurd (h k u hf) hk
theorem MZ (P : Int → Nat) : Jt [] P = fun _ => none := by funext k; simp [Jt]
theorem QN {D : List Int} {P : Int → Nat} {a : Int} {u : Value} (h : Jt D P a = some u) : a ∈ D ∧ u = .pointer (some ⟨P a, 0, none⟩) := by
  unfold Jt at h
  split at h
  · rename_i hm; exact ⟨hm, by cases h; rfl⟩
  · cases h
theorem Jw {S : List Int} {P : Int → Nat} {a : Int} {q : Nat} (h : a ∉ S) : Jt (S ++ [a]) (tK P a q) = upd (Jt S P) a (.pointer (some ⟨q, 0, none⟩)) := by
  funext k
  unfold Jt upd tK
  by_cases hk : k = a
  · subst hk; simp
  · simp [hk]
theorem Ea {P : Int → Nat} {U : Int → List (List fJ)} {a : Int} : ∀ {S : List Int}, Bj P U (S ++ [a]) = (Bj P U S • dX (P a) (U a) [] 0)
  | [] => by show (dX (P a) (U a) [] 0 • emp) = (emp • dX (P a) (U a) [] 0); rw [nC, ji]
  | x :: S => by
    show (dX (P x) (U x) [] 0 • Bj P U (S ++ [a])) = ((dX (P x) (U x) [] 0 • Bj P U S) • dX (P a) (U a) [] 0)
    rw [Ea, bI]
theorem FI {α : Type} {o : Option α} (h : ¬ o.isSome = true) : o = none := by cases o <;> simp_all
theorem Eb {S : List Int} {a : Int} (h : S.Nodup) (ha : a ∉ S) : (S ++ [a]).Nodup := by
  rw [List.nodup_append]
  exact ⟨h, by simp, by intro x hx y hy; rw [List.mem_singleton.1 hy]; rintro rfl; exact ha hx⟩
section
variable {w0 w : World} {F : HP} {pb pr pw pt pm : Nat} {c : lK}
theorem QO (H : aB w0 w (dM pb c.L c.pt c.mark • dW pr c.E c.at_ • dh pw (.cells #[.int .i64 c.place, .map (some pt)] 125 (0, 0)) • dU lg pt (lq c.tx) • pV pm c.un • F)) :
  gG prog 80 #[.agg #[.pointer (some ⟨pb, 0, none⟩), .pointer (some ⟨pr, 0, none⟩), .pointer (some ⟨pw, 0, none⟩), .map (some pm), .int .i64 c.mode, .bool c.over, .int .i64 c.last, .int .i64 c.fr, .int .i64 c.to, .int .i64 c.res, .bool c.run]] w fun v w' =>
   ∃ qb qr qw qt qm, v = .agg #[.pointer (some ⟨qb, 0, none⟩), .pointer (some ⟨qr, 0, none⟩), .pointer (some ⟨qw, 0, none⟩), .map (some qm), .int .i64 c.mode, .bool c.over, .int .i64 c.last, .int .i64 c.fr, .int .i64 c.to, .int .i64 c.res, .bool c.run] ∧
    aB w0 w' (dM qb c.L c.pt c.mark • dW qr c.E c.at_ • dh qw (.cells #[.int .i64 c.place, .map (some qt)] 125 (0, 0)) • dU lg qt (lq c.tx) • pV qm c.un •
     dM pb c.L c.pt c.mark • dW pr c.E c.at_ • dh pw (.cells #[.int .i64 c.place, .map (some pt)] 125 (0, 0)) • dU lg pt (lq c.tx) • pV pm c.un • F) := by
 refine iF func80 ntmps80 ?_
 dsimp only [bg, Nat.reduceAdd]
 refine ay (ah (iw (jd (l := [_, _, _, _, _, _, _, _, _, _, _]) H rfl rfl) ?_))
 rintro _ w1 ⟨b1, rfl, H1⟩
 refine iw (cZ (l := [_, _, _, _, _, _, _, _, _, _, _]) H1 zeroValue64 rfl) ?_
 rintro _ w2 ⟨b2, rfl, H2⟩
 refine aA (aj (ay ?_))
 have Qb := H2.drew
 have uy := aB.kp (Qb.f7.f7.f7.f7.f7.f7.f7)
 refine wo [1, 4] uy rfl (dV 0 rfl uy 0 underlying64 rfl sizeOf59 rfl (iy 1 rfl uy (fun W hW => iQ underlying59 rfl ((Kp.h hW).f2).get.2 rfl) (dV 3 rfl uy 1 underlying64 rfl sizeOf60 rfl (iy 4 rfl uy (fun W hW => iQ underlying60 rfl ((Kp.h hW).f2).get.2 rfl) (jr 2 rfl (rX rfl func125 (EN Qb.f3)) ?_)))))
 rintro _ w3 ⟨q3, rfl, H3⟩
 have BQ := aB.kp (H3.f8.f8.f8.f8.f8.f8.f8.f8)
 refine bW BQ (fun W hW => (Kp.h hW).right.f7.f7.f7.f7.f5.f7.f7) ?_
 refine dV 6 rfl BQ 0 underlying64 rfl sizeOf59 rfl (jr 5 rfl (rX rfl func113 (wJ H3.f5)) ?_)
 rintro _ w4 ⟨pc4, rfl, H4⟩
 have uz := aB.kp (H4.f9.f9.f9.f9.f9.f9.f9.f9.f9)
 refine dR uz (by kernel_rfl) ?_
 refine dN 7 rfl (by kernel_rfl) (aS 0 (l' := [_, _, _, _, _, _, _, _, _, _, _]) H4.f6 sizeOf59 rfl rfl (by first | rfl | assumption) rfl rfl) ?_
 rintro _ w5 H5
 have uG := aB.kp (H5.f9.f9.f9.f9.f9.f9.f9.f9.f9)
 refine dR uG (by kernel_rfl) ?_
 refine dV 8 rfl uG 1 underlying64 rfl sizeOf60 rfl ?_
 refine dN 9 rfl (by kernel_rfl) (aS 1 (l' := [_, _, _, _, _, _, _, _, _, _, _]) H5 sizeOf60 rfl rfl (by first | rfl | assumption) rfl rfl) ?_
 rintro _ w6 H6
 have BZ := aB.kp (H6.f9.f9.f9.f9.f9.f9.f9.f9.f9)
 refine dR BZ (by kernel_rfl) ?_
 refine nJ (aj (ay (ah (bC 2 underlying64 rfl sizeOf61 rfl (eu underlying61 rfl (H6).get.2 rfl (bQ rfl (bC 0 underlying125 rfl sizeOf3 rfl (eu underlying3 rfl (H6.f7).get.2 rfl (iw (iW (xH .i64) H6) ?_)))))))))
 rintro _ w7 ⟨b7, rfl, H7⟩
 refine aU (fO (pl := #[(0, 1), (1, 1)]) (#[_, _]) underlying125 zeroValue125 (fun w => by kernel_rfl) rfl (rfl)) (iw (jd (l := [_, _]) H7 rfl rfl) ?_)
 rintro _ w8 ⟨b8, rfl, H8⟩
 refine aW rfl (aA (aj (ay (ay (ah (bC 2 underlying64 rfl sizeOf61 rfl (eu underlying61 rfl (H8.f3).get.2 rfl (bQ rfl (bC 1 underlying125 rfl sizeOf123 rfl (eu underlying123 rfl (H8.f9).get.2 rfl (iw (Bg H8.f10 underlying123 rfl) ?_)))))))))))
 rintro _ w9 ⟨it9, mi, rfl, H9⟩
 refine aA (aj (bf ?_))
 obtain ⟨R10, ZV, ZW⟩ := aB.CV (H9.f2.f3.f3)
 have HX0 := ZW
 rw [← QL (lq c.tx)] at HX0
 refine eP [(1, _), (2, _), (3, _), (30, _)] (fun (⟨S, n⟩ : List Int × Nat) => []) (fun (⟨S, n⟩ : List Int × Nat) W => aB w0 W (zA lg pt it9 (lq c.tx) S n • dU lg b7 (Jv (lq c.tx) S) • dh b8 (.cells #[.int .i64 c.place, .map (some b7)] 125 (0, 0)) • R10)) (fun (⟨S, n⟩ : List Int × Nat) => n) (([], _)) (Sub.cons rfl (Sub.cons rfl (Sub.cons rfl (Sub.cons rfl (Sub.nil _))))) (Sub.nil _) HX0 ?_
 rintro ⟨S, n⟩ Gq HL
 dsimp only [List.cons_append, List.nil_append]
 refine ay (ah (iw (D7 HL rfl) ?_))
 rintro _ w12 ⟨ox, Sx, mx, rfl, XY, vV⟩
 refine aU (UQ rfl) (aA (aj (ay (aP rfl (fun h1 => ?_) (fun h1 => ?_)))))
 ·(try simp only [aG] at h1)
  try (exfalso; first | contradiction | omega)
  all_goals
   obtain ⟨⟨a, u⟩, rfl⟩ := Option.isSome_iff_exists.1 h1
   obtain ⟨ha, hns, hlt, rfl⟩ := XY
   refine aO (aj (bf (ay (ah ?_))))
   refine aU (MX (vV) (by assumption) rfl) ?_
   refine wU rfl rfl (wU rfl rfl (aW rfl (aW rfl (aA (aj (ah (aI rfl (bQ rfl (bC 1 underlying125 rfl sizeOf123 rfl (eu underlying123 rfl (vV.f3).get.2 rfl (aI rfl (aI rfl (aJ (sN vV.f2 underlying123 underlying3 rfl rfl rfl) ?_)))))))))))))
   rintro _ O7 xQ
   refine aA (aH ?_)
   have hres := Oy (S := S) ha
   refine cO ((S ++ [a], mx)) ?_ ?_ ?_ ?_
   ·exact (Sub.nil _)
   ·exact (Sub.cons rfl (Sub.cons rfl (Sub.cons rfl (Sub.cons rfl (Sub.nil _)))))
   ·(try dsimp only)
    first | done | exact (by rw [hres]; exact xQ.f3.f2.f3)
   ·(try dsimp only); omega
 ·(try simp only [aG] at h1)
  try (exfalso; first | contradiction | omega)
  all_goals
   obtain rfl := FI (o := ox) (by simp [h1])
   obtain ⟨rfl, rfl, hall⟩ := XY
   refine dK (aV ?_)
   have HX := vV.f3.f2.f3
   rw [QM hall] at HX
   have QS := HX.f2
   have QT := QS.FD
   subst ZV
   refine aV (bD (aj (ay (ah (aI rfl (bC 2 underlying64 rfl sizeOf61 rfl (aJ (aS 2 (l' := [_, _, _, _, _, _, _, _, _, _, _]) QT.f4 sizeOf61 rfl rfl (by first | rfl | assumption) rfl rfl) ?_)))))))
   rintro _ w16 rV
   refine aA (aj (ay (ah (iw (iW (xH .i64) rV) ?_))))
   rintro _ UF ⟨b17, rfl, zO⟩
   refine aW rfl (aA (aj (ay (ay ?_))))
   obtain ⟨D, P, hD1, hD2, HU⟩ := (zO.f12).QJ
   refine ah (bC 3 underlying64 rfl sizeOf62 rfl (eu underlying62 rfl (HU.f4).get.2 rfl (iw (Bg HU underlying62 rfl) ?_)))
   rintro _ Tz ⟨ZX, mi, rfl, Bd⟩
   refine aA (aj (bf ?_))
   obtain ⟨R19, ZY, Z4⟩ := aB.CV (Bd.f3.f3.f3)
   have HX0 := Z4
   rw [← MZ P] at HX0
   refine eP [(1, _), (2, _), (6, _), (47, _)] (fun (⟨S, n, P2⟩ : List Int × Nat × (Int → Nat)) => []) (fun (⟨S, n, P2⟩ : List Int × Nat × (Int → Nat)) W => S.Nodup ∧ aB w0 W (zA lg pm ZX (Jt D P) S n • Bj P c.un D • dU lg b17 (Jt S P2) • Bj P2 c.un S • R19)) (fun (⟨S, n, P2⟩ : List Int × Nat × (Int → Nat)) => n) (([], _, P)) (Sub.cons rfl (Sub.cons rfl (Sub.cons rfl (Sub.cons rfl (Sub.nil _))))) (Sub.nil _) ⟨List.nodup_nil, (HX0).of_eq (by show _ = (_ • _ • _ • emp • _); rw [ji])⟩ ?_
   rintro ⟨S, n, P2⟩ SA ⟨hS, HL⟩
   dsimp only [List.cons_append, List.nil_append]
   refine ay (ah (iw (D7 HL rfl) ?_))
   rintro _ TA ⟨ox, Sx, mx, rfl, XY, pF⟩
   refine aU (UQ rfl) (aA (aj (ay (aP rfl (fun h2 => ?_) (fun h2 => ?_)))))
   ·(try simp only [aG] at h2)
    try (exfalso; first | contradiction | omega)
    all_goals
     obtain ⟨⟨a, u⟩, rfl⟩ := Option.isSome_iff_exists.1 h2
     obtain ⟨ha, hns, hlt, rfl⟩ := XY
     obtain ⟨hmem, rfl⟩ := QN ha
     have HF := pF.f2
     rw [mD hmem] at HF
     have HF2 := HF.flat
     refine aO (aj (bf (ay (ah ?_))))
     refine aU (MX (HF2.f3) (by assumption) rfl) ?_
     refine wU rfl rfl (wU rfl rfl (aW rfl (aW rfl (aA (aj (ah (aI rfl (aI rfl (aI rfl (dH rfl func126 (DY HF2) ?_))))))))))
     rintro _ Xh ⟨q22, rfl, J6⟩
     refine aJ (sN J6.f5 underlying62 underlying3 rfl rfl rfl) ?_
     rintro _ PZ vY
     refine aA (aH ?_)
     have HQ := vY.f2.f6.f3.f5.f5.f6
     have hu1 : Bj (tK P2 a q22) c.un (S ++ [a]) = (Bj P2 c.un S • dX q22 (c.un a) [] 0) := by
      rw [Ea, iK, xq (P' := P2) (U' := c.un) fun x hx => ⟨rM _ _ (by rintro rfl; exact hns hx), rfl⟩]
     refine cO ((S ++ [a], mx, tK P2 a q22)) ?_ ?_ ?_ ?_
     ·exact (Sub.nil _)
     ·exact (Sub.cons rfl (Sub.cons rfl (Sub.cons rfl (Sub.cons rfl (Sub.nil _)))))
     ·(try dsimp only)
      first | done | exact ⟨Eb hS hns, HQ.of_eq (by rw [mD hmem, hu1, Jw hns]; ac_rfl)⟩
     ·(try dsimp only); omega
   ·(try simp only [aG] at h2)
    try (exfalso; first | contradiction | omega)
    all_goals
     obtain rfl := FI (o := ox) (by simp [h2])
     obtain ⟨rfl, rfl, hall⟩ := XY
     refine dK (aV ?_)
     have VJ := pF
     have VK := VJ.FD
     subst ZY
     have VL := VK.f2.f2
     have VN := aB.xu hD1 hD2 VL
     have hnS : ∀ k, k ∉ Sx → c.un k = [] := fun k hk => hD2 k fun hkD => hk (hall k _ (if_pos hkD))
     have Z5 := VN.f3.f3
     have Z7 := aB.xu hS hnS Z5
     refine aV (bD (aj (ay (ah (aI rfl (bC 3 underlying64 rfl sizeOf62 rfl (aJ (aS 3 (l' := [_, _, _, _, _, _, _, _, _, _, _]) Z7.f3 sizeOf62 rfl rfl (by first | rfl | assumption) rfl rfl) ?_)))))))
     rintro _ YT J7
     refine aA (aj (ay (ah (aU (bV underlying64 rfl sizeOf64 rfl rfl (J7).get.2) (aJ (bG 0 (l' := [_, _, _, _, _, _, _, _, _, _, _]) (us := [_, _, _, _, _, _, _, _, _, _, _]) J7.f11 sizeOf64 rfl rfl rfl (aC (by first | rfl | assumption) (aC (by first | rfl | assumption) (aC (by first | rfl | assumption) (aC (by first | rfl | assumption) (aC (by first | rfl | assumption) (aC (by first | rfl | assumption) (aC (by first | rfl | assumption) (aC (by first | rfl | assumption) (aC (by first | rfl | assumption) (aC (by first | rfl | assumption) (aC (by first | rfl | assumption) bn))))))))))) rfl rfl) ?_)))))
     rintro _ Wv J8
     refine aA (aj (aK ?_))
     refine kM (.inl rfl) (Gl results80 rfl underlying64 rfl (by rw [show (prog.info? 64).map (·.size) = some 11 from by kernel_rfl]; rfl) (J8).get.2) ?_
     exact ⟨_, _, _, _, _, rfl, J8.right.right.f2.f3.f10.f8.f10.f6.f7.f8.f9.f10⟩
end
end Go.Proofs.YtddekefihgejoaaGreatDoor
end
section
namespace Go.Proofs.YtddekefihgejoaaGreatDoor
open Go.RowKit
open _root_.Go.Proofs.Tryz
def Ec (D : List Int) (P : Int → Nat) (k : Int) : Option Addr := if k ∈ D then some ⟨P k, 0, none⟩ else none
theorem Na (D : List Int) (P : Int → Nat) (k : Int) : (Jt D P k).getD (.pointer none) = .pointer (Ec D P k) := by unfold Jt Ec; split <;> rfl
theorem Jy {D : List Int} {P : Int → Nat} {k : Int} (h : k ∈ D) : Ec D P k = some ⟨P k, 0, none⟩ := if_pos h
theorem Oz {D : List Int} {P : Int → Nat} {k : Int} (h : (Ec D P k).isNone = false) : k ∈ D := by
  unfold Ec at h
  split at h
  · assumption
  · cases h
theorem OA {D : List Int} {P : Int → Nat} {k : Int} (h : (Ec D P k).isNone = true) : k ∉ D := by
  unfold Ec at h
  split at h
  · cases h
  · assumption
theorem CQ {s : bH} (h : ¬ s.uJ = 0) : s.inn = false ∧ s.uJ = 1 := by
  unfold bH.uJ at *
  cases hi : s.inn <;> simp_all
theorem zD {s : bH} (h : s.uJ = 0) : s.inn = true := by
  unfold bH.uJ at h
  cases hi : s.inn <;> simp_all
theorem aB.Z8 {w0 w : World} {A B C F : HP} (H : aB w0 w (A • B • C • F)) : aB w0 w (A • (B • C) • F) := H.of_eq (by rw [bI])
section
variable {w0 w : World} {F : HP} {e p : Nat} {s : bH}
theorem pJ (H : aB w0 w (dO e s • F)) : gG prog 54 #[.pointer (some ⟨e, 0, none⟩)] w fun v w' => v = .bool false ∧ w = w' := by
 refine iF func54 ntmps54 ?_
 dsimp only [bg, Nat.reduceAdd]
 refine ay (ah (aW rfl (aA (aj (ay ?_)))))
 obtain ⟨qy, qA, qB, qC, qE, qF, qG, qH, oq, mM, mO, mP, mQ, mV, mW, mX, mY, mZ, ng, ni, dI, bM, ig, eH⟩ := (H).D9
 refine ah (aI rfl (aU (iI underlying30 rfl rfl) (iM rfl (fun h1 => ?_) (fun h1 => ?_))))
 ·(try simp only [aG] at h1)
  try (exfalso; first | contradiction | omega)
  all_goals
   refine aZ (aZ (aZ (aZ (aZ (fK rfl rfl (aW rfl (aA (aj (aK (aQ (.inl rfl) results54 rfl ?_))))))))))
   exact ⟨rfl, rfl⟩
 ·(try simp only [aG] at h1)
  try (exfalso; first | contradiction | omega)
  all_goals
   refine aY (aI rfl (aY (bQ rfl (aY (bC 11 underlying69 rfl sizeOf65 rfl (aY (eu underlying65 rfl (eH).get.2 rfl (aY (aU (iI underlying65 rfl rfl) (fC rfl rfl (aW rfl (aA (aj (aK (aQ (.inl rfl) results54 rfl ?_)))))))))))))))
   exact ⟨rfl, rfl⟩
theorem kR (H : aB w0 w (dO e s • F)) : gG prog 81 #[.pointer (some ⟨e, 0, none⟩)] w fun v w' => v = .int .i64 s.uJ ∧ w = w' := by
 unfold bH.uJ
 refine iF func81 ntmps81 ?_
 dsimp only [bg, Nat.reduceAdd]
 refine ay (ah (aW rfl (aA (aj (ay (bf (ay (ah (aI rfl (dH rfl func54 (pJ H) ?_))))))))))
 rintro _ _ ⟨rfl, rfl⟩
 refine aW rfl (aA (aj (nY (ay ?_))))
 obtain ⟨qy, qA, qB, qC, qE, qF, qG, qH, oq, mM, mO, mP, mQ, mV, mW, mX, mY, mZ, ng, ni, dI, bM, ig, eH⟩ := (H).D9
 refine ah (aI rfl (bQ rfl (bC 16 underlying69 rfl sizeOf4 rfl (eu underlying4 rfl (eH).get.2 rfl (aU (gQ rfl) (aW rfl (aA (aj (aP rfl (fun h1 => ?_) (fun h1 => ?_))))))))))
 ·(try simp only [aG] at h1)
  try (exfalso; first | contradiction | omega)
  all_goals
   refine ay (ah (aW rfl (aA (aj (aK (aX (aN (aQ (.inl rfl) results81 rfl ?_))))))))
   exact ⟨by simp [*], rfl⟩
 ·(try simp only [aG] at h1)
  try (exfalso; first | contradiction | omega)
  all_goals
   refine aO (aH (aj (ay (ah (aW rfl (aA (aj (aK (aQ (.inl rfl) results81 rfl ?_)))))))))
   exact ⟨by simp [*], rfl⟩
theorem wO {x0 x1 x4 x5 x6 x7 x8 x9 x10 x11 x12 zF x14 x15 x16 x17 x18 x19 x20 x21 yK x23 x24 x25 yL x27 x28 x29 x30 x31 x32 Bl : Value} {pw pt pm : Nat} {k : Int} {U : Int → List (List fJ)} (H : aB w0 w (dh e (.cells (x0 :: x1 :: .pointer (some ⟨pw, 0, none⟩) :: .map (some pm) :: x4 :: x5 :: x6 :: x7 :: x8 :: x9 :: x10 :: x11 :: x12 :: zF :: x14 :: x15 :: x16 :: x17 :: x18 :: x19 :: x20 :: x21 :: yK :: x23 :: x24 :: x25 :: yL :: x27 :: x28 :: x29 :: x30 :: x31 :: x32 :: Bl :: []).toArray 69 (0, 0)) • dh pw (.cells #[.int .i64 k, .map (some pt)] 125 (0, 0)) • pV pm U • F)) : gG prog 128 #[.pointer (some ⟨e, 0, none⟩)] w fun v w' => ∃ p, v = .pointer (some ⟨p, 0, none⟩) ∧
  aB w0 w' (dX p (U k) [] 0 • FH pm U k p • dh e (.cells (x0 :: x1 :: .pointer (some ⟨pw, 0, none⟩) :: .map (some pm) :: x4 :: x5 :: x6 :: x7 :: x8 :: x9 :: x10 :: x11 :: x12 :: zF :: x14 :: x15 :: x16 :: x17 :: x18 :: x19 :: x20 :: x21 :: yK :: x23 :: x24 :: x25 :: yL :: x27 :: x28 :: x29 :: x30 :: x31 :: x32 :: Bl :: []).toArray 69 (0, 0)) • dh pw (.cells #[.int .i64 k, .map (some pt)] 125 (0, 0)) • F) := by
 refine iF func128 ntmps128 ?_
 dsimp only [bg, Nat.reduceAdd]
 refine ay (ah (aW rfl (aA (aj (ay ?_)))))
 obtain ⟨D, P, hD1, hD2, HU⟩ := (H.f3).QJ
 have VO := HU.drew
 have ql := aB.kp (VO.f4.f4.f4.f4)
 refine wo [4, 9, 12, 13] ql rfl (gV 0 rfl ql rfl (iZ 1 rfl ql rfl (dV 2 rfl ql 0 underlying69 rfl sizeOf64 rfl (dV 3 rfl ql 3 underlying64 rfl sizeOf62 rfl (iy 4 rfl ql (fun W hW => iQ underlying62 rfl ((Kp.h hW).f3).get.2 rfl) (gV 5 rfl ql rfl (iZ 6 rfl ql rfl (dV 7 rfl ql 0 underlying69 rfl sizeOf64 rfl (dV 8 rfl ql 2 underlying64 rfl sizeOf61 rfl (iy 9 rfl ql (fun W hW => iQ underlying61 rfl ((Kp.h hW).f3).get.2 rfl) (iZ 10 rfl ql rfl (dV 11 rfl ql 0 underlying125 rfl sizeOf3 rfl (iy 12 rfl ql (fun W hW => iQ underlying3 rfl ((Kp.h hW).f4).get.2 rfl) (iy 13 rfl ql (fun W hW => WW (Jm ((Kp.h hW)) underlying62 underlying3 zeroValue187 rfl rfl) (Na D P k)) (iR 14 rfl ql (fun _ => fA rfl) (nJ (aj (ay (ay (ah (aI rfl (aU (iI underlying187 rfl rfl) (aA (aj (aP rfl (fun h1 => ?_) (fun h1 => ?_))))))))))))))))))))))))))
 ·(try simp only [aG] at h1)
  try (exfalso; first | contradiction | omega)
  all_goals
   have hnm := OA h1
   refine ay (ah (dH rfl func163 (Gx VO) ?_))
   rintro _ w1 ⟨p1, rfl, H1⟩
   refine aW rfl (aA (aj ?_))
   have XZ := H1.drew
   have rQ := aB.kp (XZ.f5.f5.f5.f5.f5)
   refine wo [4, 9, 12] rQ rfl (gV 0 rfl rQ rfl (iZ 1 rfl rQ rfl (dV 2 rfl rQ 0 underlying69 rfl sizeOf64 rfl (dV 3 rfl rQ 3 underlying64 rfl sizeOf62 rfl (iy 4 rfl rQ (fun W hW => iQ underlying62 rfl ((Kp.h hW).f4).get.2 rfl) (gV 5 rfl rQ rfl (iZ 6 rfl rQ rfl (dV 7 rfl rQ 0 underlying69 rfl sizeOf64 rfl (dV 8 rfl rQ 2 underlying64 rfl sizeOf61 rfl (iy 9 rfl rQ (fun W hW => iQ underlying61 rfl ((Kp.h hW).f4).get.2 rfl) (iZ 10 rfl rQ rfl (dV 11 rfl rQ 0 underlying125 rfl sizeOf3 rfl (iy 12 rfl rQ (fun W hW => iQ underlying3 rfl ((Kp.h hW).f5).get.2 rfl) (gV 13 rfl rQ rfl ?_))))))))))))))
   refine dN 14 rfl (by kernel_rfl) (sN XZ.f2 underlying62 underlying3 rfl rfl rfl) ?_
   rintro _ w2 H2
   have zq := aB.kp (H2.f5.f5.f5.f5.f5)
   refine dR zq (by kernel_rfl) ?_
   refine nJ (aj (ay (ah (aI rfl (aW rfl (aA (aj (aK (aQ (.inl rfl) results128 rfl ?_)))))))))
   have hu1 : Bj (tK P k p1) U (D ++ [k]) = (Bj P U D • dX p1 [] [] 0) := by
    rw [Ea, iK, hD2 _ hnm, xq (P' := P) (U' := U) fun x hx => ⟨rM _ _ (by rintro rfl; exact hnm hx), rfl⟩]
   have HM := aB.Z8 H2.f5.f5.f4.f5.f5
   rw [← hu1, ← Jw hnm] at HM
   have HZ := aB.QK (k := k) (Eb hD1 hnm) (fun k hk => hD2 k fun hm => hk (by simp [hm])) (by simp) HM
   rw [iK] at HZ
   exact ⟨_, rfl, HZ⟩
 ·(try simp only [aG] at h1)
  try (exfalso; first | contradiction | omega)
  all_goals
   have hmem := Oz h1
   rw [Jy hmem]
   refine aO (aj (ay (ah (aI rfl (aW rfl (aA (aj (aK (aQ (.inl rfl) results128 rfl ?_)))))))))
   exact ⟨_, rfl, aB.QK hD1 hD2 hmem VO.f4.f4.f4.f4⟩
theorem aB.GZ {b p : Nat} {k : Int} {U : Int → List (List fJ)} (H : aB w0 w (FH b U k p • dX p (U k) [] 0 • F)) : aB w0 w (pV b U • F) := by
  have := H.uM
  rwa [TN] at this
end
end Go.Proofs.YtddekefihgejoaaGreatDoor
end
section
namespace Go.Proofs.YtddekefihgejoaaGreatDoor
open Go.RowKit Go.Lib
section
variable {P : Program} {L : List (Nat × Value)} {w0 w : World} {F : HP} {ty : TypeId} {b : Nat} {v d : Int} {t : TypeId}
theorem UU {T : Value → World → Prop} {f : FuncId} {args : List Operand} {ts : Array TypeId} {vs : List Value} {fn : Func} {e : Array Value → Sem Value} {v : Value} {w' : World} (ha : zT L args = some vs)
    (hf : P.funcs[f]? = some fn) (hname : (fn.name == "runtime.NumGoroutine") = false) (hb : fn.body.isNone = true) (hn : Extern.findNext fn = none) (he : Extern.find fn = some e) (hr : (e vs.toArray).run P w = .ok v w') (ht : T v w') :
    rU P L (.call ⟨.value (.func f), args.toArray, ts⟩) ty w T := nG (v := v) (w' := w') (fun ρ hρ _ _ _ _ => by
  have hg : ρ (.func f) = .func (.func f) #[] #[] := hρ _ _ rfl
  have hc := run_callFunc_extern hf hname hb hn he vs.toArray w
  rw [hr] at hc
  simp [execOp, resolve, invoke, WX hρ _ _ ha, hg, Deferred.ofValue]
  exact hc) ht
theorem Ld (hc : w.cell? ⟨b, 0, none⟩ = some (.int .i64 v)) : (Extern.Atomic.loadT (.int .i64) #[.pointer (some ⟨b, 0, none⟩)]).run P w = .ok (.int .i64 v) w := by
  change Sem.run P (do Extern.Atomic.read (.int .i64) (← asAddr (.pointer (some ⟨b, 0, none⟩)))) w = _
  simp [Extern.Atomic.read, asAddr, hc, Result.andThen]
theorem TR {f : FuncId} {args : List Operand} {ts : Array TypeId} {fn : Func} (H : aB w0 w (dh b (.cells #[.int .i64 v] t (0, 0)) • F)) (ha : zT L args = some [.pointer (some ⟨b, 0, none⟩), .int .i64 d])
    (hf : P.funcs[f]? = some fn) (hname : (fn.name == "runtime.NumGoroutine") = false) (hb : fn.body.isNone = true) (hn : Extern.findNext fn = none) (he : Extern.find fn = some (Extern.Atomic.update (Op.intArith .add) .i64 true)) :
    rU P L (.call ⟨.value (.func f), args.toArray, ts⟩) ty w fun u w' => u = .int .i64 (IntKind.i64.wrap (v + d)) ∧ aB w0 w' (dh b (.cells #[.int .i64 (IntKind.i64.wrap (v + d))] t (0, 0)) • F) :=
  UU ha hf hname hb hn he (Conc.run_add_entry (iC H.get.2 rfl) (AL H.get.2)) ⟨rfl, H.setCell (i := 0) _⟩
theorem QU {f : FuncId} {args : List Operand} {ts : Array TypeId} {fn : Func} (H : aB w0 w (dh b (.cells #[.int .i64 v] t (0, 0)) • F)) (ha : zT L args = some [.pointer (some ⟨b, 0, none⟩)])
    (hf : P.funcs[f]? = some fn) (hname : (fn.name == "runtime.NumGoroutine") = false) (hb : fn.body.isNone = true) (hn : Extern.findNext fn = none) (he : Extern.find fn = some (Extern.Atomic.loadT (.int .i64))) :
    rU P L (.call ⟨.value (.func f), args.toArray, ts⟩) ty w fun u w' => u = .int .i64 v ∧ w = w' :=
  UU ha hf hname hb hn he (Ld (iC H.get.2 rfl)) ⟨rfl, rfl⟩
theorem zG (H : aB w0 w (dh b (.cells #[.int .i64 v] t (0, 0)) • F)) : gG Tryz.prog 82 #[.pointer (some ⟨b, 0, none⟩), .int .i64 d] w fun u w' => u = .int .i64 (IntKind.i64.wrap (v + d)) ∧ aB w0 w' (dh b (.cells #[.int .i64 (IntKind.i64.wrap (v + d))] t (0, 0)) • F) := by
 refine iF Tryz.func82 Tryz.ntmps82 ?_
 dsimp only [bg, Nat.reduceAdd]
 refine ay (ah (aW rfl (aA (aj (ay (ah (aI rfl (bQ rfl (bC 0 Tryz.underlying144 rfl Tryz.sizeOf2 rfl (aI rfl (iw (TR H rfl Tryz.func127 rfl rfl (by kernel_rfl) (by kernel_rfl)) ?_)))))))))))
 rintro _ w1 ⟨rfl, H1⟩
 refine aW rfl (aA (aj (aK (aQ (.inl rfl) Tryz.results82 rfl ?_))))
 exact ⟨rfl, H1⟩
theorem kD (H : aB w0 w (dh b (.cells #[.int .i64 v] t (0, 0)) • F)) : gG Tryz.prog 58 #[.pointer (some ⟨b, 0, none⟩)] w fun u w' => u = .int .i64 v ∧ w = w' := by
 refine iF Tryz.func58 Tryz.ntmps58 ?_
 dsimp only [bg, Nat.reduceAdd]
 refine ay (ah (aW rfl (aA (aj (ay (ah (aI rfl (bQ rfl (bC 0 Tryz.underlying144 rfl Tryz.sizeOf2 rfl (iw (QU H rfl Tryz.func118 rfl rfl (by kernel_rfl) (by kernel_rfl)) ?_))))))))))
 rintro _ _ ⟨rfl, rfl⟩
 refine aW rfl (aA (aj (aK (aQ (.inl rfl) Tryz.results58 rfl ?_))))
 exact ⟨rfl, rfl⟩
end
end Go.Proofs.YtddekefihgejoaaGreatDoor
end
section
namespace Go.Proofs.YtddekefihgejoaaGreatDoor
open Go.RowKit
inductive Cells : Nat → Nat → List (Nat × Nat) → List Value → List (Nat × Value) → List Value → Prop
  | nil {i o : Nat} : Cells i o [] [] [] []
  | one {i o : Nat} {pl : List (Nat × Nat)} {z : List Value} {vs : List (Nat × Value)} {cs : List Value} {v zv : Value} (h : v.oneCell' = true) (k : Cells (i + 1) (o + 1) pl z vs cs) : Cells i o ((o, 1) :: pl) (zv :: z) ((i, v) :: vs) (v :: cs)
  | agg {i o m : Nat} {pl : List (Nat × Nat)} {z : List Value} {vs : List (Nat × Value)} {cs us zs : List Value} (hm : us.length = m) (hz : zs.length = m) (k : Cells (i + 1) (o + m) pl z vs cs) : Cells i o ((o, m) :: pl) (zs ++ z) ((i, .agg us.toArray) :: vs) (us ++ cs)
  | zero {i o m : Nat} {pl : List (Nat × Nat)} {z : List Value} {vs : List (Nat × Value)} {cs zs : List Value} (hz : zs.length = m) (k : Cells (i + 1) (o + m) pl z vs cs) : Cells i o ((o, m) :: pl) (zs ++ z) vs (zs ++ cs)
theorem Le {v : Value} (h : v.oneCell' = true) : v.cells = #[v] := by cases v <;> simp_all [Value.cells, Value.oneCell']
theorem FK {pl : Array (Nat × Nat)} {i o m : Nat} {v : Value} {vs : List (Nat × Value)} {pre zs us z : List Value} {R : Option (Array Value)} (hp : pl[i]? = some (o, m)) (ho : pre.length = o) (hv : v.cells = us.toArray) (hm : us.length = m) (hz : zs.length = m)
    (h : Instr.fill (fun i => pl[i]?) (pre ++ us ++ z).toArray vs = R) : Instr.fill (fun i => pl[i]?) (pre ++ (zs ++ z)).toArray ((i, v) :: vs) = R := by
  simp only [Instr.fill]
  rw [hp]
  dsimp only
  rw [hv, if_neg (by simp; omega)]
  have hfr := DJ us o 0 (pre ++ (zs ++ z)).toArray (by simp; omega)
  simp only [Nat.add_zero] at hfr
  rw [← Array.foldl_toList, Array.toList_zipIdx]
  simp only [List.toList_toArray] at hfr ⊢
  rw [show (us.zipIdx.foldl (fun cs (x : Value × Nat) => cs.setIfInBounds (o + x.2) x.1) (pre ++ (zs ++ z)).toArray) = _ from hfr]
  rw [← h]
  congr 2
  subst ho
  rw [List.take_left, ← List.append_assoc pre zs z, show pre.length + us.length = (pre ++ zs).length from by simp; omega, List.drop_left]
theorem Lh {i o : Nat} {pl : List (Nat × Nat)} {z cs : List Value} {vs : List (Nat × Value)} (h : Cells i o pl z vs cs) : ∀ {pp : List (Nat × Nat)} {pre : List Value}, pp.length = i → pre.length = o →
    Instr.fill (fun j => (pp ++ pl).toArray[j]?) (pre ++ z).toArray vs = some (pre ++ cs).toArray := by
  induction h with
  | nil => intro pp pre _ _; rfl
  | @one i o pl z vs cs v zv h k ih =>
    intro pp pre h1 h2
    refine FK (zs := [zv]) (us := [v]) (o := o) (m := 1) (by simp [← h1]) h2 (Le h) rfl rfl ?_
    have := ih (pp := pp ++ [(o, 1)]) (pre := pre ++ [v]) (by simp; omega) (by simp; omega)
    simpa using this
  | @agg i o m pl z vs cs us zs hm hz k ih =>
    intro pp pre h1 h2
    refine FK (zs := zs) (us := us) (o := o) (m := m) (by simp [← h1]) h2 rfl hm hz ?_
    have := ih (pp := pp ++ [(o, m)]) (pre := pre ++ us) (by simp; omega) (by simp; omega)
    simpa using this
  | @zero i o m pl z vs cs zs hz k ih =>
    intro pp pre h1 h2
    have := ih (pp := pp ++ [(o, m)]) (pre := pre ++ zs) (by simp; omega) (by simp; omega)
    simpa using this
section
variable {P : Program} {L : List (Nat × Value)} {w : World} {ty : TypeId}
theorem dF {t : TypeId} {fs : Array Field} {z : Value} {zl : List Value} {pl : List (Nat × Nat)} {ps : List (Nat × Operand)} {vs : List (Nat × Value)} {cs : List Value} (cells : List Value) (ht : P.underlying t = some (.struct fs)) (hz : ∀ w, (zeroValue t).run P w = .ok z w) (hzl : z.cells = zl.toArray)
    (hpl : ∀ w, (fs.mapM fun f => do pure (f.offset, ← sizeOf f.type) : Sem (Array (Nat × Nat))).run P w = .ok pl.toArray w) (hp : Sr L ps = some vs) (hC : Cells 0 0 pl zl vs cs) (hcs : cs = cells) : Val P L (.build t ps.toArray) ty w (.agg cells.toArray) w := by
  subst hcs
  exact fO cs.toArray ht hz hpl hp (by rw [hzl]; exact Lh hC (pp := []) (pre := []) rfl rfl)
end
end Go.Proofs.YtddekefihgejoaaGreatDoor
end
