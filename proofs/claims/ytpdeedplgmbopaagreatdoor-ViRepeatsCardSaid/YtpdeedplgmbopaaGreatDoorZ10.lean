import Derived.Test.YtpdeedplgmbopaaGreatDoorZ4
import Derived.Test.YtpdeedplgmbopaaGreatDoorZ9
import Derived.Test.YtpdeedplgmbopaaGreatDoorZ5
import Derived.Lib.OthersKept
import Derived.Lib.Bytealg
import Derived.Conc.AtomicLaws2
set_option linter.unusedSimpArgs false
set_option linter.unusedVariables false
/- Texts of mine, joined, their names in short: UGroups Ed EdTwin EdA Atom. -/
section
namespace Go.Proofs.YtpdeedplgmbopaaGreatDoor
open Go.RowKit
open _root_.Go.Proofs.Tryz
def F9 (c : Nat) (G : List (List jl)) (N : List jl) (k : Nat) : HP := xQ fun (x : Value × List (Value × List fM)) => fact (x.2.map (fun g => g.2.map fM.says) = QX N ++ G.reverse.take k) • eP c (.cells #[x.1] 226 (0, 0)) • Gu x.1 x.2
theorem rev_succ {G : List (List jl)} {k : Nat} (hk : k < G.length) : G.reverse.take (k + 1) = G.reverse.take k ++ [G.getD (G.length - (k + 1)) []] := by
  rw [List.take_succ_eq_append_getElem (by simpa using hk)]
  congr 1
  rw [List.getElem_reverse, List.getD_eq_getElem?_getD, List.getElem?_eq_getElem (by omega)]
  have e : G.length - 1 - k = G.length - (k + 1) := by omega
  simp only [Option.getD_some, e]
section
variable {w0 w : World} {F : HP} {p c k : Nat} {G : List (List jl)} {N : List jl} {op : Int} {v u : Value} {es fs : List fM} {gs hs : List (Value × List fM)}
theorem V.TQ (H : V w0 w (F9 c G N k • F)) : ∃ u hs, hs.map (fun g => g.2.map fM.says) = QX N ++ G.reverse.take k ∧ hs.length ≤ G.length + 1 ∧ V w0 w (eP c (.cells #[u] 226 (0, 0)) • Row 80 1 u hs.length (hs.map (·.1)) • qP hs • F) := by
  obtain ⟨⟨u, hs⟩, H⟩ := H.oN
  obtain ⟨h, H⟩ := H.flat.fact
  refine ⟨u, hs, h, ?_, (H.flat.swap.acS).f3⟩
  have := congrArg List.length h
  have := aaP N
  simp only [List.length_map, List.length_append, List.length_take, List.length_reverse] at *
  omega
theorem V.MN (h : hs.map (fun g => g.2.map fM.says) = QX N ++ G.reverse.take k) (H : V w0 w (eP c (.cells #[u] 226 (0, 0)) • Gu u hs • F)) : V w0 w (F9 c G N k • F) :=
  V.jV (u, hs) (V.deep (V.mW h H.deep))
theorem Y6 (H : V w0 w F) (hv : v.oneCell' = true) : iQ prog 175 #[v] w fun v' w' => ∃ b, v' = .func (.func 196) #[] #[.pointer (some ⟨b, 0, none⟩)] ∧ V w0 w' (eP b (.cells #[v] 226 (0, 0)) • F) := by
  refine ji func175 ntmps175 ?_
  refine iy (kF (jF (l := [_]) H O (by first | rfl | exact E5 (by first | rfl | assumption))) ?_)
  rintro _ w1 ⟨b1, rfl, H1⟩
  refine dZ O (iy (aQ (Ad O O) (fA O (dI results175 O ?_))))
  exact ⟨_, O, H1⟩
theorem Wh (b : Nat) : Iter prog w0 (.func (.func 196) #[] #[.pointer (some ⟨b, 0, none⟩)]) (eP b (.cells #[v] 226 (0, 0)) • Row 80 1 v gs.length (gs.map (·.1)) • qP gs) gs.length
  (fun k vs A => ∃ gl A8, gs.getD (gs.length - (k + 1)) default = (gl, A8) ∧ vs = [.int .i64 ((gs.length - (k + 1) : Nat) : Int), gl] ∧ A = FY gl A8) := by
 intro l J X w hy H
 refine ⟨196, [], [.pointer (some ⟨b, 0, none⟩)], _, _, O, func196, O, O, ?_⟩
 have H1 : V w0 w (eP b (.cells #[v] 226 (0, 0)) • Row 80 1 v gs.length (gs.map (·.1)) • qP gs • J 0) := H.of_eq (by ac_rfl)
 obtain ⟨a, c, hv, hc1, hc2, _⟩ := (H1.swap.aP).form
 subst hv
 simp only [List.nil_append, List.cons_append]
 refine ZY func196 ntmps196 ?_
 dsimp only [zZ, Nat.reduceAdd]
 refine iy (fC bQ O (H1).get.2 O (aQ (kX ((H1.f2).aP) bQ O) (aQ (jk O O (by omega)) (dZ O (bf ?_)))))
 refine iC [(0, _), (1, _)] (fun (k : Nat) => [(3, .int .i64 ((k : Int) - 1))]) (fun (k : Nat) W => k ≤ gs.length ∧ V w0 W (eP b (.cells #[.slice a gs.length c] 226 (0, 0)) • Row 80 1 (.slice a gs.length c) gs.length (gs.map (·.1)) • qP gs • J (gs.length - k))) (fun (k : Nat) => k) (gs.length) uh mO ⟨by omega, by rw [Nat.sub_self]; exact H1⟩ ?_
 rintro k w1 ⟨hk, HL⟩
 dsimp only [List.cons_append, List.nil_append]
 refine aI (bM O (aQ (lI O O) (jr O (fun h1 => ?_) (fun h1 => ?_))))
 ·(try simp only [Z] at h1)
  refine fV (aI (bf (aI ?_)))
  obtain ⟨m, rfl⟩ : ∃ m, k = m + 1 := ⟨k - 1, by omega⟩
  rw [show (((m + 1 : Nat) : Int) - 1) = (m : Int) from by omega]
  have hkl : m < gs.length := by omega
  refine aB (jX O O (fC bQ O (HL).get.2 O (bJ O ?_)))
  obtain ⟨bv, ov, cv, ev⟩ := Rd.rW ((HL.f2).aP) (by omega)
  cases ev
  refine aQ (dM bQ bU O O (by omega)) ?_
  refine aQ (fF (dA aW O) O (by first | exact Rd.lX ((HL.f2).aP) (by omega) | exact Rd.xJ ((HL.f2).aP) (by omega) | exact Rd.xH ((HL.f2).aP) (by omega))) ?_
  rw [show (gs.map (·.1)).getD m undef = (gs.getD m default).1 from by simp [List.getD_eq_getElem?_getD, hkl]]
  obtain ⟨gl, A8, hg⟩ : ∃ gl A8, gs.getD m default = (gl, A8) := ⟨_, _, rfl⟩
  rw [hg]
  have Ho2 := HL.f3
  have Hc3 := Ho2.KW hkl hg
  refine kF (QV O O (hy (gs.length - (m + 1)) (by omega) _ _ ⟨gl, A8, by rw [show gs.length - (gs.length - (m + 1) + 1) = m from by omega]; exact hg, by rw [show gs.length - (gs.length - (m + 1) + 1) = m from by omega], O⟩ (qP gs • Row 80 1 (.slice (some ⟨bv, ov, none⟩) gs.length c) gs.length (gs.map (·.1)) • eP b (.cells #[.slice (some ⟨bv, ov, none⟩) gs.length c] 226 (0, 0))) _ (Hc3.of_eq (by ac_rfl))).bool) ?_
  rintro _ w4 ⟨t, rfl, ht1, ht2⟩
  refine aQ (kG O) (jr O (fun h2 => ?_) (fun h2 => ?_))
  ·(try simp only [Z] at h2)
   have HX := ht2 (by simpa using h2)
   refine lQ (aU (aA (aA (aU (we0 results196 ?_)))))
   exact .inr (HX.of_eq (by ac_rfl))
  ·(try simp only [Z] at h2)
   have HN : V w0 w4 (eP b (.cells #[.slice (some ⟨bv, ov, none⟩) gs.length c] 226 (0, 0)) • Row 80 1 (.slice (some ⟨bv, ov, none⟩) gs.length c) gs.length (gs.map (·.1)) • qP gs • J (gs.length - m)) := by
    have h9 := ht1 (by simpa using h2)
    rw [show gs.length - (m + 1) + 1 = gs.length - m from by omega] at h9
    exact h9.of_eq (by ac_rfl)
   refine dh (aH (aX (aB (bJ O (aQ (jk O O (by omega)) (gU O (bZ ?_)))))))
   refine dX (m) ?_ ?_ ?_ ?_
   ·exact mO
   ·exact uh
   ·(try dsimp only)
    first | done | exact ⟨by omega, HN.f3.f3.f3⟩
   ·(try dsimp only); omega
 ·(try simp only [Z] at h1)
  refine dR (aO (aO (bG (mX (.inr O) results196 ?_))))
  obtain rfl : k = 0 := by omega
  rw [Nat.sub_zero] at HL
  exact .inl (HL.of_eq (by ac_rfl))
theorem KF (H : V w0 w (jP p G N op • F)) : iQ prog 135 #[.pointer (some ⟨p, 0, none⟩)] w fun v w' => ∃ c, v = .func (.func 176) #[] #[.pointer (some ⟨c, 0, none⟩)] ∧ V w0 w' (F9 c G N G.length • jP p G N op • F) := by
 refine ji func135 ntmps135 ?_
 refine ku O (iy (kF (iR (l := [_]) H zeroValue226 O) ?_))
 rintro _ w1 ⟨b1, rfl, H1⟩
 refine rP (bM O (dS O func158 (ng H1.f2) ?_))
 rintro _ _ ⟨rfl, rfl⟩
 refine aQ (kG O) ?_
 obtain ⟨DW, BO, qB, oP, nD, xZ, wo, Jf, Jg, OC, sO⟩ := (H1.f2).Am
 have hLn : oP.length ≤ 16384 := by omega
 have hBn := TI wo nD.2.2.2.2.2
 refine iE (wcE O (fun h1 => ?_))
 (try simp only [Z] at h1)
 refine kL [(0, _), (3, _)] (fun (_ : Unit) => []) (fun (_ : Unit) W => V w0 W (F9 b1 G N 0 • eP p (.cells #[DW, BO, .int .i64 op, .int .i64 (ig G N : Nat), .bool true] 235 (0, 0)) • Row 80 1 DW qB.length (qB.map (·.1)) • qP qB • Row 189 3 BO oP.length (oP.flatMap fM.enc) • nC oP • F)) uh ?_ ?_
 ·rintro _ w4 HJ
  dsimp only [List.cons_append, List.nil_append]
  refine bM O (dK O (bI 0 bT O dP O (bI 0 cO O iF O (fC bQ O (HJ.f2).get.2 O (dS O func175 (Y6 HJ (Rd.one ((HJ.f3).aP))) ?_)))))
  rintro _ w5 ⟨bB5, rfl, H5⟩
  refine iE (bf ?_)
  obtain ⟨R6, hR6, HR6⟩ := V.af9 (H5.f5.f5.f3.f4)
  refine Di O (Wh bB5) (fun k => F9 b1 G N k • R6) (fact False) (fun _ => fact False) (HR6.f4.f4.f4.f4.f4.f4.f4.g3.comm) (by rfl) ?_ ?_ ?_ ?_
  ·rintro l7 k aeW vs7 A7 ⟨gl, A8, hg, rfl, rfl⟩ G7 w7 H7
   try simp only [dH, qL, zi] at H7
   refine ⟨O, ?_⟩
   dsimp only [V3]
   obtain ⟨u, hs, hhs, hhl, HI⟩ := (H7.f2).TQ
   have hge : A8.map fM.says = G.getD (G.length - (k + 1)) [] := by
    rw [← Jf, ← xZ]
    have h9 : (qB.map (fun g => g.2.map fM.says)).getD (qB.length - (k + 1)) [] = (qB.getD (qB.length - (k + 1)) default).2.map fM.says := by simp [List.getD_eq_getElem?_getD, show qB.length - (k + 1) < qB.length by omega]
    rw [h9, hg]
   have hgm : G.getD (G.length - (k + 1)) [] ∈ G := zW (by omega)
   have hBg := TI hge (nD.2.2.2.2.1 _ hgm)
   have hLg : A8.length ≤ 16384 := by
    have h8 := nD.2.1
    unfold ig at h8
    have h7 := congrArg List.length hge
    rw [List.length_map] at h7
    have h6 := KX hgm
    omega
   refine aB (gU O (bZ ?_))
   refine VZ (HI.g5) ?_
   intro G8 w8 H8
   try simp only [dH] at H8
   refine bf ?_
   have agK := H8.drew
   have aaT := V.kp (agK.f4.f4.f4.f4)
   refine uN [0] aaT O (jf 0 O aaT (fun W hW => jv bQ O ((Kp.h hW)).get.2 O) (gX 1 O aaT O (mQ 2 O (wR O func173 (BQ agK.f4 hBg hLg)) ?_)))
   rintro u9 w9 ⟨fs9, ah5, H9⟩
   obtain ⟨es2, rfl⟩ : ∃ q, q = fs9 := ⟨_, rfl⟩
   have hes2 := ah5
   have VW := V.kp (H9.f6.f6.f6.f6.f6.f6)
   refine fD VW (fun W hW => (Kp.h hW).right.right.f4.f4.f4) ?_
   refine mQ 3 O (lW (vs := [_]) H9 bQ bU oG O O O (by decide) (bg (by first | rfl | exact Rd.one ((H9).aP)) bW)) ?_
   rintro l10 w10 pz
   have PL := V.kp (pz.f7.f7.f7.f7.f7.f7.f7)
   refine fD PL (fun W hW => (Kp.h hW).right.f6.f6.f6.f6.f6.f6) ?_
   refine mQ 4 O (iY pz.f6 bQ JO O O O ((pz).aP) (bg (by first | rfl | exact Rd.one ((pz.f2).aP)) bW) (by omega) (by omega)) ?_
   rintro l11 FM rY
   have OD := rY.f2.right
   have FZ := V.kp (OD.f6.f6.f6.f6.f6.f6)
   refine iK FZ (by kernel_rfl) ?_
   refine iH 5 O (by kernel_rfl) (gB 0 (l' := [_]) OD.f5 iF O O (by first | rfl | exact Rd.one ((OD).aP)) O O) ?_
   rintro _ PD xI
   have y8 := V.kp (xI.f6.f6.f6.f6.f6.f6)
   refine iK y8 (by kernel_rfl) ?_
   refine pq (aH ?_)
   refine MB ?_
   have X := V.tq (es := es2) (xI.f5.right.f5.f3.f5.f5).deep
   exact (V.MN (hs := hs ++ [(u9, es2)]) (by rw [List.map_append, hhs, rev_succ (by omega), ← hge, ← hes2, List.append_assoc]; rfl) (V.vS X.swap).swap).deep
  ·rintro D14 Pz yF
   have Tn := yF.ed
   try simp only [dH, qL, zi] at Tn
   have aeX := Tn.XD
   subst hR6
   refine aH (aX (iy (aQ (Ad O O) (fA O ?_))))
   refine KL (.inl O) (aeX) (fun QI yA => ?_)
   refine ⟨_, aeK results135 O, ?_⟩
   have hgl : F9 b1 G N qB.length = F9 b1 G N G.length := by rw [Jf]
   rw [hgl] at yA
   have Wi := yA.f7.f7.f5.f5.f7
   have Wj := V.pR nD xZ wo rfl Wi
   exact ⟨_, O, Wj.f2.right.f2⟩
  ·rintro D w H; exact absurd H.swap.fact.1 id
  ·rintro id D w H; exact absurd H.swap.fact.1 fun h => h
 ·skip
  refine bM O (dK O (bI 0 bT O dP O (bI 1 cO O bU O (fC aW O (sO).get.2 O (aQ (kX ((sO.f4).aP) aW O) (aQ (eX O O) (jr O (fun h2 => ?_) (fun h2 => ?_))))))))
  ·(try simp only [Z] at h2)
   have hN : QX N = [N] := if_neg (by rintro rfl; exact absurd Jg (by simp only [List.length_nil]; omega))
   have aec := sO.drew
   have Gx := V.kp (aec.f6.f6.f6.f6.f6.f6)
   refine uN [0, 5] Gx O (jf 0 O Gx (fun W hW => jv bQ O ((Kp.h hW).f6).get.2 O) (gX 1 O Gx O (jE 2 O Gx O (gy 3 O Gx 0 bT O dP O (gy 4 O Gx 1 cO O bU O (jf 5 O Gx (fun W hW => jv aW O ((Kp.h hW)).get.2 O) (mQ 6 O (wR O func173 (Et aec.f5.f5 hBn hLn)) ?_)))))))
   rintro u19 w19 ⟨ah6, agL, Ef⟩
   obtain ⟨es1, rfl⟩ : ∃ q, q = ah6 := ⟨_, rfl⟩
   have hes1 := agL
   have TR := V.kp (Ef.f8.f8.f8.f8.f8.f8.f8.f8)
   refine fD TR (fun W hW => (Kp.h hW).right.right.f6.f3.f3.f6.f6.f6) ?_
   refine mQ 7 O (lW (vs := [_]) Ef bQ bU oG O O O (by decide) (bg (by first | rfl | exact Rd.one ((Ef).aP)) bW)) ?_
   rintro l20 w20 E8
   have Ez := V.kp (E8.f9.f9.f9.f9.f9.f9.f9.f9.f9)
   refine fD Ez (fun W hW => (Kp.h hW).right.f8.f8.f8.f8.f8.f8.f8.f8) ?_
   refine mQ 8 O (iY (E8.jO none) bQ JO O O O ((E8).aP) (bg (by first | rfl | exact Rd.one ((E8.f2).aP)) bW) (by omega) (by omega)) ?_
   rintro l21 w21 vF
   have Q8 := vF.f2.right
   have Ig := V.kp (Q8.f9.f9.f9.f9.f9.f9.f9.f9.f9)
   refine iK Ig (by kernel_rfl) ?_
   refine iH 9 O (by kernel_rfl) (gB 0 (l' := [_]) Q8.f9 iF O O (by first | rfl | exact Rd.one ((Q8).aP)) O O) ?_
   rintro _ w23 BK
   have JR := V.kp (BK.f9.f9.f9.f9.f9.f9.f9.f9.f9)
   refine iK JR (by kernel_rfl) ?_
   have X := V.tq (es := es1) (BK.f6.f6.f9.f9.f9.f6.f7.f9.f9).deep
   have hJn : V w0 w23 (F9 b1 G N 0 • eP p (.cells #[DW, BO, .int .i64 op, .int .i64 (ig G N : Nat), .bool true] 235 (0, 0)) • Row 80 1 DW qB.length (qB.map (·.1)) • qP qB • Row 189 3 BO oP.length (oP.flatMap fM.enc) • nC oP • F) :=
    V.MN (hs := [(u19, es1)]) (by rw [hN, ← wo, ← hes1]; rfl) (V.vS (gs := []) X.L8.f3.f3.f2).swap
   refine pq ?_
   refine dD (()) ?_ ?_ ?_
   ·exact (Sub.nil _)
   ·exact uh
   ·(try dsimp only)
    first | done | exact hJn
  ·(try simp only [Z] at h2)
   have hN : QX N = [] := if_pos (by rw [← wo, List.eq_nil_of_length_eq_zero (show oP.length = 0 by omega)]; rfl)
   have hJn : V w0 w1 (F9 b1 G N 0 • eP p (.cells #[DW, BO, .int .i64 op, .int .i64 (ig G N : Nat), .bool true] 235 (0, 0)) • Row 80 1 DW qB.length (qB.map (·.1)) • qP qB • Row 189 3 BO oP.length (oP.flatMap fM.enc) • nC oP • F) :=
    V.MN (hs := []) (by rw [hN]; rfl) ((sO.f5.f5.f5.f5.f5.f6).Hy none).swap
   refine dh ?_
   refine dD (()) ?_ ?_ ?_
   ·exact (Sub.nil _)
   ·exact uh
   ·(try dsimp only)
    first | done | exact hJn
theorem TS (c : Nat) (hB : ∀ g ∈ Gv G N, ∀ e ∈ g, EB e) (hL : ∀ g ∈ Gv G N, g.length ≤ 16384) : Iter prog w0 (.func (.func 176) #[] #[.pointer (some ⟨c, 0, none⟩)]) (F9 c G N G.length) (Gv G N).length
  (fun k vs A => ∃ u, ∃ fs : List fM, fs.map fM.says = (Gv G N).getD k [] ∧ vs = [u] ∧ A = Oj u fs) := by
 intro l J X w hy H
 refine ⟨176, [], [.pointer (some ⟨c, 0, none⟩)], _, _, O, func176, O, O, ?_⟩
 obtain ⟨v, hs, hhs, hhl, H1⟩ := H.comm.TQ
 have agM := hhs
 rw [List.take_of_length_le (by simp), ← acV] at hhs
 have hlen : hs.length = (Gv G N).length := by have := congrArg List.length hhs; simpa using this
 obtain ⟨a, d, hv, hc1, hc2, _⟩ := (H1.swap.aP).form
 subst hv
 simp only [List.nil_append, List.cons_append]
 refine ZY func176 ntmps176 ?_
 dsimp only [zZ, Nat.reduceAdd]
 refine iy (fC bQ O (H1).get.2 O (aQ (kX ((H1.f2).aP) bQ O) (bJ O (iE (bf ?_)))))
 refine iC [(0, _), (5, _), (6, _)] (fun (k : Nat) => [(7, .int .i64 (k : Int))]) (fun (k : Nat) W => k ≤ hs.length ∧ V w0 W (eP c (.cells #[.slice a hs.length d] 226 (0, 0)) • Row 80 1 (.slice a hs.length d) hs.length (hs.map (·.1)) • qP hs • J k)) (fun (k : Nat) => hs.length - k) (0) vC mO ⟨by omega, H1⟩ ?_
 rintro k w1 ⟨hk, HL⟩
 dsimp only [List.cons_append, List.nil_append]
 refine iy (aQ (gW O O) (rP (aZ O (fun h1 => ?_) (fun h1 => ?_))))
 ·(try simp only [Z] at h1)
  refine fV (aI (bf (iy ?_)))
  obtain ⟨bv, ov, cv, ev⟩ := Rd.rW ((HL.f2).aP) (by omega)
  cases ev
  refine aQ (dM bQ bU O O (by omega)) ?_
  refine aQ (fF (dA aW O) O (by first | exact Rd.lX ((HL.f2).aP) (by omega) | exact Rd.xJ ((HL.f2).aP) (by omega) | exact Rd.xH ((HL.f2).aP) (by omega))) ?_
  have hkl : k < hs.length := by omega
  rw [show (hs.map (·.1)).getD k undef = (hs.getD k default).1 from by simp [List.getD_eq_getElem?_getD, hkl]]
  obtain ⟨gl, A8, hg⟩ : ∃ gl A8, hs.getD k default = (gl, A8) := ⟨_, _, rfl⟩
  rw [hg]
  have Ho2 := HL.f3
  have Hc3 := Ho2.KW hkl hg
  have hge : A8.map fM.says = (Gv G N).getD k [] := by
   rw [← hhs]
   have h9 : (hs.map (fun g => g.2.map fM.says)).getD k [] = (hs.getD k default).2.map fM.says := by simp [List.getD_eq_getElem?_getD, hkl]
   rw [h9, hg]
  have hgm : (Gv G N).getD k [] ∈ Gv G N := zW (by omega)
  have hBg := TI hge (hB _ hgm)
  have hLg : A8.length ≤ 16384 := by
   have h7 := congrArg List.length hge
   rw [List.length_map] at h7
   have := hL _ hgm
   omega
  refine dZ O (bM O (bJ O (dS O func173 (BQ Hc3 hBg hLg) ?_)))
  rintro u4 w4 ⟨fs4, ah7, H4⟩
  obtain ⟨es2, rfl⟩ : ∃ q, q = fs4 := ⟨_, rfl⟩
  have hes2 := ah7
  have Hd5 := H4.f3.right
  refine kF (QV O O (hy k (by omega) _ _ ⟨_, es2, hes2.trans hge, O, O⟩ (qP hs • Row 80 1 (.slice (some ⟨bv, ov, none⟩) hs.length d) hs.length (hs.map (·.1)) • eP c (.cells #[.slice (some ⟨bv, ov, none⟩) hs.length d] 226 (0, 0))) _ (Hd5.of_eq (by unfold Oj; ac_rfl))).bool) ?_
  rintro _ w6 ⟨t, rfl, ht1, ht2⟩
  refine aQ (kG O) (jr O (fun h2 => ?_) (fun h2 => ?_))
  ·(try simp only [Z] at h2)
   have HX := ht2 (by simpa using h2)
   refine lQ (aU (aA (aA (aU (we0 results176 ?_)))))
   exact .inr (V.comm (V.MN (u := .slice (some ⟨bv, ov, none⟩) hs.length d) agM (HX.of_eq (by unfold Gu; ac_rfl))))
  ·(try simp only [Z] at h2)
   have HN : V w0 w6 (eP c (.cells #[.slice (some ⟨bv, ov, none⟩) hs.length d] 226 (0, 0)) • Row 80 1 (.slice (some ⟨bv, ov, none⟩) hs.length d) hs.length (hs.map (·.1)) • qP hs • J (k + 1)) := by
    have h9 := ht1 (by simpa using h2)
    exact h9.of_eq (by ac_rfl)
   refine dh (aH (aX (aB (aQ (fQ O O (by omega)) (bJ O (bZ ?_))))))
   refine dX (k + 1) ?_ ?_ ?_ ?_
   ·exact mO
   ·exact vC
   ·(try dsimp only)
    first | done | exact ⟨by omega, HN.f3.f3.f3⟩
   ·(try dsimp only); omega
 ·(try simp only [Z] at h1)
  refine dR (aO (aO (bG (mX (.inr O) results176 ?_))))
  obtain rfl : k = hs.length := by omega
  rw [← hlen]
  exact .inl (V.comm (V.MN (u := .slice a hs.length d) agM (HL.of_eq (by unfold Gu; ac_rfl))))
end
end Go.Proofs.YtpdeedplgmbopaaGreatDoor
end
section
namespace Go.Proofs.YtpdeedplgmbopaaGreatDoor
open Go.RowKit
def JU (P : Int → Nat) (U : Int → List (List jl)) : List Int → HP
  | [] => emp
  | k :: D => jP (P k) (U k) [] 0 • JU P U D
def TT (D : List Int) (P : Int → Nat) : Int → Option Value := fun k => if k ∈ D then some (.pointer (some ⟨P k, 0, none⟩)) else none
theorem vW {P : Int → Nat} {U : Int → List (List jl)} {k : Int} : ∀ {D : List Int}, k ∈ D → JU P U D = (jP (P k) (U k) [] 0 • JU P U (D.erase k))
  | x :: D, h => by
    by_cases e : x = k
    · subst e; rw [List.erase_cons_head]; rfl
    · rw [List.erase_cons_tail (by simpa using e)]
      have hk : k ∈ D := (List.mem_cons.1 h).resolve_left (Ne.symm e)
      show (jP (P x) (U x) [] 0 • JU P U D) = _
      rw [vW hk]
      show (jP (P x) (U x) [] 0 • jP (P k) (U k) [] 0 • JU P U (D.erase k)) = (jP (P k) (U k) [] 0 • (jP (P x) (U x) [] 0 • JU P U (D.erase k)))
      ac_rfl
theorem Fe {P P' : Int → Nat} {U U' : Int → List (List jl)} : ∀ {D : List Int}, (∀ k ∈ D, P k = P' k ∧ U k = U' k) → JU P U D = JU P' U' D
  | [], _ => rfl
  | x :: D, h => by
    show (jP (P x) (U x) [] 0 • JU P U D) = (jP (P' x) (U' x) [] 0 • JU P' U' D)
    rw [(h x (by simp)).1, (h x (by simp)).2, Fe fun k hk => h k (List.mem_cons_of_mem _ hk)]
def zy (b : Nat) (U : Int → List (List jl)) : HP := xQ fun (x : List Int × (Int → Nat)) => fact (x.1.Nodup ∧ ∀ k, k ∉ x.1 → U k = []) • iV uT b (TT x.1 x.2) • JU x.2 U x.1
def PS (b : Nat) (U : Int → List (List jl)) (k : Int) (p : Nat) : HP := xQ fun (x : List Int × (Int → Nat)) => fact (x.1.Nodup ∧ (∀ k, k ∉ x.1 → U k = []) ∧ k ∈ x.1 ∧ x.2 k = p) • iV uT b (TT x.1 x.2) • JU x.2 U (x.1.erase k)
section
variable {w0 w : World} {F : HP} {b p : Nat} {k : Int} {U : Int → List (List jl)} {G : List (List jl)}
theorem V.ac0 (H : V w0 w (zy b U • F)) : ∃ D P, (D : List Int).Nodup ∧ (∀ k, k ∉ D → U k = []) ∧ V w0 w (iV uT b (TT D P) • JU P U D • F) := by
  obtain ⟨⟨D, P⟩, H⟩ := H.oN
  obtain ⟨⟨h1, h2⟩, H⟩ := H.flat.fact
  exact ⟨D, P, h1, h2, H.flat⟩
theorem V.Fg {D : List Int} {P : Int → Nat} (h1 : D.Nodup) (h2 : ∀ k, k ∉ D → U k = []) (H : V w0 w (iV uT b (TT D P) • JU P U D • F)) : V w0 w (zy b U • F) :=
  V.jV (D, P) (V.deep (V.mW ⟨h1, h2⟩ H.deep))
theorem V.aed {D : List Int} {P : Int → Nat} (h1 : D.Nodup) (h2 : ∀ k, k ∉ D → U k = []) (hk : k ∈ D) (H : V w0 w (iV uT b (TT D P) • JU P U D • F)) : V w0 w (jP (P k) (U k) [] 0 • PS b U k (P k) • F) := by
  have H1 : V w0 w ((iV uT b (TT D P) • JU P U (D.erase k)) • jP (P k) (U k) [] 0 • F) := H.of_eq (by rw [vW hk]; ac_rfl)
  have H2 : V w0 w (PS b U k (P k) • jP (P k) (U k) [] 0 • F) := V.jV (D, P) (V.deep (V.mW ⟨h1, h2, hk, rfl⟩ H1))
  exact H2.swap
theorem V.CG (H : V w0 w (PS b U k p • jP p G [] 0 • F)) : V w0 w (zy b (xk U k G) • F) := by
  obtain ⟨⟨D, P⟩, H⟩ := H.oN
  obtain ⟨⟨h1, h2, hk, hp⟩, H⟩ := H.flat.fact
  dsimp only at h1 h2 hk hp H
  subst hp
  refine V.Fg (D := D) (P := P) h1 (fun x hx => ?_) ?_
  · rw [xq _ _ (by rintro rfl; exact hx hk)]; exact h2 x hx
  · rw [vW (U := xk U k G) hk, iL, Fe (P' := P) (U' := U) fun x hx => ⟨rfl, xq _ _ (by rintro rfl; exact (List.Nodup.not_mem_erase h1) hx)⟩]
    exact H.of_eq (by ac_rfl)
end
def xw (t : Int → Option ByteArray) : Int → Option Value := fun k => (t k).map .string
def Wn (pb pr pw pt pm : Nat) (c : oQ) : HP := jB pb c.L c.pt c.mark • gq pr c.E c.at_ • eP pw (.cells #[.int .i64 c.place, .map (some pt)] 122 (0, 0)) • iV uT pt (xw c.tx) • zy pm c.un
def TU (pb pr pw pm : Nat) (c : oQ) : List Value := [.pointer (some ⟨pb, 0, none⟩), .pointer (some ⟨pr, 0, none⟩), .pointer (some ⟨pw, 0, none⟩), .map (some pm), .int .i64 c.mode, .bool c.over, .int .i64 c.last, .int .i64 c.fr, .int .i64 c.to, .int .i64 c.res, .bool c.run]
def yL (inn : Bool) (c : oQ) (u : List Value) : HP := if inn = true then xQ fun (x : Nat × Nat × Nat × Nat × Nat) => fact (u = TU x.1 x.2.1 x.2.2.1 x.2.2.2.2 c) • Wn x.1 x.2.1 x.2.2.1 x.2.2.2.1 x.2.2.2.2 c else (fact ((u.all fun x => x.oneCell') = true))
def Wp (hl : List tu) (c : oQ) : Prop := 0 ≤ c.place ∧ c.place ≤ hl.length ∧ (∀ k t, c.tx k = some t → t.size ≤ 16384)
def zA (e : jl) : Prop := 0 ≤ e.1 ∧ 0 < e.2.1.length + e.2.2.length ∧ e.2.1.length ≤ 1024 ∧ e.2.2.length ≤ 1024
def nT (s : bF) : Prop := Wp s.hl s.c ∧ (s.inn = true → Wp s.hl s.was ∧ ig (s.was.un s.was.place) [] ≤ 16384 ∧ ∀ k, ∀ g ∈ s.was.un k, ∀ e ∈ g, zA e) ∧ (-1 ≤ s.arg ∧ s.arg ≤ 1000000) ∧ (∀ e ∈ s.put, zA e) ∧ ig s.here s.put ≤ 16384 ∧ (∀ k, ∀ g ∈ s.c.un k, ∀ e ∈ g, zA e)
structure EdP where
  pb : Nat
  pr : Nat
  pw : Nat
  pt : Nat
  pm : Nat
  ph : Nat
  bl : Nat
  pv : Value
  es : List fM
  u0 : Value
  u1 : Value
  u2 : Value
  u3 : Value
  u4 : Value
  u5 : Value
  u6 : Value
  u7 : Value
  u8 : Value
  u9 : Value
  ua : Value
def EdG (e : Nat) (s : bF) (M : Nat → HP) : HP := xQ fun (x : EdP) => fact (nT s ∧ x.es.map fM.says = s.put) •
  eP e (.cells (.pointer (some ⟨x.pb, 0, none⟩) :: .pointer (some ⟨x.pr, 0, none⟩) :: .pointer (some ⟨x.pw, 0, none⟩) :: .map (some x.pm) :: .int .i64 s.c.mode :: .bool s.c.over :: .int .i64 s.c.last :: .int .i64 s.c.fr :: .int .i64 s.c.to :: .int .i64 s.c.res :: .bool s.c.run :: .pointer (some ⟨x.ph, 0, none⟩) :: .pointer (some ⟨x.bl, 0, none⟩) :: .bool s.given :: .bool s.minus :: .int .i64 s.arg :: .bool s.inn :: x.u0 :: x.u1 :: x.u2 :: x.u3 :: x.u4 :: x.u5 :: x.u6 :: x.u7 :: x.u8 :: x.u9 :: x.ua :: .int .i64 s.cls :: .bool s.killed :: .bool s.lT :: .bool s.argues :: .bool s.whole :: x.pv :: []).toArray 82 (0, 0)) •
  jB x.pb s.c.L s.c.pt s.c.mark • gq x.pr s.c.E s.c.at_ • eP x.pw (.cells #[.int .i64 s.c.place, .map (some x.pt)] 122 (0, 0)) • iV uT x.pt (xw s.c.tx) • M x.pm •
  jC x.ph s.hl s.base s.most • eP x.bl (.cells #[.int .i64 s.qQ] 161 (0, 0)) • Row 189 3 x.pv s.put.length (x.es.flatMap fM.enc) • nC x.es • yL s.inn s.was [x.u0, x.u1, x.u2, x.u3, x.u4, x.u5, x.u6, x.u7, x.u8, x.u9, x.ua]
def eH (e : Nat) (s : bF) : HP := EdG e s fun pm => zy pm s.c.un
def ah8 (e : Nat) (s : bF) (p : Nat) : HP := EdG e s fun pm => PS pm s.c.un s.c.place p
section
variable {w0 w : World} {F : HP} {e : Nat} {s : bF} {M : Nat → HP}
theorem V.edG (H : V w0 w (EdG e s M • F)) : ∃ pb pr pw pt pm ph bl pv es u0 u1 u2 u3 u4 u5 u6 u7 u8 u9 ua, nT s ∧ es.map fM.says = s.put ∧ es.length = s.put.length ∧ V w0 w (
  eP e (.cells (.pointer (some ⟨pb, 0, none⟩) :: .pointer (some ⟨pr, 0, none⟩) :: .pointer (some ⟨pw, 0, none⟩) :: .map (some pm) :: .int .i64 s.c.mode :: .bool s.c.over :: .int .i64 s.c.last :: .int .i64 s.c.fr :: .int .i64 s.c.to :: .int .i64 s.c.res :: .bool s.c.run :: .pointer (some ⟨ph, 0, none⟩) :: .pointer (some ⟨bl, 0, none⟩) :: .bool s.given :: .bool s.minus :: .int .i64 s.arg :: .bool s.inn :: u0 :: u1 :: u2 :: u3 :: u4 :: u5 :: u6 :: u7 :: u8 :: u9 :: ua :: .int .i64 s.cls :: .bool s.killed :: .bool s.lT :: .bool s.argues :: .bool s.whole :: pv :: []).toArray 82 (0, 0)) •
  jB pb s.c.L s.c.pt s.c.mark • gq pr s.c.E s.c.at_ • eP pw (.cells #[.int .i64 s.c.place, .map (some pt)] 122 (0, 0)) • iV uT pt (xw s.c.tx) • M pm •
  jC ph s.hl s.base s.most • eP bl (.cells #[.int .i64 s.qQ] 161 (0, 0)) • Row 189 3 pv s.put.length (es.flatMap fM.enc) • nC es • yL s.inn s.was [u0, u1, u2, u3, u4, u5, u6, u7, u8, u9, ua] • F) := by
  obtain ⟨⟨pb, pr, pw, pt, pm, ph, bl, pv, es, u0, u1, u2, u3, u4, u5, u6, u7, u8, u9, ua⟩, H⟩ := H.oN
  obtain ⟨⟨h1, h2⟩, H⟩ := H.flat.fact
  refine ⟨pb, pr, pw, pt, pm, ph, bl, pv, es, u0, u1, u2, u3, u4, u5, u6, u7, u8, u9, ua, h1, h2, ?_, ?_⟩
  · rw [← h2]; simp
  · dsimp only at H
    exact H.of_eq (by simp only [dH])
theorem V.ae3 {pb pr pw pt pm ph bl : Nat} {pv : Value} {es : List fM} {u0 u1 u2 u3 u4 u5 u6 u7 u8 u9 ua : Value} (h1 : nT s) (h2 : es.map fM.says = s.put) (H : V w0 w (
  eP e (.cells (.pointer (some ⟨pb, 0, none⟩) :: .pointer (some ⟨pr, 0, none⟩) :: .pointer (some ⟨pw, 0, none⟩) :: .map (some pm) :: .int .i64 s.c.mode :: .bool s.c.over :: .int .i64 s.c.last :: .int .i64 s.c.fr :: .int .i64 s.c.to :: .int .i64 s.c.res :: .bool s.c.run :: .pointer (some ⟨ph, 0, none⟩) :: .pointer (some ⟨bl, 0, none⟩) :: .bool s.given :: .bool s.minus :: .int .i64 s.arg :: .bool s.inn :: u0 :: u1 :: u2 :: u3 :: u4 :: u5 :: u6 :: u7 :: u8 :: u9 :: ua :: .int .i64 s.cls :: .bool s.killed :: .bool s.lT :: .bool s.argues :: .bool s.whole :: pv :: []).toArray 82 (0, 0)) •
  jB pb s.c.L s.c.pt s.c.mark • gq pr s.c.E s.c.at_ • eP pw (.cells #[.int .i64 s.c.place, .map (some pt)] 122 (0, 0)) • iV uT pt (xw s.c.tx) • M pm •
  jC ph s.hl s.base s.most • eP bl (.cells #[.int .i64 s.qQ] 161 (0, 0)) • Row 189 3 pv s.put.length (es.flatMap fM.enc) • nC es • yL s.inn s.was [u0, u1, u2, u3, u4, u5, u6, u7, u8, u9, ua] • F)) : V w0 w (EdG e s M • F) :=
  V.jV ⟨pb, pr, pw, pt, pm, ph, bl, pv, es, u0, u1, u2, u3, u4, u5, u6, u7, u8, u9, ua⟩ (V.deep (V.mW ⟨h1, h2⟩ (H.of_eq (by simp only [dH]))))
theorem V.jg {pb pr pw pt pm ph bl : Nat} {pv : Value} {es : List fM} {u0 u1 u2 u3 u4 u5 u6 u7 u8 u9 ua : Value} (h1 : nT s) (h2 : es.map fM.says = s.put) (H : V w0 w (
  eP e (.cells (.pointer (some ⟨pb, 0, none⟩) :: .pointer (some ⟨pr, 0, none⟩) :: .pointer (some ⟨pw, 0, none⟩) :: .map (some pm) :: .int .i64 s.c.mode :: .bool s.c.over :: .int .i64 s.c.last :: .int .i64 s.c.fr :: .int .i64 s.c.to :: .int .i64 s.c.res :: .bool s.c.run :: .pointer (some ⟨ph, 0, none⟩) :: .pointer (some ⟨bl, 0, none⟩) :: .bool s.given :: .bool s.minus :: .int .i64 s.arg :: .bool s.inn :: u0 :: u1 :: u2 :: u3 :: u4 :: u5 :: u6 :: u7 :: u8 :: u9 :: ua :: .int .i64 s.cls :: .bool s.killed :: .bool s.lT :: .bool s.argues :: .bool s.whole :: pv :: []).toArray 82 (0, 0)) •
  jB pb s.c.L s.c.pt s.c.mark • gq pr s.c.E s.c.at_ • eP pw (.cells #[.int .i64 s.c.place, .map (some pt)] 122 (0, 0)) • iV uT pt (xw s.c.tx) • zy pm s.c.un •
  jC ph s.hl s.base s.most • eP bl (.cells #[.int .i64 s.qQ] 161 (0, 0)) • Row 189 3 pv s.put.length (es.flatMap fM.enc) • nC es • yL s.inn s.was [u0, u1, u2, u3, u4, u5, u6, u7, u8, u9, ua] • F)) : V w0 w (eH e s • F) := V.ae3 (M := fun pm => zy pm s.c.un) h1 h2 H
theorem V.JV (H : V w0 w (eH e s • F)) : ∃ pb pr pw pt pm ph bl pv es u0 u1 u2 u3 u4 u5 u6 u7 u8 u9 ua, nT s ∧ es.map fM.says = s.put ∧ es.length = s.put.length ∧ V w0 w (
  eP e (.cells (.pointer (some ⟨pb, 0, none⟩) :: .pointer (some ⟨pr, 0, none⟩) :: .pointer (some ⟨pw, 0, none⟩) :: .map (some pm) :: .int .i64 s.c.mode :: .bool s.c.over :: .int .i64 s.c.last :: .int .i64 s.c.fr :: .int .i64 s.c.to :: .int .i64 s.c.res :: .bool s.c.run :: .pointer (some ⟨ph, 0, none⟩) :: .pointer (some ⟨bl, 0, none⟩) :: .bool s.given :: .bool s.minus :: .int .i64 s.arg :: .bool s.inn :: u0 :: u1 :: u2 :: u3 :: u4 :: u5 :: u6 :: u7 :: u8 :: u9 :: ua :: .int .i64 s.cls :: .bool s.killed :: .bool s.lT :: .bool s.argues :: .bool s.whole :: pv :: []).toArray 82 (0, 0)) •
  jB pb s.c.L s.c.pt s.c.mark • gq pr s.c.E s.c.at_ • eP pw (.cells #[.int .i64 s.c.place, .map (some pt)] 122 (0, 0)) • iV uT pt (xw s.c.tx) • zy pm s.c.un •
  jC ph s.hl s.base s.most • eP bl (.cells #[.int .i64 s.qQ] 161 (0, 0)) • Row 189 3 pv s.put.length (es.flatMap fM.enc) • nC es • yL s.inn s.was [u0, u1, u2, u3, u4, u5, u6, u7, u8, u9, ua] • F) := H.edG
end
end Go.Proofs.YtpdeedplgmbopaaGreatDoor
end
section
namespace Go.Proofs.YtpdeedplgmbopaaGreatDoor
open Go.RowKit
open _root_.Go.Proofs.Tryz
def Q9 {β : Type} (f : Int → Option β) (S : List Int) : Int → Option β := fun k => if k ∈ S then f k else none
theorem TV {β : Type} (f : Int → Option β) : Q9 f [] = fun _ => none := by funext k; simp [Q9]
theorem PU {β : Type} {f : Int → Option β} {S : List Int} {a : Int} {u : β} (h : f a = some u) : Q9 f (S ++ [a]) = upd (Q9 f S) a u := by
  funext k
  unfold Q9 upd
  by_cases hk : k = a
  · subst hk; simp [h]
  · simp [hk]
theorem TW {β : Type} {f : Int → Option β} {S : List Int} (h : ∀ a u, f a = some u → a ∈ S) : Q9 f S = f := by
  funext k
  unfold Q9
  split
  · rfl
  · rename_i hk
    cases hf : f k with
    | none => rfl
    | some u => exact absurd (h k u hf) hk
theorem XZ (P : Int → Nat) : TT [] P = fun _ => none := by funext k; simp [TT]
theorem aaU {D : List Int} {P : Int → Nat} {a : Int} {u : Value} (h : TT D P a = some u) : a ∈ D ∧ u = .pointer (some ⟨P a, 0, none⟩) := by
  unfold TT at h
  split at h
  · rename_i hm; exact ⟨hm, by cases h; rfl⟩
  · cases h
theorem TY {S : List Int} {P : Int → Nat} {a : Int} {q : Nat} (h : a ∉ S) : TT (S ++ [a]) (xk P a q) = upd (TT S P) a (.pointer (some ⟨q, 0, none⟩)) := by
  funext k
  unfold TT upd xk
  by_cases hk : k = a
  · subst hk; simp
  · simp [hk]
theorem MO {P : Int → Nat} {U : Int → List (List jl)} {a : Int} : ∀ {S : List Int}, JU P U (S ++ [a]) = (JU P U S • jP (P a) (U a) [] 0)
  | [] => by show (jP (P a) (U a) [] 0 • emp) = (emp • jP (P a) (U a) [] 0); rw [zi, qL]
  | x :: S => by
    show (jP (P x) (U x) [] 0 • JU P U (S ++ [a])) = ((jP (P x) (U x) [] 0 • JU P U S) • jP (P a) (U a) [] 0)
    rw [MO, dH]
theorem Jj {α : Type} {o : Option α} (h : ¬ o.isSome = true) : o = none := by cases o <;> simp_all
theorem MQ {S : List Int} {a : Int} (h : S.Nodup) (ha : a ∉ S) : (S ++ [a]).Nodup := by
  rw [List.nodup_append]
  exact ⟨h, by simp, by intro x hx y hy; rw [List.mem_singleton.1 hy]; rintro rfl; exact ha hx⟩
section
variable {w0 w : World} {F : HP} {pb pr pw pt pm : Nat} {c : oQ}
theorem Ua (H : V w0 w (jB pb c.L c.pt c.mark • gq pr c.E c.at_ • eP pw (.cells #[.int .i64 c.place, .map (some pt)] 122 (0, 0)) • iV uT pt (xw c.tx) • zy pm c.un • F)) :
  iQ prog 80 #[.agg #[.pointer (some ⟨pb, 0, none⟩), .pointer (some ⟨pr, 0, none⟩), .pointer (some ⟨pw, 0, none⟩), .map (some pm), .int .i64 c.mode, .bool c.over, .int .i64 c.last, .int .i64 c.fr, .int .i64 c.to, .int .i64 c.res, .bool c.run]] w fun v w' =>
   ∃ qb qr qw qt qm, v = .agg #[.pointer (some ⟨qb, 0, none⟩), .pointer (some ⟨qr, 0, none⟩), .pointer (some ⟨qw, 0, none⟩), .map (some qm), .int .i64 c.mode, .bool c.over, .int .i64 c.last, .int .i64 c.fr, .int .i64 c.to, .int .i64 c.res, .bool c.run] ∧
    V w0 w' (jB qb c.L c.pt c.mark • gq qr c.E c.at_ • eP qw (.cells #[.int .i64 c.place, .map (some qt)] 122 (0, 0)) • iV uT qt (xw c.tx) • zy qm c.un •
     jB pb c.L c.pt c.mark • gq pr c.E c.at_ • eP pw (.cells #[.int .i64 c.place, .map (some pt)] 122 (0, 0)) • iV uT pt (xw c.tx) • zy pm c.un • F) := by
 refine ji func80 ntmps80 ?_
 refine iy (kF (jF (l := [_, _, _, _, _, _, _, _, _, _, _]) H O O) ?_)
 rintro _ w1 ⟨b1, rfl, H1⟩
 refine kF (iR (l := [_, _, _, _, _, _, _, _, _, _, _]) H1 oH O) ?_
 rintro _ w2 ⟨b2, rfl, H2⟩
 refine rP ?_
 have aaA := H2.drew
 have Ce := V.kp (aaA.f7.f7.f7.f7.f7.f7.f7)
 refine uN [1, 4] Ce O (gy 0 O Ce 0 aK O sD O (jf 1 O Ce (fun W hW => jv mZ O ((Kp.h hW).f2).get.2 O) (gy 3 O Ce 1 aK O sizeOf73 O (jf 4 O Ce (fun W hW => jv uP O ((Kp.h hW).f2).get.2 O) (mQ 2 O (wR O func129 (Ou aaA.f3)) ?_)))))
 rintro _ w3 ⟨q3, rfl, H3⟩
 have Bc := V.kp (H3.f8.f8.f8.f8.f8.f8.f8.f8)
 refine fD Bc (fun W hW => (Kp.h hW).right.f7.f7.f7.f7.f5.f7.f7) ?_
 refine gy 6 O Bc 0 aK O sD O (mQ 5 O (wR O func85 (Ej H3.f5)) ?_)
 rintro _ w4 ⟨pc4, rfl, H4⟩
 have BN := V.kp (H4.f9.f9.f9.f9.f9.f9.f9.f9.f9)
 refine iK BN (by kernel_rfl) ?_
 refine iH 7 O (by kernel_rfl) (gB 0 (l' := [_, _, _, _, _, _, _, _, _, _, _]) H4.f6 sD O O (by first | rfl | assumption) O O) ?_
 rintro _ w5 H5
 have Dj := V.kp (H5.f9.f9.f9.f9.f9.f9.f9.f9.f9)
 refine iK Dj (by kernel_rfl) ?_
 refine gy 8 O Dj 1 aK O sizeOf73 O ?_
 refine iH 9 O (by kernel_rfl) (gB 1 (l' := [_, _, _, _, _, _, _, _, _, _, _]) H5 sizeOf73 O O (by first | rfl | assumption) O O) ?_
 rintro _ w6 H6
 have Gy := V.kp (H6.f9.f9.f9.f9.f9.f9.f9.f9.f9)
 refine iK Gy (by kernel_rfl) ?_
 refine pq (aX (iy (bI 2 aK O sizeOf74 O (fC ni O (H6).get.2 O (dK O (bI 0 iG O ay O (fC aC O (H6.f7).get.2 O (kF (lF (Aw .i64) H6) ?_))))))))
 rintro _ w7 ⟨b7, rfl, H7⟩
 refine aQ (nP (pl := #[(0, 1), (1, 1)]) (#[_, _]) iG qC (fun w => by kernel_rfl) O (O)) (kF (jF (l := [_, _]) H7 O O) ?_)
 rintro _ w8 ⟨b8, rfl, H8⟩
 refine uf O (iy (bI 2 aK O sizeOf74 O (fC ni O (H8.f3).get.2 O (dK O (bI 1 iG O sizeOf120 O (fC underlying120 O (H8.f9).get.2 O (kF (Ey H8.f10 underlying120 O) ?_)))))))
 rintro _ w9 ⟨it9, mi, rfl, H9⟩
 refine iE (bf ?_)
 obtain ⟨R10, ah9, aia⟩ := V.Ls (H9.f2.f3.f3)
 have HX0 := aia
 rw [← TV (xw c.tx)] at HX0
 refine iC [(1, _), (2, _), (3, _), (30, _)] (fun (⟨S, n⟩ : List Int × Nat) => []) (fun (⟨S, n⟩ : List Int × Nat) W => V w0 W (F8 uT pt it9 (xw c.tx) S n • iV uT b7 (Q9 (xw c.tx) S) • eP b8 (.cells #[.int .i64 c.place, .map (some b7)] 122 (0, 0)) • R10)) (fun (⟨S, n⟩ : List Int × Nat) => n) (([], _)) JF (Sub.nil _) HX0 ?_
 rintro ⟨S, n⟩ FM HL
 dsimp only [List.cons_append, List.nil_append]
 refine iy (kF (Gw HL O) ?_)
 rintro _ w12 ⟨ox, Sx, mx, rfl, hNx, vM⟩
 refine aQ (aaS O) (rP (aZ O (fun h1 => ?_) (fun h1 => ?_)))
 ·(try simp only [Z] at h1)
  obtain ⟨⟨a, u⟩, rfl⟩ := Option.isSome_iff_exists.1 h1
  obtain ⟨ha, hns, hlt, rfl⟩ := hNx
  refine fV (bf (iy ?_))
  refine aQ (Q7 (vM) (by assumption) O) ?_
  refine pW O O (pW O O (gU O (dZ O (aB (oq O O (bI 1 iG O sizeOf120 O (fC underlying120 O (vM.f3).get.2 O (jX O O (aJ (yK vM.f2 underlying120 aC O O O) ?_)))))))))
  rintro _ PD xI
  refine bZ (aH ?_)
  have hres := PU (S := S) ha
  refine dX ((S ++ [a], mx)) ?_ ?_ ?_ ?_
  ·exact (Sub.nil _)
  ·exact JF
  ·(try dsimp only)
   first | done | exact (by rw [hres]; exact xI.f3.f2.f3)
  ·(try dsimp only); omega
 ·(try simp only [Z] at h1)
  obtain rfl := Jj (o := ox) (by simp [h1])
  obtain ⟨rfl, rfl, hall⟩ := hNx
  refine dR (aO ?_)
  have HX := vM.f3.f2.f3
  rw [TW hall] at HX
  have ae4 := HX.f2
  have ae5 := ae4.Ji
  subst ah9
  refine aO (bG (aX (bM O (bI 2 aK O sizeOf74 O (aJ (gB 2 (l' := [_, _, _, _, _, _, _, _, _, _, _]) ae5.f4 sizeOf74 O O (by first | rfl | assumption) O O) ?_)))))
  rintro _ w16 vN
  refine zk7 (kF (lF (Aw .i64) vN) ?_)
  rintro _ Z5 ⟨b17, rfl, DF⟩
  refine uf O (aI ?_)
  obtain ⟨D, P, hD1, hD2, HU⟩ := (DF.f12).ac0
  refine aB (bI 3 aK O sizeOf75 O (fC ny O (HU.f4).get.2 O (kF (Ey HU ny O) ?_)))
  rintro _ w18 ⟨aib, mi, rfl, DZ⟩
  refine iE (bf ?_)
  obtain ⟨R19, aic, aid⟩ := V.Ls (DZ.f3.f3.f3)
  have HX0 := aid
  rw [← XZ P] at HX0
  refine iC [(1, _), (2, _), (6, _), (47, _)] (fun (⟨S, n, P2⟩ : List Int × Nat × (Int → Nat)) => []) (fun (⟨S, n, P2⟩ : List Int × Nat × (Int → Nat)) W => S.Nodup ∧ V w0 W (F8 uT pm aib (TT D P) S n • JU P c.un D • iV uT b17 (TT S P2) • JU P2 c.un S • R19)) (fun (⟨S, n, P2⟩ : List Int × Nat × (Int → Nat)) => n) (([], _, P)) JF (Sub.nil _) ⟨List.nodup_nil, (HX0).of_eq (by show _ = (_ • _ • _ • emp • _); rw [qL])⟩ ?_
  rintro ⟨S, n, P2⟩ w20 ⟨hS, HL⟩
  dsimp only [List.cons_append, List.nil_append]
  refine iy (kF (Gw HL O) ?_)
  rintro _ w21 ⟨ox, Sx, mx, rfl, hNx, vF⟩
  refine aQ (aaS O) (rP (aZ O (fun h2 => ?_) (fun h2 => ?_)))
  ·(try simp only [Z] at h2)
   obtain ⟨⟨a, u⟩, rfl⟩ := Option.isSome_iff_exists.1 h2
   obtain ⟨ha, hns, hlt, rfl⟩ := hNx
   obtain ⟨hmem, rfl⟩ := aaU ha
   have HF := vF.f2
   rw [vW hmem] at HF
   have HF2 := HF.flat
   refine fV (bf (iy ?_))
   refine aQ (Q7 (HF2.f3) (by assumption) O) ?_
   refine pW O O (pW O O (gU O (dZ O (aB (jX O O (bJ O (dS O func130 (MH HF2) ?_)))))))
   rintro _ w22 ⟨q22, rfl, KQ⟩
   refine aJ (yK KQ.f5 ny aC O O O) ?_
   rintro _ w23 BK
   refine bZ (aH ?_)
   have HQ := BK.f2.f6.f3.f5.f5.f6
   have hu1 : JU (xk P2 a q22) c.un (S ++ [a]) = (JU P2 c.un S • jP q22 (c.un a) [] 0) := by
    rw [MO, iL, Fe (P' := P2) (U' := c.un) fun x hx => ⟨xq _ _ (by rintro rfl; exact hns hx), rfl⟩]
   refine dX ((S ++ [a], mx, xk P2 a q22)) ?_ ?_ ?_ ?_
   ·exact (Sub.nil _)
   ·exact JF
   ·(try dsimp only)
    first | done | exact ⟨MQ hS hns, HQ.of_eq (by rw [vW hmem, hu1, TY hns]; ac_rfl)⟩
   ·(try dsimp only); omega
  ·(try simp only [Z] at h2)
   obtain rfl := Jj (o := ox) (by simp [h2])
   obtain ⟨rfl, rfl, hall⟩ := hNx
   refine dR (aO ?_)
   have aie := vF
   have aif := aie.Ji
   subst aic
   have aih := aif.f2.f2
   have aii := V.Fg hD1 hD2 aih
   have hnS : ∀ k, k ∉ Sx → c.un k = [] := fun k hk => hD2 k fun hkD => hk (hall k _ (if_pos hkD))
   have ae6 := aii.f3.f3
   have Y7 := V.Fg hS hnS ae6
   refine aO (bG (aX (bM O (bI 3 aK O sizeOf75 O (aJ (gB 3 (l' := [_, _, _, _, _, _, _, _, _, _, _]) Y7.f3 sizeOf75 O O (by first | rfl | assumption) O O) ?_)))))
   rintro _ w30 Vm
   refine zk7 (aQ (dV aK O aV O O (Vm).get.2) (aJ (dG 0 (l' := [_, _, _, _, _, _, _, _, _, _, _]) (us := [_, _, _, _, _, _, _, _, _, _, _]) Vm.f11 aV O O O (aG (aG (aG (aG (aG (aG (aG (aG (aG (aG (aG bW))))))))))) O O) ?_))
   rintro _ w31 Vo
   refine zkc ?_
   refine sS (.inl O) (QA results80 O aK O (by rw [agN]; rfl) (Vo).get.2) ?_
   exact ⟨_, _, _, _, _, O, Vo.right.right.f2.f3.f10.f8.f10.f6.f7.f8.f9.f10⟩
end
def MR (D : List Int) (P : Int → Nat) (k : Int) : Option Addr := if k ∈ D then some ⟨P k, 0, none⟩ else none
theorem X0 (D : List Int) (P : Int → Nat) (k : Int) : (TT D P k).getD (.pointer none) = .pointer (MR D P k) := by unfold TT MR; split <;> rfl
theorem Ub {D : List Int} {P : Int → Nat} {k : Int} (h : k ∈ D) : MR D P k = some ⟨P k, 0, none⟩ := if_pos h
theorem Y8 {D : List Int} {P : Int → Nat} {k : Int} (h : (MR D P k).isNone = false) : k ∈ D := by
  unfold MR at h
  split at h
  · assumption
  · cases h
theorem Y9 {D : List Int} {P : Int → Nat} {k : Int} (h : (MR D P k).isNone = true) : k ∉ D := by
  unfold MR at h
  split at h
  · cases h
  · assumption
theorem Ih {s : bF} (h : ¬ s.yJ = 0) : s.inn = false ∧ s.yJ = 1 := by
  unfold bF.yJ at *
  cases hi : s.inn <;> simp_all
theorem EC {s : bF} (h : s.yJ = 0) : s.inn = true := by
  unfold bF.yJ at h
  cases hi : s.inn <;> simp_all
theorem V.aij {w0 w : World} {A B C F : HP} (H : V w0 w (A • B • C • F)) : V w0 w (A • (B • C) • F) := H.of_eq (by rw [dH])
section
variable {w0 w : World} {F : HP} {e p : Nat} {s : bF}
theorem tJ (H : V w0 w (eH e s • F)) : iQ prog 65 #[.pointer (some ⟨e, 0, none⟩)] w fun v w' => v = .bool false ∧ w = w' := by
 refine ji func65 ntmps65 ?_
 refine ku O (aI ?_)
 obtain ⟨zB, zC, zD, zF, zG, zH, zI, zJ, xM, wu, wz, wB, wC, wE, wF, wG, wH, wI, wJ, wK, iZ, dL, lU, jo⟩ := (H).JV
 refine aB (bJ O (aQ (iJ dU O O) (jm O (fun h1 => ?_) (fun h1 => ?_))))
 ·(try simp only [Z] at h1)
  exfalso; first | contradiction | omega
 ·(try simp only [Z] at h1)
  refine aY (bJ O (aY (dK O (aY (bI 11 aj O sizeOf78 O (aY (fC lM O (jo).get.2 O (aY (aQ (iJ lM O O) (fG O O (fA O (dI results65 O ?_))))))))))))
  exact ⟨O, O⟩
theorem ru (H : V w0 w (eH e s • F)) : iQ prog 81 #[.pointer (some ⟨e, 0, none⟩)] w fun v w' => v = .int .i64 s.yJ ∧ w = w' := by
 unfold bF.yJ
 refine ji func81 ntmps81 ?_
 refine ku O (aI (bf (bM O (dS O func65 (tJ H) ?_))))
 rintro _ _ ⟨rfl, rfl⟩
 refine dZ O (oh (aI ?_))
 obtain ⟨zB, zC, zD, zF, zG, zH, zI, zJ, xM, wu, wz, wB, wC, wE, wF, wG, wH, wI, wJ, wK, iZ, dL, lU, jo⟩ := (H).JV
 refine aB (oq O O (bI 16 aj O aS O (fC cZ O (jo).get.2 O (aQ (kG O) (dZ O (aZ O (fun h1 => ?_) (fun h1 => ?_)))))))
 ·(try simp only [Z] at h1)
  refine kC O (aU (aA (dI results81 O ?_)))
  exact ⟨by simp [*], O⟩
 ·(try simp only [Z] at h1)
  refine dh (aH (aX (kC O (dI results81 O ?_))))
  exact ⟨by simp [*], O⟩
theorem ED {x0 x1 x4 x5 x6 x7 x8 x9 x10 x11 x12 y7 x14 x15 x16 x17 x18 x19 x20 x21 zV x23 x24 x25 Ak x27 x28 x29 x30 x31 x32 Bh : Value} {pw pt pm : Nat} {k : Int} {U : Int → List (List jl)} (H : V w0 w (eP e (.cells (x0 :: x1 :: .pointer (some ⟨pw, 0, none⟩) :: .map (some pm) :: x4 :: x5 :: x6 :: x7 :: x8 :: x9 :: x10 :: x11 :: x12 :: y7 :: x14 :: x15 :: x16 :: x17 :: x18 :: x19 :: x20 :: x21 :: zV :: x23 :: x24 :: x25 :: Ak :: x27 :: x28 :: x29 :: x30 :: x31 :: x32 :: Bh :: []).toArray 82 (0, 0)) • eP pw (.cells #[.int .i64 k, .map (some pt)] 122 (0, 0)) • zy pm U • F)) : iQ prog 134 #[.pointer (some ⟨e, 0, none⟩)] w fun v w' => ∃ p, v = .pointer (some ⟨p, 0, none⟩) ∧
  V w0 w' (jP p (U k) [] 0 • PS pm U k p • eP e (.cells (x0 :: x1 :: .pointer (some ⟨pw, 0, none⟩) :: .map (some pm) :: x4 :: x5 :: x6 :: x7 :: x8 :: x9 :: x10 :: x11 :: x12 :: y7 :: x14 :: x15 :: x16 :: x17 :: x18 :: x19 :: x20 :: x21 :: zV :: x23 :: x24 :: x25 :: Ak :: x27 :: x28 :: x29 :: x30 :: x31 :: x32 :: Bh :: []).toArray 82 (0, 0)) • eP pw (.cells #[.int .i64 k, .map (some pt)] 122 (0, 0)) • F) := by
 refine ji func134 ntmps134 ?_
 refine ku O (aI ?_)
 obtain ⟨D, P, hD1, hD2, HU⟩ := (H.f3).ac0
 have Jk := HU.drew
 have jU := V.kp (Jk.f4.f4.f4.f4)
 refine uN [4, 9, 12, 13] jU O (gX 0 O jU O (jE 1 O jU O (gy 2 O jU 0 aj O aV O (gy 3 O jU 3 aK O sizeOf75 O (jf 4 O jU (fun W hW => jv ny O ((Kp.h hW).f3).get.2 O) (gX 5 O jU O (jE 6 O jU O (gy 7 O jU 0 aj O aV O (gy 8 O jU 2 aK O sizeOf74 O (jf 9 O jU (fun W hW => jv ni O ((Kp.h hW).f3).get.2 O) (jE 10 O jU O (gy 11 O jU 0 iG O ay O (jf 12 O jU (fun W hW => jv aC O ((Kp.h hW).f4).get.2 O) (jf 13 O jU (fun W hW => Om (TN ((Kp.h hW)) ny aC zeroValue184 O O) (X0 D P k)) (iI 14 O jU (fun _ => dB O) (pq (aX (aI (bM O (aQ (iJ underlying184 O O) (jr O (fun h1 => ?_) (fun h1 => ?_))))))))))))))))))))))
 ·(try simp only [Z] at h1)
  have hnm := Y9 h1
  refine iy (dS O func174 (QO Jk) ?_)
  rintro _ w1 ⟨p1, rfl, H1⟩
  refine dZ O ?_
  have agO := H1.drew
  have Az := V.kp (agO.f5.f5.f5.f5.f5)
  refine uN [4, 9, 12] Az O (gX 0 O Az O (jE 1 O Az O (gy 2 O Az 0 aj O aV O (gy 3 O Az 3 aK O sizeOf75 O (jf 4 O Az (fun W hW => jv ny O ((Kp.h hW).f4).get.2 O) (gX 5 O Az O (jE 6 O Az O (gy 7 O Az 0 aj O aV O (gy 8 O Az 2 aK O sizeOf74 O (jf 9 O Az (fun W hW => jv ni O ((Kp.h hW).f4).get.2 O) (jE 10 O Az O (gy 11 O Az 0 iG O ay O (jf 12 O Az (fun W hW => jv aC O ((Kp.h hW).f5).get.2 O) (gX 13 O Az O ?_))))))))))))))
  refine iH 14 O (by kernel_rfl) (yK agO.f2 ny aC O O O) ?_
  rintro _ w2 H2
  have zx := V.kp (H2.f5.f5.f5.f5.f5)
  refine iK zx (by kernel_rfl) ?_
  refine pq (aX (bM O (fA O (dI results134 O ?_))))
  have hu1 : JU (xk P k p1) U (D ++ [k]) = (JU P U D • jP p1 [] [] 0) := by
   rw [MO, iL, hD2 _ hnm, Fe (P' := P) (U' := U) fun x hx => ⟨xq _ _ (by rintro rfl; exact hnm hx), rfl⟩]
  have HM := V.aij H2.f5.f5.f4.f5.f5
  rw [← hu1, ← TY hnm] at HM
  have HZ := V.aed (k := k) (MQ hD1 hnm) (fun k hk => hD2 k fun hm => hk (by simp [hm])) (by simp) HM
  rw [iL] at HZ
  exact ⟨_, O, HZ⟩
 ·(try simp only [Z] at h1)
  have hmem := Y8 h1
  rw [Ub hmem]
  refine fV (bM O (fA O (dI results134 O ?_)))
  exact ⟨_, O, V.aed hD1 hD2 hmem Jk.f4.f4.f4.f4⟩
theorem V.Rf {b p : Nat} {k : Int} {U : Int → List (List jl)} (H : V w0 w (PS b U k p • jP p (U k) [] 0 • F)) : V w0 w (zy b U • F) := by
  have := H.CG
  rwa [acX] at this
end
end Go.Proofs.YtpdeedplgmbopaaGreatDoor
end
section
namespace Go.Proofs.YtpdeedplgmbopaaGreatDoor
open Go.RowKit Go.Lib
section
variable {P : Program} {L : List (Nat × Value)} {w0 w : World} {F : HP} {ty : TypeId} {b : Nat} {v d : Int} {t : TypeId}
theorem aaV {T : Value → World → Prop} {f : FuncId} {args : List Operand} {ts : Array TypeId} {vs : List Value} {fn : Func} {e : Array Value → Sem Value} {v : Value} {w' : World} (ha : FV L args = some vs)
    (hf : P.funcs[f]? = some fn) (hname : (fn.name == "runtime.NumGoroutine") = false) (hb : fn.body.isNone = true) (hn : Extern.findNext fn = none) (he : Extern.find fn = some e) (hr : (e vs.toArray).run P w = .ok v w') (ht : T v w') :
    xU P L (.call ⟨.value (.func f), args.toArray, ts⟩) ty w T := vJ (v := v) (w' := w') (fun ρ hρ _ _ _ _ => by
  have hg : ρ (.func f) = .func (.func f) #[] #[] := hρ _ _ rfl
  have hc := run_callFunc_extern hf hname hb hn he vs.toArray w
  rw [hr] at hc
  simp [execOp, resolve, invoke, evs hρ _ _ ha, hg, Deferred.ofValue]
  exact hc) ht
theorem Wq (hc : w.cell? ⟨b, 0, none⟩ = some (.int .i64 v)) : (Extern.Atomic.loadT (.int .i64) #[.pointer (some ⟨b, 0, none⟩)]).run P w = .ok (.int .i64 v) w := by
  change Sem.run P (do Extern.Atomic.read (.int .i64) (← asAddr (.pointer (some ⟨b, 0, none⟩)))) w = _
  simp [Extern.Atomic.read, asAddr, hc, Result.andThen]
theorem ac1 {f : FuncId} {args : List Operand} {ts : Array TypeId} {fn : Func} (H : V w0 w (eP b (.cells #[.int .i64 v] t (0, 0)) • F)) (ha : FV L args = some [.pointer (some ⟨b, 0, none⟩), .int .i64 d])
    (hf : P.funcs[f]? = some fn) (hname : (fn.name == "runtime.NumGoroutine") = false) (hb : fn.body.isNone = true) (hn : Extern.findNext fn = none) (he : Extern.find fn = some (Extern.Atomic.update (Op.intArith .add) .i64 true)) :
    xU P L (.call ⟨.value (.func f), args.toArray, ts⟩) ty w fun u w' => u = .int .i64 (IntKind.i64.wrap (v + d)) ∧ V w0 w' (eP b (.cells #[.int .i64 (IntKind.i64.wrap (v + d))] t (0, 0)) • F) :=
  aaV ha hf hname hb hn he (Conc.run_add_entry (kS H.get.2 rfl) (D7 H.get.2)) ⟨rfl, H.setCell (i := 0) _⟩
theorem aaW {f : FuncId} {args : List Operand} {ts : Array TypeId} {fn : Func} (H : V w0 w (eP b (.cells #[.int .i64 v] t (0, 0)) • F)) (ha : FV L args = some [.pointer (some ⟨b, 0, none⟩)])
    (hf : P.funcs[f]? = some fn) (hname : (fn.name == "runtime.NumGoroutine") = false) (hb : fn.body.isNone = true) (hn : Extern.findNext fn = none) (he : Extern.find fn = some (Extern.Atomic.loadT (.int .i64))) :
    xU P L (.call ⟨.value (.func f), args.toArray, ts⟩) ty w fun u w' => u = .int .i64 v ∧ w = w' :=
  aaV ha hf hname hb hn he (Wq (kS H.get.2 rfl)) ⟨rfl, rfl⟩
theorem Ii (H : V w0 w (eP b (.cells #[.int .i64 v] t (0, 0)) • F)) : iQ Tryz.prog 83 #[.pointer (some ⟨b, 0, none⟩), .int .i64 d] w fun u w' => u = .int .i64 (IntKind.i64.wrap (v + d)) ∧ V w0 w' (eP b (.cells #[.int .i64 (IntKind.i64.wrap (v + d))] t (0, 0)) • F) := by
  refine qc Tryz.func83 Tryz.ntmps83 ?_
  refine ku O (bM O (dK O (bI 0 Tryz.underlying161 O Tryz.sizeOf2 O (bJ O (kF (ac1 H O Tryz.func133 O O (by kernel_rfl) (by kernel_rfl)) ?_)))))
  rintro _ w1 ⟨rfl, H1⟩
  refine fA O (dI Tryz.results83 O ?_)
  exact ⟨O, H1⟩
theorem qE (H : V w0 w (eP b (.cells #[.int .i64 v] t (0, 0)) • F)) : iQ Tryz.prog 68 #[.pointer (some ⟨b, 0, none⟩)] w fun u w' => u = .int .i64 v ∧ w = w' := by
  refine ji Tryz.func68 Tryz.ntmps68 ?_
  refine ku O (bM O (dK O (bI 0 Tryz.underlying161 O Tryz.sizeOf2 O (kF (aaW H O Tryz.func121 O O (by kernel_rfl) (by kernel_rfl)) ?_))))
  rintro _ _ ⟨rfl, rfl⟩
  refine fA O (dI Tryz.results68 O ?_)
  exact ⟨O, O⟩
end
end Go.Proofs.YtpdeedplgmbopaaGreatDoor
end
