import Derived.Test.YtnhhmieghbfalaaGreatZ4
import Derived.Test.YtnhhmieghbfalaaGreatZ8
import Derived.Lib.OthersKept
import Derived.Lib.Bytealg
import Derived.Conc.AtomicLaws2
set_option linter.unusedSimpArgs false
set_option linter.unusedVariables false
/- Texts of mine, joined, their names in short: UGroups Ed EdTwin EdA Atom. -/
section
namespace Go.Proofs.YtnhhmieghbfalaaGreat
open Go.RowKit
open _root_.Go.Proofs.Tryz
def ED (c : Nat) (G : List (List iO)) (N : List iO) (k : Nat) : HP := wF fun (x : Value × List (Value × List fB)) => fact (x.2.map (fun g => g.2.map fB.says) = PN N ++ G.reverse.take k) • eF c (.cells #[x.1] 149 (0, 0)) • EY x.1 x.2
theorem rev_succ {G : List (List iO)} {k : Nat} (hk : k < G.length) : G.reverse.take (k + 1) = G.reverse.take k ++ [G.getD (G.length - (k + 1)) []] := by
  rw [List.take_succ_eq_append_getElem (by simpa using hk)]
  congr 1
  rw [List.getElem_reverse, List.getD_eq_getElem?_getD, List.getElem?_eq_getElem (by omega)]
  have e : G.length - 1 - k = G.length - (k + 1) := by omega
  simp only [Option.getD_some, e]
section
variable {w0 w : World} {F : HP} {p c k : Nat} {G : List (List iO)} {N : List iO} {op : Int} {v u : Value} {es fs : List fB} {gs hs : List (Value × List fB)}
theorem V.Rq (H : V w0 w (ED c G N k • F)) : ∃ u hs, hs.map (fun g => g.2.map fB.says) = PN N ++ G.reverse.take k ∧ hs.length ≤ G.length + 1 ∧ V w0 w (eF c (.cells #[u] 149 (0, 0)) • Row 69 1 u hs.length (hs.map (·.1)) • qL hs • F) := by
  obtain ⟨⟨u, hs⟩, H⟩ := H.oN
  obtain ⟨h, H⟩ := H.flat.fact
  refine ⟨u, hs, h, ?_, (H.flat.swap.aan).f3⟩
  have := congrArg List.length h
  have := Yg N
  simp only [List.length_map, List.length_append, List.length_take, List.length_reverse] at *
  omega
theorem V.La (h : hs.map (fun g => g.2.map fB.says) = PN N ++ G.reverse.take k) (H : V w0 w (eF c (.cells #[u] 149 (0, 0)) • EY u hs • F)) : V w0 w (ED c G N k • F) :=
  V.ji (u, hs) (V.deep (V.oG h H.deep))
theorem Wv (H : V w0 w F) (hv : v.oneCell' = true) : iQ prog 125 #[v] w fun v' w' => ∃ b, v' = .func (.func 134) #[] #[.pointer (some ⟨b, 0, none⟩)] ∧ V w0 w' (eF b (.cells #[v] 149 (0, 0)) • F) := by
  refine jH func125 ntmps125 ?_
  refine lQ (jW (kC (l := [_]) H O (by first | rfl | exact He (by first | rfl | assumption))) ?_)
  rintro _ w1 ⟨b1, rfl, H1⟩
  refine jZ O (lQ (aZ (EN O O) (jP O (gy results125 O ?_))))
  exact ⟨_, O, H1⟩
theorem Us (b : Nat) : Iter prog w0 (.func (.func 134) #[] #[.pointer (some ⟨b, 0, none⟩)]) (eF b (.cells #[v] 149 (0, 0)) • Row 69 1 v gs.length (gs.map (·.1)) • qL gs) gs.length
  (fun k vs A => ∃ gl xQ, gs.getD (gs.length - (k + 1)) default = (gl, xQ) ∧ vs = [.int .i64 ((gs.length - (k + 1) : Nat) : Int), gl] ∧ A = Ey gl xQ) := by
 intro l J X w hy H
 refine ⟨134, [], [.pointer (some ⟨b, 0, none⟩)], _, _, O, func134, O, O, ?_⟩
 have H1 : V w0 w (eF b (.cells #[v] 149 (0, 0)) • Row 69 1 v gs.length (gs.map (·.1)) • qL gs • J 0) := H.of_eq (by ac_rfl)
 obtain ⟨a, c, hv, hc1, hc2, _⟩ := (H1.swap.aG).form
 subst hv
 simp only [List.nil_append, List.cons_append]
 refine xqR func134 ntmps134 ?_
 dsimp only [CW, Nat.reduceAdd]
 refine lQ (dL bJ O (H1).get.2 O (aZ (fA ((H1.f2).aG) bJ O) (aZ (lJ O O (by omega)) (jZ O (bI ?_)))))
 refine iC [(0, _), (1, _)] (fun (k : Nat) => [(3, .int .i64 ((k : Int) - 1))]) (fun (k : Nat) W => k ≤ gs.length ∧ V w0 W (eF b (.cells #[.slice a gs.length c] 149 (0, 0)) • Row 69 1 (.slice a gs.length c) gs.length (gs.map (·.1)) • qL gs • J (gs.length - k))) (fun (k : Nat) => k) (gs.length) uj pY ⟨by omega, by rw [Nat.sub_self]; exact H1⟩ ?_
 rintro k w1 ⟨hk, HL⟩
 dsimp only [List.cons_append, List.nil_append]
 refine aO (bY O (aZ (Cc O O) (kE O (fun h1 => ?_) (fun h1 => ?_))))
 ·(try simp only [aK] at h1)
  refine gX (aO (bI (aO ?_)))
  obtain ⟨m, rfl⟩ : ∃ m, k = m + 1 := ⟨k - 1, by omega⟩
  rw [show (((m + 1 : Nat) : Int) - 1) = (m : Int) from by omega]
  have hkl : m < gs.length := by omega
  refine aB (jw O O (dL bJ O (HL).get.2 O (dn O ?_)))
  obtain ⟨bv, ov, cv, ev⟩ := Rd.qP ((HL.f2).aG) (by omega)
  cases ev
  refine aZ (eG bJ bn O O (by omega)) ?_
  refine aZ (jk (eH aQ O) O (by first | exact Rd.wG ((HL.f2).aG) (by omega) | exact Rd.Hf ((HL.f2).aG) (by omega) | exact Rd.GX ((HL.f2).aG) (by omega))) ?_
  rw [show (gs.map (·.1)).getD m undef = (gs.getD m default).1 from by simp [List.getD_eq_getElem?_getD, hkl]]
  obtain ⟨gl, xQ, hg⟩ : ∃ gl xQ, gs.getD m default = (gl, xQ) := ⟨_, _, rfl⟩
  rw [hg]
  have Ho2 := HL.f3
  have Hc3 := Ho2.F6 hkl hg
  refine jW (PD O O (hy (gs.length - (m + 1)) (by omega) _ _ ⟨gl, xQ, by rw [show gs.length - (gs.length - (m + 1) + 1) = m from by omega]; exact hg, by rw [show gs.length - (gs.length - (m + 1) + 1) = m from by omega], O⟩ (qL gs • Row 69 1 (.slice (some ⟨bv, ov, none⟩) gs.length c) gs.length (gs.map (·.1)) • eF b (.cells #[.slice (some ⟨bv, ov, none⟩) gs.length c] 149 (0, 0))) _ (Hc3.of_eq (by ac_rfl))).bool) ?_
  rintro _ w4 ⟨t, rfl, ht1, ht2⟩
  refine aZ (kY O) (kE O (fun h2 => ?_) (fun h2 => ?_))
  ·(try simp only [aK] at h2)
   have HX := ht2 (by simpa using h2)
   refine oP (dO (aV (aV (dO (we0 results134 ?_)))))
   exact .inr (HX.of_eq (by ac_rfl))
  ·(try simp only [aK] at h2)
   have HN : V w0 w4 (eF b (.cells #[.slice (some ⟨bv, ov, none⟩) gs.length c] 149 (0, 0)) • Row 69 1 (.slice (some ⟨bv, ov, none⟩) gs.length c) gs.length (gs.map (·.1)) • qL gs • J (gs.length - m)) := by
    have h9 := ht1 (by simpa using h2)
    rw [show gs.length - (m + 1) + 1 = gs.length - m from by omega] at h9
    exact h9.of_eq (by ac_rfl)
   refine fV (aX (bC (aB (dn O (aZ (lJ O O (by omega)) (oD O (cO ?_)))))))
   refine eX (m) ?_ ?_ ?_ ?_
   ·exact pY
   ·exact uj
   ·(try dsimp only)
    first | done | exact ⟨by omega, HN.f3.f3.f3⟩
   ·(try dsimp only); omega
 ·(try simp only [aK] at h1)
  refine gY (aY (aY (dw (kG (.inr O) results134 ?_))))
  obtain rfl : k = 0 := by omega
  rw [Nat.sub_zero] at HL
  exact .inl (HL.of_eq (by ac_rfl))
theorem Js (H : V w0 w (jB p G N op • F)) : iQ prog 89 #[.pointer (some ⟨p, 0, none⟩)] w fun v w' => ∃ c, v = .func (.func 126) #[] #[.pointer (some ⟨c, 0, none⟩)] ∧ V w0 w' (ED c G N G.length • jB p G N op • F) := by
 refine jH func89 ntmps89 ?_
 refine kW O (lQ (jW (gq (l := [_]) H zeroValue149 O) ?_))
 rintro _ w1 ⟨b1, rfl, H1⟩
 refine qJ (bY O (fO O func115 (nR H1.f2) ?_))
 rintro _ _ ⟨rfl, rfl⟩
 refine aZ (kY O) ?_
 obtain ⟨CP, Ai, qE, pK, nY, wV, uV, HY, Ia, Nh, rZ⟩ := (H1.f2).y5
 have hLn : pK.length ≤ 16384 := by omega
 have hBn := Rf uV nY.2.2.2.2.2
 refine iF (wcE O (fun h1 => ?_))
 (try simp only [aK] at h1)
 refine vP [(0, _), (3, _)] (fun (_ : Unit) => []) (fun (_ : Unit) W => V w0 W (ED b1 G N 0 • eF p (.cells #[CP, Ai, .int .i64 op, .int .i64 (fQ G N : Nat), .bool true] 173 (0, 0)) • Row 69 1 CP qE.length (qE.map (·.1)) • qL qE • Row 130 3 Ai pK.length (pK.flatMap fB.enc) • nP pK • F)) uj ?_ ?_
 ·rintro _ w4 HJ
  dsimp only [List.cons_append, List.nil_append]
  refine bY O (dA O (Z 0 bT O dN O (Z 0 bW O gQ O (dL bJ O (HJ.f2).get.2 O (fO O func125 (Wv HJ (Rd.one ((HJ.f3).aG))) ?_)))))
  rintro _ w5 ⟨bB5, rfl, H5⟩
  refine iF (bI ?_)
  obtain ⟨R6, hR6, HR6⟩ := V.acX (H5.f5.f5.f3.f4)
  refine BJ O (Us bB5) (fun k => ED b1 G N k • R6) (fact False) (fun _ => fact False) (HR6.f4.f4.f4.f4.f4.f4.f4.g3.comm) (by rfl) ?_ ?_ ?_ ?_
  ·rintro l7 k abJ vs7 A7 ⟨gl, xQ, hg, rfl, rfl⟩ G7 w7 H7
   try simp only [dI, qM, yc] at H7
   refine ⟨O, ?_⟩
   dsimp only [Ui]
   obtain ⟨u, hs, Yf, hhl, HI⟩ := (H7.f2).Rq
   have hge : xQ.map fB.says = G.getD (G.length - (k + 1)) [] := by
    rw [← HY, ← wV]
    have h9 : (qE.map (fun g => g.2.map fB.says)).getD (qE.length - (k + 1)) [] = (qE.getD (qE.length - (k + 1)) default).2.map fB.says := by simp [List.getD_eq_getElem?_getD, show qE.length - (k + 1) < qE.length by omega]
    rw [h9, hg]
   have hgm : G.getD (G.length - (k + 1)) [] ∈ G := wS (by omega)
   have hBg := Rf hge (nY.2.2.2.2.1 _ hgm)
   have hLg : xQ.length ≤ 16384 := by
    have h8 := nY.2.1
    unfold fQ at h8
    have h7 := congrArg List.length hge
    rw [List.length_map] at h7
    have h6 := JM hgm
    omega
   refine aB (oD O (cO ?_))
   refine Uh (HI.g5) ?_
   intro G8 w8 H8
   try simp only [dI] at H8
   refine bI ?_
   have adt := H8.drew
   have Yj := V.kp (adt.f4.f4.f4.f4)
   refine wL [0] Yj O (iY 0 O Yj (fun W hW => jQ bJ O ((Kp.h hW)).get.2 O) (gK 1 O Yj O (lU 2 O (xB O func116 (Aj adt.f4 hBg hLg)) ?_)))
   rintro u9 w9 ⟨fs9, aeH, H9⟩
   obtain ⟨es2, rfl⟩ : ∃ q, q = fs9 := ⟨_, rfl⟩
   have hes2 := aeH
   have Em := V.kp (H9.f6.f6.f6.f6.f6.f6)
   refine dV Em (fun W hW => (Kp.h hW).right.right.f4.f4.f4) ?_
   refine lU 3 O (jc (vs := [_]) H9 bJ bn oV O O O (by decide) (aW (by first | rfl | exact Rd.one ((H9).aG)) bG)) ?_
   rintro l10 w10 rD
   have CB := V.kp (rD.f7.f7.f7.f7.f7.f7.f7)
   refine dV CB (fun W hW => (Kp.h hW).right.f6.f6.f6.f6.f6.f6) ?_
   refine lU 4 O (dQ rD.f6 bJ IJ O O O ((rD).aG) (aW (by first | rfl | exact Rd.one ((rD.f2).aG)) bG) (by omega) (by omega)) ?_
   rintro l11 Hr rX
   have Jq := rX.f2.right
   have Dl := V.kp (Jq.f6.f6.f6.f6.f6.f6)
   refine fG Dl (by kernel_rfl) ?_
   refine gJ 5 O (by kernel_rfl) (dX 0 (l' := [_]) Jq.f5 gQ O O (by first | rfl | exact Rd.one ((Jq).aG)) O O) ?_
   rintro _ TB AB
   have zU := V.kp (AB.f6.f6.f6.f6.f6.f6)
   refine fG zU (by kernel_rfl) ?_
   refine qN (aX ?_)
   refine KL ?_
   have X := V.sK (es := es2) (AB.f5.right.f5.f3.f5.f5).deep
   exact (V.La (hs := hs ++ [(u9, es2)]) (by rw [List.map_append, Yf, rev_succ (by omega), ← hge, ← hes2, List.append_assoc]; rfl) (V.uN X.swap).swap).deep
  ·rintro D14 Qu AL
   have QT := AL.ed
   try simp only [dI, qM, yc] at QT
   have abK := QT.U2
   subst hR6
   refine aX (bC (lQ (aZ (EN O O) (jP O ?_))))
   refine JA (.inl O) (abK) (fun TD Bz => ?_)
   refine ⟨_, aby results89 O, ?_⟩
   have hgl : ED b1 G N qE.length = ED b1 G N G.length := by rw [HY]
   rw [hgl] at Bz
   have Ut := Bz.f7.f7.f5.f5.f7
   have Yk := V.qj nY wV uV rfl Ut
   exact ⟨_, O, Yk.f2.right.f2⟩
  ·rintro D w H; exact absurd H.swap.fact.1 id
  ·rintro id D w H; exact absurd H.swap.fact.1 fun h => h
 ·skip
  refine bY O (dA O (Z 0 bT O dN O (Z 1 bW O bn O (dL aQ O (rZ).get.2 O (aZ (fA ((rZ.f4).aG) aQ O) (aZ (gG O O) (kE O (fun h2 => ?_) (fun h2 => ?_))))))))
  ·(try simp only [aK] at h2)
   have hN : PN N = [N] := if_neg (by rintro rfl; exact absurd Ia (by simp only [List.length_nil]; omega))
   have abb := rZ.drew
   have E8 := V.kp (abb.f6.f6.f6.f6.f6.f6)
   refine wL [0, 5] E8 O (iY 0 O E8 (fun W hW => jQ bJ O ((Kp.h hW).f6).get.2 O) (gK 1 O E8 O (jL 2 O E8 O (fH 3 O E8 0 bT O dN O (fH 4 O E8 1 bW O bn O (iY 5 O E8 (fun W hW => jQ aQ O ((Kp.h hW)).get.2 O) (lU 6 O (xB O func116 (Dq abb.f5.f5 hBn hLn)) ?_)))))))
   rintro u19 Xw ⟨aeI, adu, zN⟩
   obtain ⟨es1, rfl⟩ : ∃ q, q = aeI := ⟨_, rfl⟩
   have hes1 := adu
   have Lc := V.kp (zN.f8.f8.f8.f8.f8.f8.f8.f8)
   refine dV Lc (fun W hW => (Kp.h hW).right.right.f6.f3.f3.f6.f6.f6) ?_
   refine lU 7 O (jc (vs := [_]) zN bJ bn oV O O O (by decide) (aW (by first | rfl | exact Rd.one ((zN).aG)) bG)) ?_
   rintro l20 XM Ci
   have Dx := V.kp (Ci.f9.f9.f9.f9.f9.f9.f9.f9.f9)
   refine dV Dx (fun W hW => (Kp.h hW).right.f8.f8.f8.f8.f8.f8.f8.f8) ?_
   refine lU 8 O (dQ (Ci.gV none) bJ IJ O O O ((Ci).aG) (aW (by first | rfl | exact Rd.one ((Ci.f2).aG)) bG) (by omega) (by omega)) ?_
   rintro l21 Xx tK
   have Ld := tK.f2.right
   have Gf := V.kp (Ld.f9.f9.f9.f9.f9.f9.f9.f9.f9)
   refine fG Gf (by kernel_rfl) ?_
   refine gJ 9 O (by kernel_rfl) (dX 0 (l' := [_]) Ld.f9 gQ O O (by first | rfl | exact Rd.one ((Ld).aG)) O O) ?_
   rintro _ ZR BA
   have CG := V.kp (BA.f9.f9.f9.f9.f9.f9.f9.f9.f9)
   refine fG CG (by kernel_rfl) ?_
   have X := V.sK (es := es1) (BA.f6.f6.f9.f9.f9.f6.f7.f9.f9).deep
   have hJn : V w0 ZR (ED b1 G N 0 • eF p (.cells #[CP, Ai, .int .i64 op, .int .i64 (fQ G N : Nat), .bool true] 173 (0, 0)) • Row 69 1 CP qE.length (qE.map (·.1)) • qL qE • Row 130 3 Ai pK.length (pK.flatMap fB.enc) • nP pK • F) :=
    V.La (hs := [(u19, es1)]) (by rw [hN, ← uV, ← hes1]; rfl) (V.uN (gs := []) X.KF.f3.f3.f2).swap
   refine qN ?_
   refine gZ (()) ?_ ?_ ?_
   ·exact (Sub.nil _)
   ·exact uj
   ·(try dsimp only)
    first | done | exact hJn
  ·(try simp only [aK] at h2)
   have hN : PN N = [] := if_pos (by rw [← uV, List.eq_nil_of_length_eq_zero (show pK.length = 0 by omega)]; rfl)
   have hJn : V w0 w1 (ED b1 G N 0 • eF p (.cells #[CP, Ai, .int .i64 op, .int .i64 (fQ G N : Nat), .bool true] 173 (0, 0)) • Row 69 1 CP qE.length (qE.map (·.1)) • qL qE • Row 130 3 Ai pK.length (pK.flatMap fB.enc) • nP pK • F) :=
    V.La (hs := []) (by rw [hN]; rfl) ((rZ.f5.f5.f5.f5.f5.f6).FW none).swap
   refine fV ?_
   refine gZ (()) ?_ ?_ ?_
   ·exact (Sub.nil _)
   ·exact uj
   ·(try dsimp only)
    first | done | exact hJn
theorem Rt (c : Nat) (hB : ∀ g ∈ E5 G N, ∀ e ∈ g, EB e) (hL : ∀ g ∈ E5 G N, g.length ≤ 16384) : Iter prog w0 (.func (.func 126) #[] #[.pointer (some ⟨c, 0, none⟩)]) (ED c G N G.length) (E5 G N).length
  (fun k vs A => ∃ u, ∃ fs : List fB, fs.map fB.says = (E5 G N).getD k [] ∧ vs = [u] ∧ A = JI u fs) := by
 intro l J X w hy H
 refine ⟨126, [], [.pointer (some ⟨c, 0, none⟩)], _, _, O, func126, O, O, ?_⟩
 obtain ⟨v, hs, Yf, hhl, H1⟩ := H.comm.Rq
 have adv := Yf
 rw [List.take_of_length_le (by simp), ← aaq] at Yf
 have hlen : hs.length = (E5 G N).length := by have := congrArg List.length Yf; simpa using this
 obtain ⟨a, d, hv, hc1, hc2, _⟩ := (H1.swap.aG).form
 subst hv
 simp only [List.nil_append, List.cons_append]
 refine xqR func126 ntmps126 ?_
 dsimp only [CW, Nat.reduceAdd]
 refine lQ (dL bJ O (H1).get.2 O (aZ (fA ((H1.f2).aG) bJ O) (dn O (iF (bI ?_)))))
 refine iC [(0, _), (5, _), (6, _)] (fun (k : Nat) => [(7, .int .i64 (k : Int))]) (fun (k : Nat) W => k ≤ hs.length ∧ V w0 W (eF c (.cells #[.slice a hs.length d] 149 (0, 0)) • Row 69 1 (.slice a hs.length d) hs.length (hs.map (·.1)) • qL hs • J k)) (fun (k : Nat) => hs.length - k) (0) AA pY ⟨by omega, H1⟩ ?_
 rintro k w1 ⟨hk, HL⟩
 dsimp only [List.cons_append, List.nil_append]
 refine lQ (aZ (iE O O) (qJ (eP O (fun h1 => ?_) (fun h1 => ?_))))
 ·(try simp only [aK] at h1)
  refine gX (aO (bI (lQ ?_)))
  obtain ⟨bv, ov, cv, ev⟩ := Rd.qP ((HL.f2).aG) (by omega)
  cases ev
  refine aZ (eG bJ bn O O (by omega)) ?_
  refine aZ (jk (eH aQ O) O (by first | exact Rd.wG ((HL.f2).aG) (by omega) | exact Rd.Hf ((HL.f2).aG) (by omega) | exact Rd.GX ((HL.f2).aG) (by omega))) ?_
  have hkl : k < hs.length := by omega
  rw [show (hs.map (·.1)).getD k undef = (hs.getD k default).1 from by simp [List.getD_eq_getElem?_getD, hkl]]
  obtain ⟨gl, xQ, hg⟩ : ∃ gl xQ, hs.getD k default = (gl, xQ) := ⟨_, _, rfl⟩
  rw [hg]
  have Ho2 := HL.f3
  have Hc3 := Ho2.F6 hkl hg
  have hge : xQ.map fB.says = (E5 G N).getD k [] := by
   rw [← Yf]
   have h9 : (hs.map (fun g => g.2.map fB.says)).getD k [] = (hs.getD k default).2.map fB.says := by simp [List.getD_eq_getElem?_getD, hkl]
   rw [h9, hg]
  have hgm : (E5 G N).getD k [] ∈ E5 G N := wS (by omega)
  have hBg := Rf hge (hB _ hgm)
  have hLg : xQ.length ≤ 16384 := by
   have h7 := congrArg List.length hge
   rw [List.length_map] at h7
   have := hL _ hgm
   omega
  refine jZ O (bY O (dn O (fO O func116 (Aj Hc3 hBg hLg) ?_)))
  rintro u4 w4 ⟨fs4, aeJ, H4⟩
  obtain ⟨es2, rfl⟩ : ∃ q, q = fs4 := ⟨_, rfl⟩
  have hes2 := aeJ
  have Hd5 := H4.f3.right
  refine jW (PD O O (hy k (by omega) _ _ ⟨_, es2, hes2.trans hge, O, O⟩ (qL hs • Row 69 1 (.slice (some ⟨bv, ov, none⟩) hs.length d) hs.length (hs.map (·.1)) • eF c (.cells #[.slice (some ⟨bv, ov, none⟩) hs.length d] 149 (0, 0))) _ (Hd5.of_eq (by unfold JI; ac_rfl))).bool) ?_
  rintro _ w6 ⟨t, rfl, ht1, ht2⟩
  refine aZ (kY O) (kE O (fun h2 => ?_) (fun h2 => ?_))
  ·(try simp only [aK] at h2)
   have HX := ht2 (by simpa using h2)
   refine oP (dO (aV (aV (dO (we0 results126 ?_)))))
   exact .inr (V.comm (V.La (u := .slice (some ⟨bv, ov, none⟩) hs.length d) adv (HX.of_eq (by unfold EY; ac_rfl))))
  ·(try simp only [aK] at h2)
   have HN : V w0 w6 (eF c (.cells #[.slice (some ⟨bv, ov, none⟩) hs.length d] 149 (0, 0)) • Row 69 1 (.slice (some ⟨bv, ov, none⟩) hs.length d) hs.length (hs.map (·.1)) • qL hs • J (k + 1)) := by
    have h9 := ht1 (by simpa using h2)
    exact h9.of_eq (by ac_rfl)
   refine fV (aX (bC (aB (aZ (fZ O O (by omega)) (dn O (cO ?_))))))
   refine eX (k + 1) ?_ ?_ ?_ ?_
   ·exact pY
   ·exact AA
   ·(try dsimp only)
    first | done | exact ⟨by omega, HN.f3.f3.f3⟩
   ·(try dsimp only); omega
 ·(try simp only [aK] at h1)
  refine gY (aY (aY (dw (kG (.inr O) results126 ?_))))
  obtain rfl : k = hs.length := by omega
  rw [← hlen]
  exact .inl (V.comm (V.La (u := .slice a hs.length d) adv (HL.of_eq (by unfold EY; ac_rfl))))
end
end Go.Proofs.YtnhhmieghbfalaaGreat
end
section
namespace Go.Proofs.YtnhhmieghbfalaaGreat
open Go.RowKit
def IL (P : Int → Nat) (U : Int → List (List iO)) : List Int → HP
  | [] => emp
  | k :: D => jB (P k) (U k) [] 0 • IL P U D
def Ru (D : List Int) (P : Int → Nat) : Int → Option Value := fun k => if k ∈ D then some (.pointer (some ⟨P k, 0, none⟩)) else none
theorem uP {P : Int → Nat} {U : Int → List (List iO)} {k : Int} : ∀ {D : List Int}, k ∈ D → IL P U D = (jB (P k) (U k) [] 0 • IL P U (D.erase k))
  | x :: D, h => by
    by_cases e : x = k
    · subst e; rw [List.erase_cons_head]; rfl
    · rw [List.erase_cons_tail (by simpa using e)]
      have hk : k ∈ D := (List.mem_cons.1 h).resolve_left (Ne.symm e)
      show (jB (P x) (U x) [] 0 • IL P U D) = _
      rw [uP hk]
      show (jB (P x) (U x) [] 0 • jB (P k) (U k) [] 0 • IL P U (D.erase k)) = (jB (P k) (U k) [] 0 • (jB (P x) (U x) [] 0 • IL P U (D.erase k)))
      ac_rfl
theorem D6 {P P' : Int → Nat} {U U' : Int → List (List iO)} : ∀ {D : List Int}, (∀ k ∈ D, P k = P' k ∧ U k = U' k) → IL P U D = IL P' U' D
  | [], _ => rfl
  | x :: D, h => by
    show (jB (P x) (U x) [] 0 • IL P U D) = (jB (P' x) (U' x) [] 0 • IL P' U' D)
    rw [(h x (by simp)).1, (h x (by simp)).2, D6 fun k hk => h k (List.mem_cons_of_mem _ hk)]
def yC (b : Nat) (U : Int → List (List iO)) : HP := wF fun (x : List Int × (Int → Nat)) => fact (x.1.Nodup ∧ ∀ k, k ∉ x.1 → U k = []) • jM uy b (Ru x.1 x.2) • IL x.2 U x.1
def Oo (b : Nat) (U : Int → List (List iO)) (k : Int) (p : Nat) : HP := wF fun (x : List Int × (Int → Nat)) => fact (x.1.Nodup ∧ (∀ k, k ∉ x.1 → U k = []) ∧ k ∈ x.1 ∧ x.2 k = p) • jM uy b (Ru x.1 x.2) • IL x.2 U (x.1.erase k)
section
variable {w0 w : World} {F : HP} {b p : Nat} {k : Int} {U : Int → List (List iO)} {G : List (List iO)}
theorem V.aav (H : V w0 w (yC b U • F)) : ∃ D P, (D : List Int).Nodup ∧ (∀ k, k ∉ D → U k = []) ∧ V w0 w (jM uy b (Ru D P) • IL P U D • F) := by
  obtain ⟨⟨D, P⟩, H⟩ := H.oN
  obtain ⟨⟨h1, h2⟩, H⟩ := H.flat.fact
  exact ⟨D, P, h1, h2, H.flat⟩
theorem V.D7 {D : List Int} {P : Int → Nat} (h1 : D.Nodup) (h2 : ∀ k, k ∉ D → U k = []) (H : V w0 w (jM uy b (Ru D P) • IL P U D • F)) : V w0 w (yC b U • F) :=
  V.ji (D, P) (V.deep (V.oG ⟨h1, h2⟩ H.deep))
theorem V.abd {D : List Int} {P : Int → Nat} (h1 : D.Nodup) (h2 : ∀ k, k ∉ D → U k = []) (hk : k ∈ D) (H : V w0 w (jM uy b (Ru D P) • IL P U D • F)) : V w0 w (jB (P k) (U k) [] 0 • Oo b U k (P k) • F) := by
  have H1 : V w0 w ((jM uy b (Ru D P) • IL P U (D.erase k)) • jB (P k) (U k) [] 0 • F) := H.of_eq (by rw [uP hk]; ac_rfl)
  have H2 : V w0 w (Oo b U k (P k) • jB (P k) (U k) [] 0 • F) := V.ji (D, P) (V.deep (V.oG ⟨h1, h2, hk, rfl⟩ H1))
  exact H2.swap
theorem V.AX (H : V w0 w (Oo b U k p • jB p G [] 0 • F)) : V w0 w (yC b (uq U k G) • F) := by
  obtain ⟨⟨D, P⟩, H⟩ := H.oN
  obtain ⟨⟨h1, h2, hk, hp⟩, H⟩ := H.flat.fact
  dsimp only at h1 h2 hk hp H
  subst hp
  refine V.D7 (D := D) (P := P) h1 (fun x hx => ?_) ?_
  · rw [uw _ _ (by rintro rfl; exact hx hk)]; exact h2 x hx
  · rw [uP (U := uq U k G) hk, gW, D6 (P' := P) (U' := U) fun x hx => ⟨rfl, uw _ _ (by rintro rfl; exact (List.Nodup.not_mem_erase h1) hx)⟩]
    exact H.of_eq (by ac_rfl)
end
def wu (t : Int → Option ByteArray) : Int → Option Value := fun k => (t k).map .string
def Uu (pb pr pw pt pm : Nat) (c : pU) : HP := jo pb c.L c.pt c.mark • fJ pr c.E c.at_ • eF pw (.cells #[.int .i64 c.place, .map (some pt)] 97 (0, 0)) • jM uy pt (wu c.tx) • yC pm c.un
def Rw (pb pr pw pm : Nat) (c : pU) : List Value := [.pointer (some ⟨pb, 0, none⟩), .pointer (some ⟨pr, 0, none⟩), .pointer (some ⟨pw, 0, none⟩), .map (some pm), .int .i64 c.mode, .bool c.over, .int .i64 c.last, .int .i64 c.fr, .int .i64 c.to, .int .i64 c.res, .bool c.run]
def xJ (inn : Bool) (c : pU) (u : List Value) : HP := if inn = true then wF fun (x : Nat × Nat × Nat × Nat × Nat) => fact (u = Rw x.1 x.2.1 x.2.2.1 x.2.2.2.2 c) • Uu x.1 x.2.1 x.2.2.1 x.2.2.2.1 x.2.2.2.2 c else (fact ((u.all fun x => x.oneCell') = true))
def Uw (hl : List o7) (c : pU) : Prop := 0 ≤ c.place ∧ c.place ≤ hl.length ∧ (∀ k t, c.tx k = some t → t.size ≤ 16384)
def xK (e : iO) : Prop := 0 ≤ e.1 ∧ 0 < e.2.1.length + e.2.2.length ∧ e.2.1.length ≤ 1024 ∧ e.2.2.length ≤ 1024
def o8 (s : bP) : Prop := Uw s.hl s.c ∧ (s.inn = true → Uw s.hl s.was ∧ fQ (s.was.un s.was.place) [] ≤ 16384 ∧ ∀ k, ∀ g ∈ s.was.un k, ∀ e ∈ g, xK e) ∧ (-1 ≤ s.arg ∧ s.arg ≤ 1000000) ∧ (∀ e ∈ s.put, xK e) ∧ fQ s.here s.put ≤ 16384 ∧ (∀ k, ∀ g ∈ s.c.un k, ∀ e ∈ g, xK e)
structure EdP where
  pb : Nat
  pr : Nat
  pw : Nat
  pt : Nat
  pm : Nat
  ph : Nat
  bl : Nat
  pv : Value
  es : List fB
  u0 : Value
  u1 : Value
  u2 : Value
  u3 : Value
  u4 : Value
  u5 : Value
  u6 : Value
  u7 : Value
  u8 : Value
  u9 : Value
  ua : Value
def EdG (e : Nat) (s : bP) (M : Nat → HP) : HP := wF fun (x : EdP) => fact (o8 s ∧ x.es.map fB.says = s.put) •
  eF e (.cells (.pointer (some ⟨x.pb, 0, none⟩) :: .pointer (some ⟨x.pr, 0, none⟩) :: .pointer (some ⟨x.pw, 0, none⟩) :: .map (some x.pm) :: .int .i64 s.c.mode :: .bool s.c.over :: .int .i64 s.c.last :: .int .i64 s.c.fr :: .int .i64 s.c.to :: .int .i64 s.c.res :: .bool s.c.run :: .pointer (some ⟨x.ph, 0, none⟩) :: .pointer (some ⟨x.bl, 0, none⟩) :: .bool s.given :: .bool s.minus :: .int .i64 s.arg :: .bool s.inn :: x.u0 :: x.u1 :: x.u2 :: x.u3 :: x.u4 :: x.u5 :: x.u6 :: x.u7 :: x.u8 :: x.u9 :: x.ua :: .int .i64 s.cls :: .bool s.kJ :: .bool s.kZ :: .bool s.argues :: .bool s.whole :: x.pv :: []).toArray 71 (0, 0)) •
  jo x.pb s.c.L s.c.pt s.c.mark • fJ x.pr s.c.E s.c.at_ • eF x.pw (.cells #[.int .i64 s.c.place, .map (some x.pt)] 97 (0, 0)) • jM uy x.pt (wu s.c.tx) • M x.pm •
  iP x.ph s.hl s.base s.most • eF x.bl (.cells #[.int .i64 s.nZ] 117 (0, 0)) • Row 130 3 x.pv s.put.length (x.es.flatMap fB.enc) • nP x.es • xJ s.inn s.was [x.u0, x.u1, x.u2, x.u3, x.u4, x.u5, x.u6, x.u7, x.u8, x.u9, x.ua]
def iL (e : Nat) (s : bP) : HP := EdG e s fun pm => yC pm s.c.un
def aeK (e : Nat) (s : bP) (p : Nat) : HP := EdG e s fun pm => Oo pm s.c.un s.c.place p
section
variable {w0 w : World} {F : HP} {e : Nat} {s : bP} {M : Nat → HP}
theorem V.edG (H : V w0 w (EdG e s M • F)) : ∃ pb pr pw pt pm ph bl pv es u0 u1 u2 u3 u4 u5 u6 u7 u8 u9 ua, o8 s ∧ es.map fB.says = s.put ∧ es.length = s.put.length ∧ V w0 w (
  eF e (.cells (.pointer (some ⟨pb, 0, none⟩) :: .pointer (some ⟨pr, 0, none⟩) :: .pointer (some ⟨pw, 0, none⟩) :: .map (some pm) :: .int .i64 s.c.mode :: .bool s.c.over :: .int .i64 s.c.last :: .int .i64 s.c.fr :: .int .i64 s.c.to :: .int .i64 s.c.res :: .bool s.c.run :: .pointer (some ⟨ph, 0, none⟩) :: .pointer (some ⟨bl, 0, none⟩) :: .bool s.given :: .bool s.minus :: .int .i64 s.arg :: .bool s.inn :: u0 :: u1 :: u2 :: u3 :: u4 :: u5 :: u6 :: u7 :: u8 :: u9 :: ua :: .int .i64 s.cls :: .bool s.kJ :: .bool s.kZ :: .bool s.argues :: .bool s.whole :: pv :: []).toArray 71 (0, 0)) •
  jo pb s.c.L s.c.pt s.c.mark • fJ pr s.c.E s.c.at_ • eF pw (.cells #[.int .i64 s.c.place, .map (some pt)] 97 (0, 0)) • jM uy pt (wu s.c.tx) • M pm •
  iP ph s.hl s.base s.most • eF bl (.cells #[.int .i64 s.nZ] 117 (0, 0)) • Row 130 3 pv s.put.length (es.flatMap fB.enc) • nP es • xJ s.inn s.was [u0, u1, u2, u3, u4, u5, u6, u7, u8, u9, ua] • F) := by
  obtain ⟨⟨pb, pr, pw, pt, pm, ph, bl, pv, es, u0, u1, u2, u3, u4, u5, u6, u7, u8, u9, ua⟩, H⟩ := H.oN
  obtain ⟨⟨h1, h2⟩, H⟩ := H.flat.fact
  refine ⟨pb, pr, pw, pt, pm, ph, bl, pv, es, u0, u1, u2, u3, u4, u5, u6, u7, u8, u9, ua, h1, h2, ?_, ?_⟩
  · rw [← h2]; simp
  · dsimp only at H
    exact H.of_eq (by simp only [dI])
theorem V.abQ {pb pr pw pt pm ph bl : Nat} {pv : Value} {es : List fB} {u0 u1 u2 u3 u4 u5 u6 u7 u8 u9 ua : Value} (h1 : o8 s) (h2 : es.map fB.says = s.put) (H : V w0 w (
  eF e (.cells (.pointer (some ⟨pb, 0, none⟩) :: .pointer (some ⟨pr, 0, none⟩) :: .pointer (some ⟨pw, 0, none⟩) :: .map (some pm) :: .int .i64 s.c.mode :: .bool s.c.over :: .int .i64 s.c.last :: .int .i64 s.c.fr :: .int .i64 s.c.to :: .int .i64 s.c.res :: .bool s.c.run :: .pointer (some ⟨ph, 0, none⟩) :: .pointer (some ⟨bl, 0, none⟩) :: .bool s.given :: .bool s.minus :: .int .i64 s.arg :: .bool s.inn :: u0 :: u1 :: u2 :: u3 :: u4 :: u5 :: u6 :: u7 :: u8 :: u9 :: ua :: .int .i64 s.cls :: .bool s.kJ :: .bool s.kZ :: .bool s.argues :: .bool s.whole :: pv :: []).toArray 71 (0, 0)) •
  jo pb s.c.L s.c.pt s.c.mark • fJ pr s.c.E s.c.at_ • eF pw (.cells #[.int .i64 s.c.place, .map (some pt)] 97 (0, 0)) • jM uy pt (wu s.c.tx) • M pm •
  iP ph s.hl s.base s.most • eF bl (.cells #[.int .i64 s.nZ] 117 (0, 0)) • Row 130 3 pv s.put.length (es.flatMap fB.enc) • nP es • xJ s.inn s.was [u0, u1, u2, u3, u4, u5, u6, u7, u8, u9, ua] • F)) : V w0 w (EdG e s M • F) :=
  V.ji ⟨pb, pr, pw, pt, pm, ph, bl, pv, es, u0, u1, u2, u3, u4, u5, u6, u7, u8, u9, ua⟩ (V.deep (V.oG ⟨h1, h2⟩ (H.of_eq (by simp only [dI]))))
theorem V.iH {pb pr pw pt pm ph bl : Nat} {pv : Value} {es : List fB} {u0 u1 u2 u3 u4 u5 u6 u7 u8 u9 ua : Value} (h1 : o8 s) (h2 : es.map fB.says = s.put) (H : V w0 w (
  eF e (.cells (.pointer (some ⟨pb, 0, none⟩) :: .pointer (some ⟨pr, 0, none⟩) :: .pointer (some ⟨pw, 0, none⟩) :: .map (some pm) :: .int .i64 s.c.mode :: .bool s.c.over :: .int .i64 s.c.last :: .int .i64 s.c.fr :: .int .i64 s.c.to :: .int .i64 s.c.res :: .bool s.c.run :: .pointer (some ⟨ph, 0, none⟩) :: .pointer (some ⟨bl, 0, none⟩) :: .bool s.given :: .bool s.minus :: .int .i64 s.arg :: .bool s.inn :: u0 :: u1 :: u2 :: u3 :: u4 :: u5 :: u6 :: u7 :: u8 :: u9 :: ua :: .int .i64 s.cls :: .bool s.kJ :: .bool s.kZ :: .bool s.argues :: .bool s.whole :: pv :: []).toArray 71 (0, 0)) •
  jo pb s.c.L s.c.pt s.c.mark • fJ pr s.c.E s.c.at_ • eF pw (.cells #[.int .i64 s.c.place, .map (some pt)] 97 (0, 0)) • jM uy pt (wu s.c.tx) • yC pm s.c.un •
  iP ph s.hl s.base s.most • eF bl (.cells #[.int .i64 s.nZ] 117 (0, 0)) • Row 130 3 pv s.put.length (es.flatMap fB.enc) • nP es • xJ s.inn s.was [u0, u1, u2, u3, u4, u5, u6, u7, u8, u9, ua] • F)) : V w0 w (iL e s • F) := V.abQ (M := fun pm => yC pm s.c.un) h1 h2 H
theorem V.JO (H : V w0 w (iL e s • F)) : ∃ pb pr pw pt pm ph bl pv es u0 u1 u2 u3 u4 u5 u6 u7 u8 u9 ua, o8 s ∧ es.map fB.says = s.put ∧ es.length = s.put.length ∧ V w0 w (
  eF e (.cells (.pointer (some ⟨pb, 0, none⟩) :: .pointer (some ⟨pr, 0, none⟩) :: .pointer (some ⟨pw, 0, none⟩) :: .map (some pm) :: .int .i64 s.c.mode :: .bool s.c.over :: .int .i64 s.c.last :: .int .i64 s.c.fr :: .int .i64 s.c.to :: .int .i64 s.c.res :: .bool s.c.run :: .pointer (some ⟨ph, 0, none⟩) :: .pointer (some ⟨bl, 0, none⟩) :: .bool s.given :: .bool s.minus :: .int .i64 s.arg :: .bool s.inn :: u0 :: u1 :: u2 :: u3 :: u4 :: u5 :: u6 :: u7 :: u8 :: u9 :: ua :: .int .i64 s.cls :: .bool s.kJ :: .bool s.kZ :: .bool s.argues :: .bool s.whole :: pv :: []).toArray 71 (0, 0)) •
  jo pb s.c.L s.c.pt s.c.mark • fJ pr s.c.E s.c.at_ • eF pw (.cells #[.int .i64 s.c.place, .map (some pt)] 97 (0, 0)) • jM uy pt (wu s.c.tx) • yC pm s.c.un •
  iP ph s.hl s.base s.most • eF bl (.cells #[.int .i64 s.nZ] 117 (0, 0)) • Row 130 3 pv s.put.length (es.flatMap fB.enc) • nP es • xJ s.inn s.was [u0, u1, u2, u3, u4, u5, u6, u7, u8, u9, ua] • F) := H.edG
end
end Go.Proofs.YtnhhmieghbfalaaGreat
end
section
namespace Go.Proofs.YtnhhmieghbfalaaGreat
open Go.RowKit
open _root_.Go.Proofs.Tryz
def Rx {β : Type} (f : Int → Option β) (S : List Int) : Int → Option β := fun k => if k ∈ S then f k else none
theorem Yl {β : Type} (f : Int → Option β) : Rx f [] = fun _ => none := by funext k; simp [Rx]
theorem Wx {β : Type} {f : Int → Option β} {S : List Int} {a : Int} {u : β} (h : f a = some u) : Rx f (S ++ [a]) = upd (Rx f S) a u := by
  funext k
  unfold Rx upd
  by_cases hk : k = a
  · subst hk; simp [h]
  · simp [hk]
theorem Ym {β : Type} {f : Int → Option β} {S : List Int} (h : ∀ a u, f a = some u → a ∈ S) : Rx f S = f := by
  funext k
  unfold Rx
  split
  · rfl
  · rename_i hk
    cases hf : f k with
    | none => rfl
    | some u => exact absurd (h k u hf) hk
theorem Vp (P : Int → Nat) : Ru [] P = fun _ => none := by funext k; simp [Ru]
theorem Yn {D : List Int} {P : Int → Nat} {a : Int} {u : Value} (h : Ru D P a = some u) : a ∈ D ∧ u = .pointer (some ⟨P a, 0, none⟩) := by
  unfold Ru at h
  split at h
  · rename_i hm; exact ⟨hm, by cases h; rfl⟩
  · cases h
theorem Ry {S : List Int} {P : Int → Nat} {a : Int} {q : Nat} (h : a ∉ S) : Ru (S ++ [a]) (uq P a q) = upd (Ru S P) a (.pointer (some ⟨q, 0, none⟩)) := by
  funext k
  unfold Ru upd uq
  by_cases hk : k = a
  · subst hk; simp
  · simp [hk]
theorem Le {P : Int → Nat} {U : Int → List (List iO)} {a : Int} : ∀ {S : List Int}, IL P U (S ++ [a]) = (IL P U S • jB (P a) (U a) [] 0)
  | [] => by show (jB (P a) (U a) [] 0 • emp) = (emp • jB (P a) (U a) [] 0); rw [yc, qM]
  | x :: S => by
    show (jB (P x) (U x) [] 0 • IL P U (S ++ [a])) = ((jB (P x) (U x) [] 0 • IL P U S) • jB (P a) (U a) [] 0)
    rw [Le, dI]
theorem Oq {α : Type} {o : Option α} (h : ¬ o.isSome = true) : o = none := by cases o <;> simp_all
theorem Lh {S : List Int} {a : Int} (h : S.Nodup) (ha : a ∉ S) : (S ++ [a]).Nodup := by
  rw [List.nodup_append]
  exact ⟨h, by simp, by intro x hx y hy; rw [List.mem_singleton.1 hy]; rintro rfl; exact ha hx⟩
section
variable {w0 w : World} {F : HP} {pb pr pw pt pm : Nat} {c : pU}
theorem Yo (H : V w0 w (jo pb c.L c.pt c.mark • fJ pr c.E c.at_ • eF pw (.cells #[.int .i64 c.place, .map (some pt)] 97 (0, 0)) • jM uy pt (wu c.tx) • yC pm c.un • F)) :
  iQ prog 30 #[.agg #[.pointer (some ⟨pb, 0, none⟩), .pointer (some ⟨pr, 0, none⟩), .pointer (some ⟨pw, 0, none⟩), .map (some pm), .int .i64 c.mode, .bool c.over, .int .i64 c.last, .int .i64 c.fr, .int .i64 c.to, .int .i64 c.res, .bool c.run]] w fun v w' =>
   ∃ qb qr qw qt qm, v = .agg #[.pointer (some ⟨qb, 0, none⟩), .pointer (some ⟨qr, 0, none⟩), .pointer (some ⟨qw, 0, none⟩), .map (some qm), .int .i64 c.mode, .bool c.over, .int .i64 c.last, .int .i64 c.fr, .int .i64 c.to, .int .i64 c.res, .bool c.run] ∧
    V w0 w' (jo qb c.L c.pt c.mark • fJ qr c.E c.at_ • eF qw (.cells #[.int .i64 c.place, .map (some qt)] 97 (0, 0)) • jM uy qt (wu c.tx) • yC qm c.un •
     jo pb c.L c.pt c.mark • fJ pr c.E c.at_ • eF pw (.cells #[.int .i64 c.place, .map (some pt)] 97 (0, 0)) • jM uy pt (wu c.tx) • yC pm c.un • F) := by
 refine jH func30 ntmps30 ?_
 refine lQ (jW (kC (l := [_, _, _, _, _, _, _, _, _, _, _]) H O O) ?_)
 rintro _ w1 ⟨b1, rfl, H1⟩
 refine jW (gq (l := [_, _, _, _, _, _, _, _, _, _, _]) H1 oW O) ?_
 rintro _ w2 ⟨b2, rfl, H2⟩
 refine qJ ?_
 have KE := H2.drew
 have kR := V.kp (KE.f7.f7.f7.f7.f7.f7.f7)
 refine wL [1, 4] kR O (fH 0 O kR 0 aJ O nJ O (iY 1 O kR (fun W hW => jQ jy O ((Kp.h hW).f2).get.2 O) (fH 3 O kR 1 aJ O sizeOf63 O (iY 4 O kR (fun W hW => jQ underlying63 O ((Kp.h hW).f2).get.2 O) (lU 2 O (xB O func72 (MV KE.f3)) ?_)))))
 rintro _ w3 ⟨q3, rfl, H3⟩
 have Ei := V.kp (H3.f8.f8.f8.f8.f8.f8.f8.f8)
 refine dV Ei (fun W hW => (Kp.h hW).right.f7.f7.f7.f7.f5.f7.f7) ?_
 refine fH 6 O Ei 0 aJ O nJ O (lU 5 O (xB O func48 (Dj H3.f5)) ?_)
 rintro _ w4 ⟨pc4, rfl, H4⟩
 have xR := V.kp (H4.f9.f9.f9.f9.f9.f9.f9.f9.f9)
 refine fG xR (by kernel_rfl) ?_
 refine gJ 7 O (by kernel_rfl) (dX 0 (l' := [_, _, _, _, _, _, _, _, _, _, _]) H4.f6 nJ O O (by first | rfl | assumption) O O) ?_
 rintro _ w5 H5
 have En := V.kp (H5.f9.f9.f9.f9.f9.f9.f9.f9.f9)
 refine fG En (by kernel_rfl) ?_
 refine fH 8 O En 1 aJ O sizeOf63 O ?_
 refine gJ 9 O (by kernel_rfl) (dX 1 (l' := [_, _, _, _, _, _, _, _, _, _, _]) H5 sizeOf63 O O (by first | rfl | assumption) O O) ?_
 rintro _ w6 H6
 have CQ := V.kp (H6.f9.f9.f9.f9.f9.f9.f9.f9.f9)
 refine fG CQ (by kernel_rfl) ?_
 refine qN (bC (lQ (Z 2 aJ O sizeOf64 O (dL nU O (H6).get.2 O (dA O (Z 0 iG O ah O (dL ay O (H6.f7).get.2 O (jW (oI (Eo .i64) H6) ?_))))))))
 rintro _ w7 ⟨b7, rfl, H7⟩
 refine aZ (jd (pl := #[(0, 1), (1, 1)]) (#[_, _]) iG zeroValue97 (fun w => by kernel_rfl) O (O)) (jW (kC (l := [_, _]) H7 O O) ?_)
 rintro _ w8 ⟨b8, rfl, H8⟩
 refine uK O (lQ (Z 2 aJ O sizeOf64 O (dL nU O (H8.f3).get.2 O (dA O (Z 1 iG O sizeOf95 O (dL underlying95 O (H8.f9).get.2 O (jW (IK H8.f10 underlying95 O) ?_)))))))
 rintro _ w9 ⟨it9, mi, rfl, H9⟩
 refine iF (bI ?_)
 obtain ⟨R10, aeL, aeM⟩ := V.NM (H9.f2.f3.f3)
 have HX0 := aeM
 rw [← Yl (wu c.tx)] at HX0
 refine iC [(1, _), (2, _), (3, _), (30, _)] (fun (⟨S, n⟩ : List Int × Nat) => []) (fun (⟨S, n⟩ : List Int × Nat) W => V w0 W (F9 uy pt it9 (wu c.tx) S n • jM uy b7 (Rx (wu c.tx) S) • eF b8 (.cells #[.int .i64 c.place, .map (some b7)] 97 (0, 0)) • R10)) (fun (⟨S, n⟩ : List Int × Nat) => n) (([], _)) Pg (Sub.nil _) HX0 ?_
 rintro ⟨S, n⟩ Hr HL
 dsimp only [List.cons_append, List.nil_append]
 refine lQ (jW (KZ HL O) ?_)
 rintro _ w12 ⟨ox, Sx, mx, rfl, hNx, vN⟩
 refine aZ (aa9 O) (qJ (eP O (fun h1 => ?_) (fun h1 => ?_)))
 ·(try simp only [aK] at h1)
  obtain ⟨⟨a, u⟩, rfl⟩ := Option.isSome_iff_exists.1 h1
  obtain ⟨ha, hns, hlt, rfl⟩ := hNx
  refine gX (bI (lQ ?_))
  refine aZ (Vo (vN) (by assumption) O) ?_
  refine xZ O O (xZ O O (oD O (jZ O (aB (lM O O (Z 1 iG O sizeOf95 O (dL underlying95 O (vN.f3).get.2 O (jw O O (aC (Dw vN.f2 underlying95 ay O O O) ?_)))))))))
  rintro _ TB AB
  refine cO (aX ?_)
  have hres := Wx (S := S) ha
  refine eX ((S ++ [a], mx)) ?_ ?_ ?_ ?_
  ·exact (Sub.nil _)
  ·exact Pg
  ·(try dsimp only)
   first | done | exact (by rw [hres]; exact AB.f3.f2.f3)
  ·(try dsimp only); omega
 ·(try simp only [aK] at h1)
  obtain rfl := Oq (o := ox) (by simp [h1])
  obtain ⟨rfl, rfl, hall⟩ := hNx
  refine gY (aY ?_)
  have HX := vN.f3.f2.f3
  rw [Ym hall] at HX
  have PU := HX.f2
  have PV := PU.Om
  subst aeL
  refine aY (dw (bC (bY O (Z 2 aJ O sizeOf64 O (aC (dX 2 (l' := [_, _, _, _, _, _, _, _, _, _, _]) PV.f4 sizeOf64 O O (by first | rfl | assumption) O O) ?_)))))
  rintro _ w16 wE
  refine Xt (jW (oI (Eo .i64) wE) ?_)
  rintro _ ZQ ⟨b17, rfl, Dh⟩
  refine uK O (aO ?_)
  obtain ⟨D, P, hD1, hD2, HU⟩ := (Dh.f12).aav
  refine aB (Z 3 aJ O sizeOf65 O (dL nV O (HU.f4).get.2 O (jW (IK HU nV O) ?_)))
  rintro _ Xv ⟨aeN, mi, rfl, Ef⟩
  refine iF (bI ?_)
  obtain ⟨R19, aeO, aeP⟩ := V.NM (Ef.f3.f3.f3)
  have HX0 := aeP
  rw [← Vp P] at HX0
  refine iC [(1, _), (2, _), (6, _), (47, _)] (fun (⟨S, n, P2⟩ : List Int × Nat × (Int → Nat)) => []) (fun (⟨S, n, P2⟩ : List Int × Nat × (Int → Nat)) W => S.Nodup ∧ V w0 W (F9 uy pm aeN (Ru D P) S n • IL P c.un D • jM uy b17 (Ru S P2) • IL P2 c.un S • R19)) (fun (⟨S, n, P2⟩ : List Int × Nat × (Int → Nat)) => n) (([], _, P)) Pg (Sub.nil _) ⟨List.nodup_nil, (HX0).of_eq (by show _ = (_ • _ • _ • emp • _); rw [qM])⟩ ?_
  rintro ⟨S, n, P2⟩ XM ⟨hS, HL⟩
  dsimp only [List.cons_append, List.nil_append]
  refine lQ (jW (KZ HL O) ?_)
  rintro _ Xx ⟨ox, Sx, mx, rfl, hNx, tK⟩
  refine aZ (aa9 O) (qJ (eP O (fun h2 => ?_) (fun h2 => ?_)))
  ·(try simp only [aK] at h2)
   obtain ⟨⟨a, u⟩, rfl⟩ := Option.isSome_iff_exists.1 h2
   obtain ⟨ha, hns, hlt, rfl⟩ := hNx
   obtain ⟨hmem, rfl⟩ := Yn ha
   have HF := tK.f2
   rw [uP hmem] at HF
   have HF2 := HF.flat
   refine gX (bI (lQ ?_))
   refine aZ (Vo (HF2.f3) (by assumption) O) ?_
   refine xZ O O (xZ O O (oD O (jZ O (aB (jw O O (dn O (fO O func73 (KQ HF2) ?_)))))))
   rintro _ w22 ⟨q22, rfl, FN⟩
   refine aC (Dw FN.f5 nV ay O O O) ?_
   rintro _ ZR BA
   refine cO (aX ?_)
   have HQ := BA.f2.f6.f3.f5.f5.f6
   have hu1 : IL (uq P2 a q22) c.un (S ++ [a]) = (IL P2 c.un S • jB q22 (c.un a) [] 0) := by
    rw [Le, gW, D6 (P' := P2) (U' := c.un) fun x hx => ⟨uw _ _ (by rintro rfl; exact hns hx), rfl⟩]
   refine eX ((S ++ [a], mx, uq P2 a q22)) ?_ ?_ ?_ ?_
   ·exact (Sub.nil _)
   ·exact Pg
   ·(try dsimp only)
    first | done | exact ⟨Lh hS hns, HQ.of_eq (by rw [uP hmem, hu1, Ry hns]; ac_rfl)⟩
   ·(try dsimp only); omega
  ·(try simp only [aK] at h2)
   obtain rfl := Oq (o := ox) (by simp [h2])
   obtain ⟨rfl, rfl, hall⟩ := hNx
   refine gY (aY ?_)
   have aeQ := tK
   have aeR := aeQ.Om
   subst aeO
   have abR := aeR.f2.f2
   have abS := V.D7 hD1 hD2 abR
   have hnS : ∀ k, k ∉ Sx → c.un k = [] := fun k hk => hD2 k fun hkD => hk (hall k _ (if_pos hkD))
   have abT := abS.f3.f3
   have abU := V.D7 hS hnS abT
   refine aY (dw (bC (bY O (Z 3 aJ O sizeOf65 O (aC (dX 3 (l' := [_, _, _, _, _, _, _, _, _, _, _]) abU.f3 sizeOf65 O O (by first | rfl | assumption) O O) ?_)))))
   rintro _ w30 JF
   refine Xt (aZ (dF aJ O aU O O (JF).get.2) (aC (dD 0 (l' := [_, _, _, _, _, _, _, _, _, _, _]) (us := [_, _, _, _, _, _, _, _, _, _, _]) JF.f11 aU O O O (aH (aH (aH (aH (aH (aH (aH (aH (aH (aH (aH bG))))))))))) O O) ?_))
   rintro _ w31 MS
   refine XJ ?_
   refine qO (.inl O) (Jg results30 O aJ O (by rw [adw]; rfl) (MS).get.2) ?_
   exact ⟨_, _, _, _, _, O, MS.right.right.f2.f3.f10.f8.f10.f6.f7.f8.f9.f10⟩
end
def Lj (D : List Int) (P : Int → Nat) (k : Int) : Option Addr := if k ∈ D then some ⟨P k, 0, none⟩ else none
theorem Vq (D : List Int) (P : Int → Nat) (k : Int) : (Ru D P k).getD (.pointer none) = .pointer (Lj D P k) := by unfold Ru Lj; split <;> rfl
theorem Rz {D : List Int} {P : Int → Nat} {k : Int} (h : k ∈ D) : Lj D P k = some ⟨P k, 0, none⟩ := if_pos h
theorem Wy {D : List Int} {P : Int → Nat} {k : Int} (h : (Lj D P k).isNone = false) : k ∈ D := by
  unfold Lj at h
  split at h
  · assumption
  · cases h
theorem WA {D : List Int} {P : Int → Nat} {k : Int} (h : (Lj D P k).isNone = true) : k ∉ D := by
  unfold Lj at h
  split at h
  · cases h
  · assumption
theorem JQ {s : bP} (h : ¬ s.AU = 0) : s.inn = false ∧ s.AU = 1 := by
  unfold bP.AU at *
  cases hi : s.inn <;> simp_all
theorem Gg {s : bP} (h : s.AU = 0) : s.inn = true := by
  unfold bP.AU at h
  cases hi : s.inn <;> simp_all
theorem V.aeS {w0 w : World} {A B C F : HP} (H : V w0 w (A • B • C • F)) : V w0 w (A • (B • C) • F) := H.of_eq (by rw [dI])
section
variable {w0 w : World} {F : HP} {e p : Nat} {s : bP}
theorem uQ (H : V w0 w (iL e s • F)) : iQ prog 29 #[.pointer (some ⟨e, 0, none⟩)] w fun v w' => v = .bool false ∧ w = w' := by
 refine jH func29 ntmps29 ?_
 refine kW O (aO ?_)
 obtain ⟨yD, yE, yF, yG, yH, yI, yJ, yK, wI, uY, uZ, vk, vw, vC, vF, vG, vH, vI, vJ, vK, iI, dK, mF, iJ⟩ := (H).JO
 refine aB (dn O (aZ (nG rP O O) (qG O (fun h1 => ?_) (fun h1 => ?_))))
 ·(try simp only [aK] at h1)
  exfalso; first | contradiction | omega
 ·(try simp only [aK] at h1)
  refine bK (dn O (bK (dA O (bK (Z 11 aj O sizeOf45 O (bK (dL nS O (iJ).get.2 O (bK (aZ (nG nS O O) (lH O O (jP O (gy results29 O ?_))))))))))))
  exact ⟨O, O⟩
theorem sQ (H : V w0 w (iL e s • F)) : iQ prog 32 #[.pointer (some ⟨e, 0, none⟩)] w fun v w' => v = .int .i64 s.AU ∧ w = w' := by
 unfold bP.AU
 refine jH func32 ntmps32 ?_
 refine kW O (aO (bI (bY O (fO O func29 (uQ H) ?_))))
 rintro _ _ ⟨rfl, rfl⟩
 refine jZ O (vX (aO ?_))
 obtain ⟨yD, yE, yF, yG, yH, yI, yJ, yK, wI, uY, uZ, vk, vw, vC, vF, vG, vH, vI, vJ, vK, iI, dK, mF, iJ⟩ := (H).JO
 refine aB (lM O O (Z 16 aj O aN O (dL bf O (iJ).get.2 O (aZ (kY O) (jZ O (eP O (fun h1 => ?_) (fun h1 => ?_)))))))
 ·(try simp only [aK] at h1)
  refine nM O (dO (aV (gy results32 O ?_)))
  exact ⟨by simp [*], O⟩
 ·(try simp only [aK] at h1)
  refine fV (aX (bC (nM O (gy results32 O ?_))))
  exact ⟨by simp [*], O⟩
theorem Dy {x0 x1 x4 x5 x6 x7 x8 x9 x10 x11 x12 tZ x14 x15 x16 x17 x18 x19 x20 x21 uD x23 x24 x25 uI x27 x28 x29 x30 x31 x32 vM : Value} {pw pt pm : Nat} {k : Int} {U : Int → List (List iO)} (H : V w0 w (eF e (.cells (x0 :: x1 :: .pointer (some ⟨pw, 0, none⟩) :: .map (some pm) :: x4 :: x5 :: x6 :: x7 :: x8 :: x9 :: x10 :: x11 :: x12 :: tZ :: x14 :: x15 :: x16 :: x17 :: x18 :: x19 :: x20 :: x21 :: uD :: x23 :: x24 :: x25 :: uI :: x27 :: x28 :: x29 :: x30 :: x31 :: x32 :: vM :: []).toArray 71 (0, 0)) • eF pw (.cells #[.int .i64 k, .map (some pt)] 97 (0, 0)) • yC pm U • F)) : iQ prog 78 #[.pointer (some ⟨e, 0, none⟩)] w fun v w' => ∃ p, v = .pointer (some ⟨p, 0, none⟩) ∧
  V w0 w' (jB p (U k) [] 0 • Oo pm U k p • eF e (.cells (x0 :: x1 :: .pointer (some ⟨pw, 0, none⟩) :: .map (some pm) :: x4 :: x5 :: x6 :: x7 :: x8 :: x9 :: x10 :: x11 :: x12 :: tZ :: x14 :: x15 :: x16 :: x17 :: x18 :: x19 :: x20 :: x21 :: uD :: x23 :: x24 :: x25 :: uI :: x27 :: x28 :: x29 :: x30 :: x31 :: x32 :: vM :: []).toArray 71 (0, 0)) • eF pw (.cells #[.int .i64 k, .map (some pt)] 97 (0, 0)) • F) := by
 refine jH func78 ntmps78 ?_
 refine kW O (aO ?_)
 obtain ⟨D, P, hD1, hD2, HU⟩ := (H.f3).aav
 have Ll := HU.drew
 have kU := V.kp (Ll.f4.f4.f4.f4)
 refine wL [4, 9, 12, 13] kU O (gK 0 O kU O (jL 1 O kU O (fH 2 O kU 0 aj O aU O (fH 3 O kU 3 aJ O sizeOf65 O (iY 4 O kU (fun W hW => jQ nV O ((Kp.h hW).f3).get.2 O) (gK 5 O kU O (jL 6 O kU O (fH 7 O kU 0 aj O aU O (fH 8 O kU 2 aJ O sizeOf64 O (iY 9 O kU (fun W hW => jQ nU O ((Kp.h hW).f3).get.2 O) (jL 10 O kU O (fH 11 O kU 0 iG O ah O (iY 12 O kU (fun W hW => jQ ay O ((Kp.h hW).f4).get.2 O) (iY 13 O kU (fun W hW => Jf (Rl ((Kp.h hW)) nV ay zeroValue123 O O) (Vq D P k)) (jR 14 O kU (fun _ => iV O) (qN (bC (aO (bY O (aZ (nG underlying123 O O) (kE O (fun h1 => ?_) (fun h1 => ?_))))))))))))))))))))))
 ·(try simp only [aK] at h1)
  have hnm := WA h1
  refine lQ (fO O func119 (Pv Ll) ?_)
  rintro _ w1 ⟨p1, rfl, H1⟩
  refine jZ O ?_
  have adx := H1.drew
  have zi := V.kp (adx.f5.f5.f5.f5.f5)
  refine wL [4, 9, 12] zi O (gK 0 O zi O (jL 1 O zi O (fH 2 O zi 0 aj O aU O (fH 3 O zi 3 aJ O sizeOf65 O (iY 4 O zi (fun W hW => jQ nV O ((Kp.h hW).f4).get.2 O) (gK 5 O zi O (jL 6 O zi O (fH 7 O zi 0 aj O aU O (fH 8 O zi 2 aJ O sizeOf64 O (iY 9 O zi (fun W hW => jQ nU O ((Kp.h hW).f4).get.2 O) (jL 10 O zi O (fH 11 O zi 0 iG O ah O (iY 12 O zi (fun W hW => jQ ay O ((Kp.h hW).f5).get.2 O) (gK 13 O zi O ?_))))))))))))))
  refine gJ 14 O (by kernel_rfl) (Dw adx.f2 nV ay O O O) ?_
  rintro _ w2 H2
  have EZ := V.kp (H2.f5.f5.f5.f5.f5)
  refine fG EZ (by kernel_rfl) ?_
  refine qN (bC (bY O (jP O (gy results78 O ?_))))
  have hu1 : IL (uq P k p1) U (D ++ [k]) = (IL P U D • jB p1 [] [] 0) := by
   rw [Le, gW, hD2 _ hnm, D6 (P' := P) (U' := U) fun x hx => ⟨uw _ _ (by rintro rfl; exact hnm hx), rfl⟩]
  have HM := V.aeS H2.f5.f5.f4.f5.f5
  rw [← hu1, ← Ry hnm] at HM
  have HZ := V.abd (k := k) (Lh hD1 hnm) (fun k hk => hD2 k fun hm => hk (by simp [hm])) (by simp) HM
  rw [gW] at HZ
  exact ⟨_, O, HZ⟩
 ·(try simp only [aK] at h1)
  have hmem := Wy h1
  rw [Rz hmem]
  refine gX (bY O (jP O (gy results78 O ?_)))
  exact ⟨_, O, V.abd hD1 hD2 hmem Ll.f4.f4.f4.f4⟩
theorem V.PW {b p : Nat} {k : Int} {U : Int → List (List iO)} (H : V w0 w (Oo b U k p • jB p (U k) [] 0 • F)) : V w0 w (yC b U • F) := by
  have := H.AX
  rwa [aas] at this
end
end Go.Proofs.YtnhhmieghbfalaaGreat
end
section
namespace Go.Proofs.YtnhhmieghbfalaaGreat
open Go.RowKit Go.Lib
section
variable {P : Program} {L : List (Nat × Value)} {w0 w : World} {F : HP} {ty : TypeId} {b : Nat} {v d : Int} {t : TypeId}
theorem abe {T : Value → World → Prop} {f : FuncId} {args : List Operand} {ts : Array TypeId} {vs : List Value} {fn : Func} {e : Array Value → Sem Value} {v : Value} {w' : World} (ha : GV L args = some vs)
    (hf : P.funcs[f]? = some fn) (hname : (fn.name == "runtime.NumGoroutine") = false) (hb : fn.body.isNone = true) (hn : Extern.findNext fn = none) (he : Extern.find fn = some e) (hr : (e vs.toArray).run P w = .ok v w') (ht : T v w') :
    xu P L (.call ⟨.value (.func f), args.toArray, ts⟩) ty w T := xw (v := v) (w' := w') (fun ρ hρ _ _ _ _ => by
  have hg : ρ (.func f) = .func (.func f) #[] #[] := hρ _ _ rfl
  have hc := run_callFunc_extern hf hname hb hn he vs.toArray w
  rw [hr] at hc
  simp [execOp, resolve, invoke, evs hρ _ _ ha, hg, Deferred.ofValue]
  exact hc) ht
theorem Ux (hc : w.cell? ⟨b, 0, none⟩ = some (.int .i64 v)) : (Extern.Atomic.loadT (.int .i64) #[.pointer (some ⟨b, 0, none⟩)]).run P w = .ok (.int .i64 v) w := by
  change Sem.run P (do Extern.Atomic.read (.int .i64) (← asAddr (.pointer (some ⟨b, 0, none⟩)))) w = _
  simp [Extern.Atomic.read, asAddr, hc, Result.andThen]
theorem aaw {f : FuncId} {args : List Operand} {ts : Array TypeId} {fn : Func} (H : V w0 w (eF b (.cells #[.int .i64 v] t (0, 0)) • F)) (ha : GV L args = some [.pointer (some ⟨b, 0, none⟩), .int .i64 d])
    (hf : P.funcs[f]? = some fn) (hname : (fn.name == "runtime.NumGoroutine") = false) (hb : fn.body.isNone = true) (hn : Extern.findNext fn = none) (he : Extern.find fn = some (Extern.Atomic.update (Op.intArith .add) .i64 true)) :
    xu P L (.call ⟨.value (.func f), args.toArray, ts⟩) ty w fun u w' => u = .int .i64 (IntKind.i64.wrap (v + d)) ∧ V w0 w' (eF b (.cells #[.int .i64 (IntKind.i64.wrap (v + d))] t (0, 0)) • F) :=
  abe ha hf hname hb hn he (Conc.run_add_entry (mQ H.get.2 rfl) (Iu H.get.2)) ⟨rfl, H.setCell (i := 0) _⟩
theorem Yp {f : FuncId} {args : List Operand} {ts : Array TypeId} {fn : Func} (H : V w0 w (eF b (.cells #[.int .i64 v] t (0, 0)) • F)) (ha : GV L args = some [.pointer (some ⟨b, 0, none⟩)])
    (hf : P.funcs[f]? = some fn) (hname : (fn.name == "runtime.NumGoroutine") = false) (hb : fn.body.isNone = true) (hn : Extern.findNext fn = none) (he : Extern.find fn = some (Extern.Atomic.loadT (.int .i64))) :
    xu P L (.call ⟨.value (.func f), args.toArray, ts⟩) ty w fun u w' => u = .int .i64 v ∧ w = w' :=
  abe ha hf hname hb hn he (Ux (mQ H.get.2 rfl)) ⟨rfl, rfl⟩
theorem Gh (H : V w0 w (eF b (.cells #[.int .i64 v] t (0, 0)) • F)) : iQ Tryz.prog 42 #[.pointer (some ⟨b, 0, none⟩), .int .i64 d] w fun u w' => u = .int .i64 (IntKind.i64.wrap (v + d)) ∧ V w0 w' (eF b (.cells #[.int .i64 (IntKind.i64.wrap (v + d))] t (0, 0)) • F) := by
  refine qQ Tryz.func42 Tryz.ntmps42 ?_
  refine kW O (bY O (dA O (Z 0 Tryz.underlying117 O jU O (dn O (jW (aaw H O Tryz.func88 O O (by kernel_rfl) (by kernel_rfl)) ?_)))))
  rintro _ w1 ⟨rfl, H1⟩
  refine jP O (gy Tryz.results42 O ?_)
  exact ⟨O, H1⟩
theorem rQ (H : V w0 w (eF b (.cells #[.int .i64 v] t (0, 0)) • F)) : iQ Tryz.prog 47 #[.pointer (some ⟨b, 0, none⟩)] w fun u w' => u = .int .i64 v ∧ w = w' := by
  refine jH Tryz.func47 Tryz.ntmps47 ?_
  refine kW O (bY O (dA O (Z 0 Tryz.underlying117 O jU O (jW (Yp H O Tryz.func101 O O (by kernel_rfl) (by kernel_rfl)) ?_))))
  rintro _ _ ⟨rfl, rfl⟩
  refine jP O (gy Tryz.results47 O ?_)
  exact ⟨O, O⟩
end
end Go.Proofs.YtnhhmieghbfalaaGreat
end
