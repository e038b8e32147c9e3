import Derived.Test.YtgofgnlkpeghcaaGreatDoorZ4
import Derived.Test.YtgofgnlkpeghcaaGreatDoorZ9
import Derived.Test.YtgofgnlkpeghcaaGreatDoorZ5
import Derived.Lib.OthersKept
import Derived.Lib.Bytealg
import Derived.Conc.AtomicLaws2
set_option linter.unusedSimpArgs false
set_option linter.unusedVariables false
/- Texts of mine, joined, their names in short: UGroups Ed EdTwin EdA Atom. -/
section
namespace Go.Proofs.YtgofgnlkpeghcaaGreatDoor
open Go.RowKit
open _root_.Go.Proofs.Tryz
def Gy (c : Nat) (G : List (List kC)) (N : List kC) (k : Nat) : HP := yC fun (x : Value × List (Value × List fJ)) => fact (x.2.map (fun g => g.2.map fJ.says) = Si N ++ G.reverse.take k) • eF c (.cells #[x.1] 163 (0, 0)) • He x.1 x.2
theorem rev_succ {G : List (List kC)} {k : Nat} (hk : k < G.length) : G.reverse.take (k + 1) = G.reverse.take k ++ [G.getD (G.length - (k + 1)) []] := by
  rw [List.take_succ_eq_append_getElem (by simpa using hk)]
  congr 1
  rw [List.getElem_reverse, List.getD_eq_getElem?_getD, List.getElem?_eq_getElem (by omega)]
  have e : G.length - 1 - k = G.length - (k + 1) := by omega
  simp only [Option.getD_some, e]
section
variable {w0 w : World} {F : HP} {p c k : Nat} {G : List (List kC)} {N : List kC} {op : Int} {v u : Value} {es fs : List fJ} {gs hs : List (Value × List fJ)}
theorem V.UJ (H : V w0 w (Gy c G N k • F)) : ∃ u hs, hs.map (fun g => g.2.map fJ.says) = Si N ++ G.reverse.take k ∧ hs.length ≤ G.length + 1 ∧ V w0 w (eF c (.cells #[u] 163 (0, 0)) • Row 96 1 u hs.length (hs.map (·.1)) • rQ hs • F) := by
  obtain ⟨⟨u, hs⟩, H⟩ := H.pO
  obtain ⟨h, H⟩ := H.flat.fact
  refine ⟨u, hs, h, ?_, (H.flat.swap.acD).f3⟩
  have := congrArg List.length h
  have := aaQ N
  simp only [List.length_map, List.length_append, List.length_take, List.length_reverse] at *
  omega
theorem V.Ov (h : hs.map (fun g => g.2.map fJ.says) = Si N ++ G.reverse.take k) (H : V w0 w (eF c (.cells #[u] 163 (0, 0)) • He u hs • F)) : V w0 w (Gy c G N k • F) :=
  V.jG (u, hs) (V.deep (V.oG h H.deep))
theorem Y7 (H : V w0 w F) (hv : v.oneCell' = true) : iM prog 143 #[v] w fun v' w' => ∃ b, v' = .func (.func 157) #[] #[.pointer (some ⟨b, 0, none⟩)] ∧ V w0 w' (eF b (.cells #[v] 163 (0, 0)) • F) := by
  refine iQ func143 ntmps143 ?_
  refine jw (iY (jo (l := [_]) H O (by first | rfl | exact FQ (by first | rfl | assumption))) ?_)
  rintro _ w1 ⟨b1, rfl, H1⟩
  refine iP O (jw (aW (BD O O) (ig O (fD results143 O ?_))))
  exact ⟨_, O, H1⟩
theorem WI (b : Nat) : Iter prog w0 (.func (.func 157) #[] #[.pointer (some ⟨b, 0, none⟩)]) (eF b (.cells #[v] 163 (0, 0)) • Row 96 1 v gs.length (gs.map (·.1)) • rQ gs) gs.length
  (fun k vs A => ∃ gl Ac, gs.getD (gs.length - (k + 1)) default = (gl, Ac) ∧ vs = [.int .i64 ((gs.length - (k + 1) : Nat) : Int), gl] ∧ A = Gs gl Ac) := by
 intro l J X w hy H
 refine ⟨157, [], [.pointer (some ⟨b, 0, none⟩)], _, _, O, func157, O, O, ?_⟩
 have H1 : V w0 w (eF b (.cells #[v] 163 (0, 0)) • Row 96 1 v gs.length (gs.map (·.1)) • rQ gs • J 0) := H.of_eq (by ac_rfl)
 obtain ⟨a, c, hv, hc1, hc2, _⟩ := (H1.swap.aN).form
 subst hv
 simp only [List.nil_append, List.cons_append]
 refine YG func157 ntmps157 ?_
 dsimp only [Ad, Nat.reduceAdd]
 refine jw (fB bP O (H1).get.2 O (aW (fV ((H1.f2).aN) bP O) (aW (lW O O (by omega)) (iP O (bg ?_)))))
 refine gq [(0, _), (1, _)] (fun (k : Nat) => [(3, .int .i64 ((k : Int) - 1))]) (fun (k : Nat) W => k ≤ gs.length ∧ V w0 W (eF b (.cells #[.slice a gs.length c] 163 (0, 0)) • Row 96 1 (.slice a gs.length c) gs.length (gs.map (·.1)) • rQ gs • J (gs.length - k))) (fun (k : Nat) => k) (gs.length) rP oO ⟨by omega, by rw [Nat.sub_self]; exact H1⟩ ?_
 rintro k w1 ⟨hk, HL⟩
 dsimp only [List.cons_append, List.nil_append]
 refine aO (bY O (aW (nM O O) (jv O (fun h1 => ?_) (fun h1 => ?_))))
 ·(try simp only [aF] at h1)
  refine iy (aO (bg (aO ?_)))
  obtain ⟨m, rfl⟩ : ∃ m, k = m + 1 := ⟨k - 1, by omega⟩
  rw [show (((m + 1 : Nat) : Int) - 1) = (m : Int) from by omega]
  have hkl : m < gs.length := by omega
  refine aA (jy O O (fB bP O (HL).get.2 O (bT O ?_)))
  obtain ⟨bv, ov, cv, ev⟩ := Rd.nR ((HL.f2).aN) (by omega)
  cases ev
  refine aW (dD bP bG O O (by omega)) ?_
  refine aW (eG (dn aV O) O (by first | exact Rd.sO ((HL.f2).aN) (by omega) | exact Rd.EF ((HL.f2).aN) (by omega) | exact Rd.Ey ((HL.f2).aN) (by omega))) ?_
  rw [show (gs.map (·.1)).getD m undef = (gs.getD m default).1 from by simp [List.getD_eq_getElem?_getD, hkl]]
  obtain ⟨gl, Ac, hg⟩ : ∃ gl Ac, gs.getD m default = (gl, Ac) := ⟨_, _, rfl⟩
  rw [hg]
  have Ho2 := HL.f3
  have Hc3 := Ho2.IY hkl hg
  refine iY (MS O O (hy (gs.length - (m + 1)) (by omega) _ _ ⟨gl, Ac, by rw [show gs.length - (gs.length - (m + 1) + 1) = m from by omega]; exact hg, by rw [show gs.length - (gs.length - (m + 1) + 1) = m from by omega], O⟩ (rQ gs • Row 96 1 (.slice (some ⟨bv, ov, none⟩) gs.length c) gs.length (gs.map (·.1)) • eF b (.cells #[.slice (some ⟨bv, ov, none⟩) gs.length c] 163 (0, 0))) _ (Hc3.of_eq (by ac_rfl))).bool) ?_
  rintro _ w4 ⟨t, rfl, ht1, ht2⟩
  refine aW (mG O) (jv O (fun h2 => ?_) (fun h2 => ?_))
  ·(try simp only [aF] at h2)
   have HX := ht2 (by simpa using h2)
   refine mZ (aX (aC (aC (aX (we0 results157 ?_)))))
   exact .inr (HX.of_eq (by ac_rfl))
  ·(try simp only [aF] at h2)
   have HN : V w0 w4 (eF b (.cells #[.slice (some ⟨bv, ov, none⟩) gs.length c] 163 (0, 0)) • Row 96 1 (.slice (some ⟨bv, ov, none⟩) gs.length c) gs.length (gs.map (·.1)) • rQ gs • J (gs.length - m)) := by
    have h9 := ht1 (by simpa using h2)
    rw [show gs.length - (m + 1) + 1 = gs.length - m from by omega] at h9
    exact h9.of_eq (by ac_rfl)
   refine dS (aP (aZ (aA (bT O (aW (lW O O (by omega)) (iC O (bZ ?_)))))))
   refine dN (m) ?_ ?_ ?_ ?_
   ·exact oO
   ·exact rP
   ·(try dsimp only)
    first | done | exact ⟨by omega, HN.f3.f3.f3⟩
   ·(try dsimp only); omega
 ·(try simp only [aF] at h1)
  refine eH (aT (aT (bU (kY (.inr O) results157 ?_))))
  obtain rfl : k = 0 := by omega
  rw [Nat.sub_zero] at HL
  exact .inl (HL.of_eq (by ac_rfl))
theorem LV (H : V w0 w (jW p G N op • F)) : iM prog 104 #[.pointer (some ⟨p, 0, none⟩)] w fun v w' => ∃ c, v = .func (.func 144) #[] #[.pointer (some ⟨c, 0, none⟩)] ∧ V w0 w' (Gy c G N G.length • jW p G N op • F) := by
 refine iQ func104 ntmps104 ?_
 refine kQ O (jw (iY (fK (l := [_]) H zeroValue163 O) ?_))
 rintro _ w1 ⟨b1, rfl, H1⟩
 refine rV (bY O (fE O func140 (oI H1.f2) ?_))
 rintro _ _ ⟨rfl, rfl⟩
 refine aW (mG O) ?_
 obtain ⟨EJ, Di, rG, qK, oU, zi, xg, JW, JX, PK, uw⟩ := (H1.f2).Ah
 have hLn : qK.length ≤ 16384 := by omega
 have hBn := Uz xg oU.2.2.2.2.2
 refine jd (wcE O (fun h1 => ?_))
 (try simp only [aF] at h1)
 refine rU [(0, _), (3, _)] (fun (_ : Unit) => []) (fun (_ : Unit) W => V w0 W (Gy b1 G N 0 • eF p (.cells #[EJ, Di, .int .i64 op, .int .i64 (iD G N : Nat), .bool true] 214 (0, 0)) • Row 96 1 EJ rG.length (rG.map (·.1)) • rQ rG • Row 183 3 Di qK.length (qK.flatMap fJ.enc) • nX qK • F)) rP ?_ ?_
 ·rintro _ w4 HJ
  dsimp only [List.cons_append, List.nil_append]
  refine bY O (dO O (bn 0 bV O dQ O (bn 0 dh O iH O (fB bP O (HJ.f2).get.2 O (fE O func143 (Y7 HJ (Rd.one ((HJ.f3).aN))) ?_)))))
  rintro _ w5 ⟨bB5, rfl, H5⟩
  refine jd (bg ?_)
  obtain ⟨R6, hR6, HR6⟩ := V.afa (H5.f5.f5.f3.f4)
  refine Am O (WI bB5) (fun k => Gy b1 G N k • R6) (fact False) (fun _ => fact False) (HR6.f4.f4.f4.f4.f4.f4.f4.g3.comm) (by rfl) ?_ ?_ ?_ ?_
  ·rintro l7 k acL vs7 A7 ⟨gl, Ac, hg, rfl, rfl⟩ G7 w7 H7
   try simp only [dK, qL, xK] at H7
   refine ⟨O, ?_⟩
   dsimp only [Uw]
   obtain ⟨u, hs, VQ, hhl, HI⟩ := (H7.f2).UJ
   have hge : Ac.map fJ.says = G.getD (G.length - (k + 1)) [] := by
    rw [← JW, ← zi]
    have h9 : (rG.map (fun g => g.2.map fJ.says)).getD (rG.length - (k + 1)) [] = (rG.getD (rG.length - (k + 1)) default).2.map fJ.says := by simp [List.getD_eq_getElem?_getD, show rG.length - (k + 1) < rG.length by omega]
    rw [h9, hg]
   have hgm : G.getD (G.length - (k + 1)) [] ∈ G := Bh (by omega)
   have hBg := Uz hge (oU.2.2.2.2.1 _ hgm)
   have hLg : Ac.length ≤ 16384 := by
    have h8 := oU.2.1
    unfold iD at h8
    have h7 := congrArg List.length hge
    rw [List.length_map] at h7
    have h6 := MV hgm
    omega
   refine aA (iC O (bZ ?_))
   refine RS (HI.g5) ?_
   intro G8 w8 H8
   try simp only [dK] at H8
   refine bg ?_
   have afI := H8.drew
   have aaU := V.kp (afI.f4.f4.f4.f4)
   refine uU [0] aaU O (iO 0 O aaU (fun W hW => jT bP O ((Kp.h hW)).get.2 O) (gQ 1 O aaU O (lU 2 O (wY O func141 (Dj afI.f4 hBg hLg)) ?_)))
   rintro u9 w9 ⟨fs9, ag0, H9⟩
   obtain ⟨es2, rfl⟩ : ∃ q, q = fs9 := ⟨_, rfl⟩
   have hes2 := ag0
   have Gi := V.kp (H9.f6.f6.f6.f6.f6.f6)
   refine dZ Gi (fun W hW => (Kp.h hW).right.right.f4.f4.f4) ?_
   refine lU 3 O (kU (vs := [_]) H9 bP bG pV O O O (by decide) (aY (by first | rfl | exact Rd.one ((H9).aN)) bK)) ?_
   rintro l10 w10 sF
   have Oh := V.kp (sF.f7.f7.f7.f7.f7.f7.f7)
   refine dZ Oh (fun W hW => (Kp.h hW).right.f6.f6.f6.f6.f6.f6) ?_
   refine lU 4 O (eX sF.f6 bP KI O O O ((sF).aN) (aY (by first | rfl | exact Rd.one ((sF.f2).aN)) bK) (by omega) (by omega)) ?_
   rintro l11 Iq sG
   have PO := sG.f2.right
   have DF := V.kp (PO.f6.f6.f6.f6.f6.f6)
   refine fH DF (by kernel_rfl) ?_
   refine gU 5 O (by kernel_rfl) (eY 0 (l' := [_]) PO.f5 iH O O (by first | rfl | exact Rd.one ((PO).aN)) O O) ?_
   rintro _ Qz Ak
   have Oe := V.kp (Ak.f6.f6.f6.f6.f6.f6)
   refine fH Oe (by kernel_rfl) ?_
   refine qj (aP ?_)
   refine Hl ?_
   have X := V.uJ (es := es2) (Ak.f5.right.f5.f3.f5.f5).deep
   exact (V.Ov (hs := hs ++ [(u9, es2)]) (by rw [List.map_append, VQ, rev_succ (by omega), ← hge, ← hes2, List.append_assoc]; rfl) (V.wO X.swap).swap).deep
  ·rintro D14 TL Dh
   have aaM := Dh.ed
   try simp only [dK, qL, xK] at aaM
   have ad7 := aaM.TS
   subst hR6
   refine aP (aZ (jw (aW (BD O O) (ig O ?_))))
   refine Iu (.inl O) (ad7) (fun Ws CG => ?_)
   refine ⟨_, aci results104 O, ?_⟩
   have hgl : Gy b1 G N rG.length = Gy b1 G N G.length := by rw [JW]
   rw [hgl] at CG
   have WJ := CG.f7.f7.f5.f5.f7
   have aaV := V.qY oU zi xg rfl WJ
   exact ⟨_, O, aaV.f2.right.f2⟩
  ·rintro D w H; exact absurd H.swap.fact.1 id
  ·rintro id D w H; exact absurd H.swap.fact.1 fun h => h
 ·skip
  refine bY O (dO O (bn 0 bV O dQ O (bn 1 dh O bG O (fB aV O (uw).get.2 O (aW (fV ((uw.f4).aN) aV O) (aW (iT O O) (jv O (fun h2 => ?_) (fun h2 => ?_))))))))
  ·(try simp only [aF] at h2)
   have hN : Si N = [N] := if_neg (by rintro rfl; exact absurd JX (by simp only [List.length_nil]; omega))
   have adv := uw.drew
   have Hr := V.kp (adv.f6.f6.f6.f6.f6.f6)
   refine uU [0, 5] Hr O (iO 0 O Hr (fun W hW => jT bP O ((Kp.h hW).f6).get.2 O) (gQ 1 O Hr O (jQ 2 O Hr O (fQ 3 O Hr 0 bV O dQ O (fQ 4 O Hr 1 dh O bG O (iO 5 O Hr (fun W hW => jT aV O ((Kp.h hW)).get.2 O) (lU 6 O (wY O func141 (Fb adv.f5.f5 hBn hLn)) ?_)))))))
   rintro u19 ZO ⟨ag1, afJ, DY⟩
   obtain ⟨es1, rfl⟩ : ∃ q, q = ag1 := ⟨_, rfl⟩
   have hes1 := afJ
   have UK := V.kp (DY.f8.f8.f8.f8.f8.f8.f8.f8)
   refine dZ UK (fun W hW => (Kp.h hW).right.right.f6.f3.f3.f6.f6.f6) ?_
   refine lU 7 O (kU (vs := [_]) DY bP bG pV O O O (by decide) (aY (by first | rfl | exact Rd.one ((DY).aN)) bK)) ?_
   rintro l20 YT EI
   have I7 := V.kp (EI.f9.f9.f9.f9.f9.f9.f9.f9.f9)
   refine dZ I7 (fun W hW => (Kp.h hW).right.f8.f8.f8.f8.f8.f8.f8.f8) ?_
   refine lU 8 O (eX (EI.gG none) bP KI O O O ((EI).aN) (aY (by first | rfl | exact Rd.one ((EI.f2).aN)) bK) (by omega) (by omega)) ?_
   rintro l21 YU wG
   have LW := wG.f2.right
   have I8 := V.kp (LW.f9.f9.f9.f9.f9.f9.f9.f9.f9)
   refine fH I8 (by kernel_rfl) ?_
   refine gU 9 O (by kernel_rfl) (eY 0 (l' := [_]) LW.f9 iH O O (by first | rfl | exact Rd.one ((LW).aN)) O O) ?_
   rintro _ YV DC
   have EC := V.kp (DC.f9.f9.f9.f9.f9.f9.f9.f9.f9)
   refine fH EC (by kernel_rfl) ?_
   have X := V.uJ (es := es1) (DC.f6.f6.f9.f9.f9.f6.f7.f9.f9).deep
   have hJn : V w0 YV (Gy b1 G N 0 • eF p (.cells #[EJ, Di, .int .i64 op, .int .i64 (iD G N : Nat), .bool true] 214 (0, 0)) • Row 96 1 EJ rG.length (rG.map (·.1)) • rQ rG • Row 183 3 Di qK.length (qK.flatMap fJ.enc) • nX qK • F) :=
    V.Ov (hs := [(u19, es1)]) (by rw [hN, ← xg, ← hes1]; rfl) (V.wO (gs := []) X.NS.f3.f3.f2).swap
   refine qj ?_
   refine gB (()) ?_ ?_ ?_
   ·exact (Sub.nil _)
   ·exact rP
   ·(try dsimp only)
    first | done | exact hJn
  ·(try simp only [aF] at h2)
   have hN : Si N = [] := if_pos (by rw [← xg, List.eq_nil_of_length_eq_zero (show qK.length = 0 by omega)]; rfl)
   have hJn : V w0 w1 (Gy b1 G N 0 • eF p (.cells #[EJ, Di, .int .i64 op, .int .i64 (iD G N : Nat), .bool true] 214 (0, 0)) • Row 96 1 EJ rG.length (rG.map (·.1)) • rQ rG • Row 183 3 Di qK.length (qK.flatMap fJ.enc) • nX qK • F) :=
    V.Ov (hs := []) (by rw [hN]; rfl) ((uw.f5.f5.f5.f5.f5.f6).IG none).swap
   refine dS ?_
   refine gB (()) ?_ ?_ ?_
   ·exact (Sub.nil _)
   ·exact rP
   ·(try dsimp only)
    first | done | exact hJn
theorem UL (c : Nat) (hB : ∀ g ∈ Ho G N, ∀ e ∈ g, EB e) (hL : ∀ g ∈ Ho G N, g.length ≤ 16384) : Iter prog w0 (.func (.func 144) #[] #[.pointer (some ⟨c, 0, none⟩)]) (Gy c G N G.length) (Ho G N).length
  (fun k vs A => ∃ u, ∃ fs : List fJ, fs.map fJ.says = (Ho G N).getD k [] ∧ vs = [u] ∧ A = MJ u fs) := by
 intro l J X w hy H
 refine ⟨144, [], [.pointer (some ⟨c, 0, none⟩)], _, _, O, func144, O, O, ?_⟩
 obtain ⟨v, hs, VQ, hhl, H1⟩ := H.comm.UJ
 have afK := VQ
 rw [List.take_of_length_le (by simp), ← acN] at VQ
 have hlen : hs.length = (Ho G N).length := by have := congrArg List.length VQ; simpa using this
 obtain ⟨a, d, hv, hc1, hc2, _⟩ := (H1.swap.aN).form
 subst hv
 simp only [List.nil_append, List.cons_append]
 refine YG func144 ntmps144 ?_
 dsimp only [Ad, Nat.reduceAdd]
 refine jw (fB bP O (H1).get.2 O (aW (fV ((H1.f2).aN) bP O) (bT O (jd (bg ?_)))))
 refine gq [(0, _), (5, _), (6, _)] (fun (k : Nat) => [(7, .int .i64 (k : Int))]) (fun (k : Nat) W => k ≤ hs.length ∧ V w0 W (eF c (.cells #[.slice a hs.length d] 163 (0, 0)) • Row 96 1 (.slice a hs.length d) hs.length (hs.map (·.1)) • rQ hs • J k)) (fun (k : Nat) => hs.length - k) (0) Du oO ⟨by omega, H1⟩ ?_
 rintro k w1 ⟨hk, HL⟩
 dsimp only [List.cons_append, List.nil_append]
 refine jw (aW (fG O O) (rV (dA O (fun h1 => ?_) (fun h1 => ?_))))
 ·(try simp only [aF] at h1)
  refine iy (aO (bg (jw ?_)))
  obtain ⟨bv, ov, cv, ev⟩ := Rd.nR ((HL.f2).aN) (by omega)
  cases ev
  refine aW (dD bP bG O O (by omega)) ?_
  refine aW (eG (dn aV O) O (by first | exact Rd.sO ((HL.f2).aN) (by omega) | exact Rd.EF ((HL.f2).aN) (by omega) | exact Rd.Ey ((HL.f2).aN) (by omega))) ?_
  have hkl : k < hs.length := by omega
  rw [show (hs.map (·.1)).getD k undef = (hs.getD k default).1 from by simp [List.getD_eq_getElem?_getD, hkl]]
  obtain ⟨gl, Ac, hg⟩ : ∃ gl Ac, hs.getD k default = (gl, Ac) := ⟨_, _, rfl⟩
  rw [hg]
  have Ho2 := HL.f3
  have Hc3 := Ho2.IY hkl hg
  have hge : Ac.map fJ.says = (Ho G N).getD k [] := by
   rw [← VQ]
   have h9 : (hs.map (fun g => g.2.map fJ.says)).getD k [] = (hs.getD k default).2.map fJ.says := by simp [List.getD_eq_getElem?_getD, hkl]
   rw [h9, hg]
  have hgm : (Ho G N).getD k [] ∈ Ho G N := Bh (by omega)
  have hBg := Uz hge (hB _ hgm)
  have hLg : Ac.length ≤ 16384 := by
   have h7 := congrArg List.length hge
   rw [List.length_map] at h7
   have := hL _ hgm
   omega
  refine iP O (bY O (bT O (fE O func141 (Dj Hc3 hBg hLg) ?_)))
  rintro u4 w4 ⟨fs4, ag2, H4⟩
  obtain ⟨es2, rfl⟩ : ∃ q, q = fs4 := ⟨_, rfl⟩
  have hes2 := ag2
  have Hd5 := H4.f3.right
  refine iY (MS O O (hy k (by omega) _ _ ⟨_, es2, hes2.trans hge, O, O⟩ (rQ hs • Row 96 1 (.slice (some ⟨bv, ov, none⟩) hs.length d) hs.length (hs.map (·.1)) • eF c (.cells #[.slice (some ⟨bv, ov, none⟩) hs.length d] 163 (0, 0))) _ (Hd5.of_eq (by unfold MJ; ac_rfl))).bool) ?_
  rintro _ w6 ⟨t, rfl, ht1, ht2⟩
  refine aW (mG O) (jv O (fun h2 => ?_) (fun h2 => ?_))
  ·(try simp only [aF] at h2)
   have HX := ht2 (by simpa using h2)
   refine mZ (aX (aC (aC (aX (we0 results144 ?_)))))
   exact .inr (V.comm (V.Ov (u := .slice (some ⟨bv, ov, none⟩) hs.length d) afK (HX.of_eq (by unfold He; ac_rfl))))
  ·(try simp only [aF] at h2)
   have HN : V w0 w6 (eF c (.cells #[.slice (some ⟨bv, ov, none⟩) hs.length d] 163 (0, 0)) • Row 96 1 (.slice (some ⟨bv, ov, none⟩) hs.length d) hs.length (hs.map (·.1)) • rQ hs • J (k + 1)) := by
    have h9 := ht1 (by simpa using h2)
    exact h9.of_eq (by ac_rfl)
   refine dS (aP (aZ (aA (aW (fP O O (by omega)) (bT O (bZ ?_))))))
   refine dN (k + 1) ?_ ?_ ?_ ?_
   ·exact oO
   ·exact Du
   ·(try dsimp only)
    first | done | exact ⟨by omega, HN.f3.f3.f3⟩
   ·(try dsimp only); omega
 ·(try simp only [aF] at h1)
  refine eH (aT (aT (bU (kY (.inr O) results144 ?_))))
  obtain rfl : k = hs.length := by omega
  rw [← hlen]
  exact .inl (V.comm (V.Ov (u := .slice a hs.length d) afK (HL.of_eq (by unfold He; ac_rfl))))
end
end Go.Proofs.YtgofgnlkpeghcaaGreatDoor
end
section
namespace Go.Proofs.YtgofgnlkpeghcaaGreatDoor
open Go.RowKit
def KL (P : Int → Nat) (U : Int → List (List kC)) : List Int → HP
  | [] => emp
  | k :: D => jW (P k) (U k) [] 0 • KL P U D
def UM (D : List Int) (P : Int → Nat) : Int → Option Value := fun k => if k ∈ D then some (.pointer (some ⟨P k, 0, none⟩)) else none
theorem wV {P : Int → Nat} {U : Int → List (List kC)} {k : Int} : ∀ {D : List Int}, k ∈ D → KL P U D = (jW (P k) (U k) [] 0 • KL P U (D.erase k))
  | x :: D, h => by
    by_cases e : x = k
    · subst e; rw [List.erase_cons_head]; rfl
    · rw [List.erase_cons_tail (by simpa using e)]
      have hk : k ∈ D := (List.mem_cons.1 h).resolve_left (Ne.symm e)
      show (jW (P x) (U x) [] 0 • KL P U D) = _
      rw [wV hk]
      show (jW (P x) (U x) [] 0 • jW (P k) (U k) [] 0 • KL P U (D.erase k)) = (jW (P k) (U k) [] 0 • (jW (P x) (U x) [] 0 • KL P U (D.erase k)))
      ac_rfl
theorem FW {P P' : Int → Nat} {U U' : Int → List (List kC)} : ∀ {D : List Int}, (∀ k ∈ D, P k = P' k ∧ U k = U' k) → KL P U D = KL P' U' D
  | [], _ => rfl
  | x :: D, h => by
    show (jW (P x) (U x) [] 0 • KL P U D) = (jW (P' x) (U' x) [] 0 • KL P' U' D)
    rw [(h x (by simp)).1, (h x (by simp)).2, FW fun k hk => h k (List.mem_cons_of_mem _ hk)]
def Ag (b : Nat) (U : Int → List (List kC)) : HP := yC fun (x : List Int × (Int → Nat)) => fact (x.1.Nodup ∧ ∀ k, k ∉ x.1 → U k = []) • jM vF b (UM x.1 x.2) • KL x.2 U x.1
def QE (b : Nat) (U : Int → List (List kC)) (k : Int) (p : Nat) : HP := yC fun (x : List Int × (Int → Nat)) => fact (x.1.Nodup ∧ (∀ k, k ∉ x.1 → U k = []) ∧ k ∈ x.1 ∧ x.2 k = p) • jM vF b (UM x.1 x.2) • KL x.2 U (x.1.erase k)
section
variable {w0 w : World} {F : HP} {b p : Nat} {k : Int} {U : Int → List (List kC)} {G : List (List kC)}
theorem V.aaW (H : V w0 w (Ag b U • F)) : ∃ D P, (D : List Int).Nodup ∧ (∀ k, k ∉ D → U k = []) ∧ V w0 w (jM vF b (UM D P) • KL P U D • F) := by
  obtain ⟨⟨D, P⟩, H⟩ := H.pO
  obtain ⟨⟨h1, h2⟩, H⟩ := H.flat.fact
  exact ⟨D, P, h1, h2, H.flat⟩
theorem V.FX {D : List Int} {P : Int → Nat} (h1 : D.Nodup) (h2 : ∀ k, k ∉ D → U k = []) (H : V w0 w (jM vF b (UM D P) • KL P U D • F)) : V w0 w (Ag b U • F) :=
  V.jG (D, P) (V.deep (V.oG ⟨h1, h2⟩ H.deep))
theorem V.aaX {D : List Int} {P : Int → Nat} (h1 : D.Nodup) (h2 : ∀ k, k ∉ D → U k = []) (hk : k ∈ D) (H : V w0 w (jM vF b (UM D P) • KL P U D • F)) : V w0 w (jW (P k) (U k) [] 0 • QE b U k (P k) • F) := by
  have H1 : V w0 w ((jM vF b (UM D P) • KL P U (D.erase k)) • jW (P k) (U k) [] 0 • F) := H.of_eq (by rw [wV hk]; ac_rfl)
  have H2 : V w0 w (QE b U k (P k) • jW (P k) (U k) [] 0 • F) := V.jG (D, P) (V.deep (V.oG ⟨h1, h2, hk, rfl⟩ H1))
  exact H2.swap
theorem V.DK (H : V w0 w (QE b U k p • jW p G [] 0 • F)) : V w0 w (Ag b (sV U k G) • F) := by
  obtain ⟨⟨D, P⟩, H⟩ := H.pO
  obtain ⟨⟨h1, h2, hk, hp⟩, H⟩ := H.flat.fact
  dsimp only at h1 h2 hk hp H
  subst hp
  refine V.FX (D := D) (P := P) h1 (fun x hx => ?_) ?_
  · rw [uK _ _ (by rintro rfl; exact hx hk)]; exact h2 x hx
  · rw [wV (U := sV U k G) hk, kL, FW (P' := P) (U' := U) fun x hx => ⟨rfl, uK _ _ (by rintro rfl; exact (List.Nodup.not_mem_erase h1) hx)⟩]
    exact H.of_eq (by ac_rfl)
end
def vG (t : Int → Option ByteArray) : Int → Option Value := fun k => (t k).map .string
def WM (pb pr pw pt pm : Nat) (c : qQ) : HP := ji pb c.L c.pt c.mark • jV pr c.E c.at_ • eF pw (.cells #[.int .i64 c.place, .map (some pt)] 130 (0, 0)) • jM vF pt (vG c.tx) • Ag pm c.un
def UN (pb pr pw pm : Nat) (c : qQ) : List Value := [.pointer (some ⟨pb, 0, none⟩), .pointer (some ⟨pr, 0, none⟩), .pointer (some ⟨pw, 0, none⟩), .map (some pm), .int .i64 c.mode, .bool c.over, .int .i64 c.last, .int .i64 c.fr, .int .i64 c.to, .int .i64 c.res, .bool c.run]
def zW (inn : Bool) (c : qQ) (u : List Value) : HP := if inn = true then yC fun (x : Nat × Nat × Nat × Nat × Nat) => fact (u = UN x.1 x.2.1 x.2.2.1 x.2.2.2.2 c) • WM x.1 x.2.1 x.2.2.1 x.2.2.2.1 x.2.2.2.2 c else (fact ((u.all fun x => x.oneCell') = true))
def JZ (hl : List oH) (c : qQ) : Prop := 0 ≤ c.place ∧ c.place ≤ hl.length ∧ (∀ k t, c.tx k = some t → t.size ≤ 16384)
def zX (e : kC) : Prop := 0 ≤ e.1 ∧ 0 < e.2.1.length + e.2.2.length ∧ e.2.1.length ≤ 1024 ∧ e.2.2.length ≤ 1024
def pz (s : dw) : Prop := JZ s.hl s.c ∧ (s.inn = true → JZ s.hl s.was ∧ iD (s.was.un s.was.place) [] ≤ 16384 ∧ ∀ k, ∀ g ∈ s.was.un k, ∀ e ∈ g, zX e) ∧ (-1 ≤ s.arg ∧ s.arg ≤ 1000000) ∧ (∀ e ∈ s.put, zX e) ∧ iD s.here s.put ≤ 16384 ∧ (∀ k, ∀ g ∈ s.c.un k, ∀ e ∈ g, zX e)
structure EdP where
  pb : Nat
  pr : Nat
  pw : Nat
  pt : Nat
  pm : Nat
  ph : Nat
  bl : Nat
  pv : Value
  es : List fJ
  u0 : Value
  u1 : Value
  u2 : Value
  u3 : Value
  u4 : Value
  u5 : Value
  u6 : Value
  u7 : Value
  u8 : Value
  u9 : Value
  ua : Value
def EdG (e : Nat) (s : dw) (M : Nat → HP) : HP := yC fun (x : EdP) => fact (pz s ∧ x.es.map fJ.says = s.put) •
  eF e (.cells (.pointer (some ⟨x.pb, 0, none⟩) :: .pointer (some ⟨x.pr, 0, none⟩) :: .pointer (some ⟨x.pw, 0, none⟩) :: .map (some x.pm) :: .int .i64 s.c.mode :: .bool s.c.over :: .int .i64 s.c.last :: .int .i64 s.c.fr :: .int .i64 s.c.to :: .int .i64 s.c.res :: .bool s.c.run :: .pointer (some ⟨x.ph, 0, none⟩) :: .pointer (some ⟨x.bl, 0, none⟩) :: .bool s.given :: .bool s.minus :: .int .i64 s.arg :: .bool s.inn :: x.u0 :: x.u1 :: x.u2 :: x.u3 :: x.u4 :: x.u5 :: x.u6 :: x.u7 :: x.u8 :: x.u9 :: x.ua :: .int .i64 s.cls :: .bool s.nV :: .bool s.lY :: .bool s.argues :: .bool s.whole :: x.pv :: []).toArray 113 (0, 0)) •
  ji x.pb s.c.L s.c.pt s.c.mark • jV x.pr s.c.E s.c.at_ • eF x.pw (.cells #[.int .i64 s.c.place, .map (some x.pt)] 130 (0, 0)) • jM vF x.pt (vG s.c.tx) • M x.pm •
  iI x.ph s.hl s.base s.most • eF x.bl (.cells #[.int .i64 s.sK] 120 (0, 0)) • Row 183 3 x.pv s.put.length (x.es.flatMap fJ.enc) • nX x.es • zW s.inn s.was [x.u0, x.u1, x.u2, x.u3, x.u4, x.u5, x.u6, x.u7, x.u8, x.u9, x.ua]
def jq (e : Nat) (s : dw) : HP := EdG e s fun pm => Ag pm s.c.un
def ag3 (e : Nat) (s : dw) (p : Nat) : HP := EdG e s fun pm => QE pm s.c.un s.c.place p
section
variable {w0 w : World} {F : HP} {e : Nat} {s : dw} {M : Nat → HP}
theorem V.edG (H : V w0 w (EdG e s M • F)) : ∃ pb pr pw pt pm ph bl pv es u0 u1 u2 u3 u4 u5 u6 u7 u8 u9 ua, pz s ∧ es.map fJ.says = s.put ∧ es.length = s.put.length ∧ V w0 w (
  eF e (.cells (.pointer (some ⟨pb, 0, none⟩) :: .pointer (some ⟨pr, 0, none⟩) :: .pointer (some ⟨pw, 0, none⟩) :: .map (some pm) :: .int .i64 s.c.mode :: .bool s.c.over :: .int .i64 s.c.last :: .int .i64 s.c.fr :: .int .i64 s.c.to :: .int .i64 s.c.res :: .bool s.c.run :: .pointer (some ⟨ph, 0, none⟩) :: .pointer (some ⟨bl, 0, none⟩) :: .bool s.given :: .bool s.minus :: .int .i64 s.arg :: .bool s.inn :: u0 :: u1 :: u2 :: u3 :: u4 :: u5 :: u6 :: u7 :: u8 :: u9 :: ua :: .int .i64 s.cls :: .bool s.nV :: .bool s.lY :: .bool s.argues :: .bool s.whole :: pv :: []).toArray 113 (0, 0)) •
  ji pb s.c.L s.c.pt s.c.mark • jV pr s.c.E s.c.at_ • eF pw (.cells #[.int .i64 s.c.place, .map (some pt)] 130 (0, 0)) • jM vF pt (vG s.c.tx) • M pm •
  iI ph s.hl s.base s.most • eF bl (.cells #[.int .i64 s.sK] 120 (0, 0)) • Row 183 3 pv s.put.length (es.flatMap fJ.enc) • nX es • zW s.inn s.was [u0, u1, u2, u3, u4, u5, u6, u7, u8, u9, ua] • F) := by
  obtain ⟨⟨pb, pr, pw, pt, pm, ph, bl, pv, es, u0, u1, u2, u3, u4, u5, u6, u7, u8, u9, ua⟩, H⟩ := H.pO
  obtain ⟨⟨h1, h2⟩, H⟩ := H.flat.fact
  refine ⟨pb, pr, pw, pt, pm, ph, bl, pv, es, u0, u1, u2, u3, u4, u5, u6, u7, u8, u9, ua, h1, h2, ?_, ?_⟩
  · rw [← h2]; simp
  · dsimp only at H
    exact H.of_eq (by simp only [dK])
theorem V.aee {pb pr pw pt pm ph bl : Nat} {pv : Value} {es : List fJ} {u0 u1 u2 u3 u4 u5 u6 u7 u8 u9 ua : Value} (h1 : pz s) (h2 : es.map fJ.says = s.put) (H : V w0 w (
  eF e (.cells (.pointer (some ⟨pb, 0, none⟩) :: .pointer (some ⟨pr, 0, none⟩) :: .pointer (some ⟨pw, 0, none⟩) :: .map (some pm) :: .int .i64 s.c.mode :: .bool s.c.over :: .int .i64 s.c.last :: .int .i64 s.c.fr :: .int .i64 s.c.to :: .int .i64 s.c.res :: .bool s.c.run :: .pointer (some ⟨ph, 0, none⟩) :: .pointer (some ⟨bl, 0, none⟩) :: .bool s.given :: .bool s.minus :: .int .i64 s.arg :: .bool s.inn :: u0 :: u1 :: u2 :: u3 :: u4 :: u5 :: u6 :: u7 :: u8 :: u9 :: ua :: .int .i64 s.cls :: .bool s.nV :: .bool s.lY :: .bool s.argues :: .bool s.whole :: pv :: []).toArray 113 (0, 0)) •
  ji pb s.c.L s.c.pt s.c.mark • jV pr s.c.E s.c.at_ • eF pw (.cells #[.int .i64 s.c.place, .map (some pt)] 130 (0, 0)) • jM vF pt (vG s.c.tx) • M pm •
  iI ph s.hl s.base s.most • eF bl (.cells #[.int .i64 s.sK] 120 (0, 0)) • Row 183 3 pv s.put.length (es.flatMap fJ.enc) • nX es • zW s.inn s.was [u0, u1, u2, u3, u4, u5, u6, u7, u8, u9, ua] • F)) : V w0 w (EdG e s M • F) :=
  V.jG ⟨pb, pr, pw, pt, pm, ph, bl, pv, es, u0, u1, u2, u3, u4, u5, u6, u7, u8, u9, ua⟩ (V.deep (V.oG ⟨h1, h2⟩ (H.of_eq (by simp only [dK]))))
theorem V.jX {pb pr pw pt pm ph bl : Nat} {pv : Value} {es : List fJ} {u0 u1 u2 u3 u4 u5 u6 u7 u8 u9 ua : Value} (h1 : pz s) (h2 : es.map fJ.says = s.put) (H : V w0 w (
  eF e (.cells (.pointer (some ⟨pb, 0, none⟩) :: .pointer (some ⟨pr, 0, none⟩) :: .pointer (some ⟨pw, 0, none⟩) :: .map (some pm) :: .int .i64 s.c.mode :: .bool s.c.over :: .int .i64 s.c.last :: .int .i64 s.c.fr :: .int .i64 s.c.to :: .int .i64 s.c.res :: .bool s.c.run :: .pointer (some ⟨ph, 0, none⟩) :: .pointer (some ⟨bl, 0, none⟩) :: .bool s.given :: .bool s.minus :: .int .i64 s.arg :: .bool s.inn :: u0 :: u1 :: u2 :: u3 :: u4 :: u5 :: u6 :: u7 :: u8 :: u9 :: ua :: .int .i64 s.cls :: .bool s.nV :: .bool s.lY :: .bool s.argues :: .bool s.whole :: pv :: []).toArray 113 (0, 0)) •
  ji pb s.c.L s.c.pt s.c.mark • jV pr s.c.E s.c.at_ • eF pw (.cells #[.int .i64 s.c.place, .map (some pt)] 130 (0, 0)) • jM vF pt (vG s.c.tx) • Ag pm s.c.un •
  iI ph s.hl s.base s.most • eF bl (.cells #[.int .i64 s.sK] 120 (0, 0)) • Row 183 3 pv s.put.length (es.flatMap fJ.enc) • nX es • zW s.inn s.was [u0, u1, u2, u3, u4, u5, u6, u7, u8, u9, ua] • F)) : V w0 w (jq e s • F) := V.aee (M := fun pm => Ag pm s.c.un) h1 h2 H
theorem V.Ox (H : V w0 w (jq e s • F)) : ∃ pb pr pw pt pm ph bl pv es u0 u1 u2 u3 u4 u5 u6 u7 u8 u9 ua, pz s ∧ es.map fJ.says = s.put ∧ es.length = s.put.length ∧ V w0 w (
  eF e (.cells (.pointer (some ⟨pb, 0, none⟩) :: .pointer (some ⟨pr, 0, none⟩) :: .pointer (some ⟨pw, 0, none⟩) :: .map (some pm) :: .int .i64 s.c.mode :: .bool s.c.over :: .int .i64 s.c.last :: .int .i64 s.c.fr :: .int .i64 s.c.to :: .int .i64 s.c.res :: .bool s.c.run :: .pointer (some ⟨ph, 0, none⟩) :: .pointer (some ⟨bl, 0, none⟩) :: .bool s.given :: .bool s.minus :: .int .i64 s.arg :: .bool s.inn :: u0 :: u1 :: u2 :: u3 :: u4 :: u5 :: u6 :: u7 :: u8 :: u9 :: ua :: .int .i64 s.cls :: .bool s.nV :: .bool s.lY :: .bool s.argues :: .bool s.whole :: pv :: []).toArray 113 (0, 0)) •
  ji pb s.c.L s.c.pt s.c.mark • jV pr s.c.E s.c.at_ • eF pw (.cells #[.int .i64 s.c.place, .map (some pt)] 130 (0, 0)) • jM vF pt (vG s.c.tx) • Ag pm s.c.un •
  iI ph s.hl s.base s.most • eF bl (.cells #[.int .i64 s.sK] 120 (0, 0)) • Row 183 3 pv s.put.length (es.flatMap fJ.enc) • nX es • zW s.inn s.was [u0, u1, u2, u3, u4, u5, u6, u7, u8, u9, ua] • F) := H.edG
end
end Go.Proofs.YtgofgnlkpeghcaaGreatDoor
end
section
namespace Go.Proofs.YtgofgnlkpeghcaaGreatDoor
open Go.RowKit
open _root_.Go.Proofs.Tryz
def UO {β : Type} (f : Int → Option β) (S : List Int) : Int → Option β := fun k => if k ∈ S then f k else none
theorem aaY {β : Type} (f : Int → Option β) : UO f [] = fun _ => none := by funext k; simp [UO]
theorem Y8 {β : Type} {f : Int → Option β} {S : List Int} {a : Int} {u : β} (h : f a = some u) : UO f (S ++ [a]) = upd (UO f S) a u := by
  funext k
  unfold UO upd
  by_cases hk : k = a
  · subst hk; simp [h]
  · simp [hk]
theorem aaZ {β : Type} {f : Int → Option β} {S : List Int} (h : ∀ a u, f a = some u → a ∈ S) : UO f S = f := by
  funext k
  unfold UO
  split
  · rfl
  · rename_i hk
    cases hf : f k with
    | none => rfl
    | some u => exact absurd (h k u hf) hk
theorem X8 (P : Int → Nat) : UM [] P = fun _ => none := by funext k; simp [UM]
theorem aa0 {D : List Int} {P : Int → Nat} {a : Int} {u : Value} (h : UM D P a = some u) : a ∈ D ∧ u = .pointer (some ⟨P a, 0, none⟩) := by
  unfold UM at h
  split at h
  · rename_i hm; exact ⟨hm, by cases h; rfl⟩
  · cases h
theorem UQ {S : List Int} {P : Int → Nat} {a : Int} {q : Nat} (h : a ∉ S) : UM (S ++ [a]) (sV P a q) = upd (UM S P) a (.pointer (some ⟨q, 0, none⟩)) := by
  funext k
  unfold UM upd sV
  by_cases hk : k = a
  · subst hk; simp
  · simp [hk]
theorem Oy {P : Int → Nat} {U : Int → List (List kC)} {a : Int} : ∀ {S : List Int}, KL P U (S ++ [a]) = (KL P U S • jW (P a) (U a) [] 0)
  | [] => by show (jW (P a) (U a) [] 0 • emp) = (emp • jW (P a) (U a) [] 0); rw [xK, qL]
  | x :: S => by
    show (jW (P x) (U x) [] 0 • KL P U (S ++ [a])) = ((jW (P x) (U x) [] 0 • KL P U S) • jW (P a) (U a) [] 0)
    rw [Oy, dK]
theorem QF {α : Type} {o : Option α} (h : ¬ o.isSome = true) : o = none := by cases o <;> simp_all
theorem Oz {S : List Int} {a : Int} (h : S.Nodup) (ha : a ∉ S) : (S ++ [a]).Nodup := by
  rw [List.nodup_append]
  exact ⟨h, by simp, by intro x hx y hy; rw [List.mem_singleton.1 hy]; rintro rfl; exact ha hx⟩
section
variable {w0 w : World} {F : HP} {pb pr pw pt pm : Nat} {c : qQ}
theorem aa1 (H : V w0 w (ji pb c.L c.pt c.mark • jV pr c.E c.at_ • eF pw (.cells #[.int .i64 c.place, .map (some pt)] 130 (0, 0)) • jM vF pt (vG c.tx) • Ag pm c.un • F)) :
  iM prog 56 #[.agg #[.pointer (some ⟨pb, 0, none⟩), .pointer (some ⟨pr, 0, none⟩), .pointer (some ⟨pw, 0, none⟩), .map (some pm), .int .i64 c.mode, .bool c.over, .int .i64 c.last, .int .i64 c.fr, .int .i64 c.to, .int .i64 c.res, .bool c.run]] w fun v w' =>
   ∃ qb qr qw qt qm, v = .agg #[.pointer (some ⟨qb, 0, none⟩), .pointer (some ⟨qr, 0, none⟩), .pointer (some ⟨qw, 0, none⟩), .map (some qm), .int .i64 c.mode, .bool c.over, .int .i64 c.last, .int .i64 c.fr, .int .i64 c.to, .int .i64 c.res, .bool c.run] ∧
    V w0 w' (ji qb c.L c.pt c.mark • jV qr c.E c.at_ • eF qw (.cells #[.int .i64 c.place, .map (some qt)] 130 (0, 0)) • jM vF qt (vG c.tx) • Ag qm c.un •
     ji pb c.L c.pt c.mark • jV pr c.E c.at_ • eF pw (.cells #[.int .i64 c.place, .map (some pt)] 130 (0, 0)) • jM vF pt (vG c.tx) • Ag pm c.un • F) := by
 refine iQ func56 ntmps56 ?_
 refine jw (iY (jo (l := [_, _, _, _, _, _, _, _, _, _, _]) H O O) ?_)
 rintro _ w1 ⟨b1, rfl, H1⟩
 refine iY (fK (l := [_, _, _, _, _, _, _, _, _, _, _]) H1 oK O) ?_
 rintro _ w2 ⟨b2, rfl, H2⟩
 refine rV ?_
 have IC := H2.drew
 have jk := V.kp (IC.f7.f7.f7.f7.f7.f7.f7)
 refine uU [1, 4] jk O (fQ 0 O jk 0 aK O oh O (iO 1 O jk (fun W hW => jT lX O ((Kp.h hW).f2).get.2 O) (fQ 3 O jk 1 aK O sizeOf106 O (iO 4 O jk (fun W hW => jT underlying106 O ((Kp.h hW).f2).get.2 O) (lU 2 O (wY O func99 (PI IC.f3)) ?_)))))
 rintro _ w3 ⟨q3, rfl, H3⟩
 have nT := V.kp (H3.f8.f8.f8.f8.f8.f8.f8.f8)
 refine dZ nT (fun W hW => (Kp.h hW).right.f7.f7.f7.f7.f5.f7.f7) ?_
 refine fQ 6 O nT 0 aK O oh O (lU 5 O (wY O func100 (E5 H3.f5)) ?_)
 rintro _ w4 ⟨pc4, rfl, H4⟩
 have uZ := V.kp (H4.f9.f9.f9.f9.f9.f9.f9.f9.f9)
 refine fH uZ (by kernel_rfl) ?_
 refine gU 7 O (by kernel_rfl) (eY 0 (l' := [_, _, _, _, _, _, _, _, _, _, _]) H4.f6 oh O O (by first | rfl | assumption) O O) ?_
 rintro _ w5 H5
 have vw := V.kp (H5.f9.f9.f9.f9.f9.f9.f9.f9.f9)
 refine fH vw (by kernel_rfl) ?_
 refine fQ 8 O vw 1 aK O sizeOf106 O ?_
 refine gU 9 O (by kernel_rfl) (eY 1 (l' := [_, _, _, _, _, _, _, _, _, _, _]) H5 sizeOf106 O O (by first | rfl | assumption) O O) ?_
 rintro _ w6 H6
 have wJ := V.kp (H6.f9.f9.f9.f9.f9.f9.f9.f9.f9)
 refine fH wJ (by kernel_rfl) ?_
 refine qj (aZ (jw (bn 2 aK O lK O (fB jr O (H6).get.2 O (dO O (bn 0 fF O aj O (fB aB O (H6.f7).get.2 O (iY (pq (Gj .i64) H6) ?_))))))))
 rintro _ w7 ⟨b7, rfl, H7⟩
 refine aW (jB (pl := #[(0, 1), (1, 1)]) (#[_, _]) fF rH (fun w => by kernel_rfl) O (O)) (iY (jo (l := [_, _]) H7 O O) ?_)
 rintro _ w8 ⟨b8, rfl, H8⟩
 refine sS O (jw (bn 2 aK O lK O (fB jr O (H8.f3).get.2 O (dO O (bn 1 fF O sizeOf128 O (fB oV O (H8.f9).get.2 O (iY (KJ H8.f10 oV O) ?_)))))))
 rintro _ w9 ⟨it9, mi, rfl, H9⟩
 refine jd (bg ?_)
 obtain ⟨R10, ag4, ag5⟩ := V.Nl (H9.f2.f3.f3)
 have HX0 := ag5
 rw [← aaY (vG c.tx)] at HX0
 refine gq [(1, _), (2, _), (3, _), (30, _)] (fun (⟨S, n⟩ : List Int × Nat) => []) (fun (⟨S, n⟩ : List Int × Nat) W => V w0 W (I5 vF pt it9 (vG c.tx) S n • jM vF b7 (UO (vG c.tx) S) • eF b8 (.cells #[.int .i64 c.place, .map (some b7)] 130 (0, 0)) • R10)) (fun (⟨S, n⟩ : List Int × Nat) => n) (([], _)) Wh (Sub.nil _) HX0 ?_
 rintro ⟨S, n⟩ Iq HL
 dsimp only [List.cons_append, List.nil_append]
 refine jw (iY (Ou HL O) ?_)
 rintro _ w12 ⟨ox, Sx, mx, rfl, hNx, tN⟩
 refine aW (adu O) (rV (dA O (fun h1 => ?_) (fun h1 => ?_)))
 ·(try simp only [aF] at h1)
  obtain ⟨⟨a, u⟩, rfl⟩ := Option.isSome_iff_exists.1 h1
  obtain ⟨ha, hns, hlt, rfl⟩ := hNx
  refine iy (bg (jw ?_))
  refine aW (X7 (tN) (by assumption) O) ?_
  refine sD O O (sD O O (iC O (iP O (aA (mJ O O (bn 1 fF O sizeOf128 O (fB oV O (tN.f3).get.2 O (jy O O (aI (CP tN.f2 oV aB O O O) ?_)))))))))
  rintro _ Qz Ak
  refine bZ (aP ?_)
  have hres := Y8 (S := S) ha
  refine dN ((S ++ [a], mx)) ?_ ?_ ?_ ?_
  ·exact (Sub.nil _)
  ·exact Wh
  ·(try dsimp only)
   first | done | exact (by rw [hres]; exact Ak.f3.f2.f3)
  ·(try dsimp only); omega
 ·(try simp only [aF] at h1)
  obtain rfl := QF (o := ox) (by simp [h1])
  obtain ⟨rfl, rfl, hall⟩ := hNx
  refine eH (aT ?_)
  have HX := tN.f3.f2.f3
  rw [aaZ hall] at HX
  have Sv := HX.f2
  have Sz := Sv.QD
  subst ag4
  refine aT (bU (aZ (bY O (bn 2 aK O lK O (aI (eY 2 (l' := [_, _, _, _, _, _, _, _, _, _, _]) Sz.f4 lK O O (by first | rfl | assumption) O O) ?_)))))
  rintro _ w16 yj
  refine YK (iY (pq (Gj .i64) yj) ?_)
  rintro _ w17 ⟨b17, rfl, EH⟩
  refine sS O (aO ?_)
  obtain ⟨D, P, hD1, hD2, HU⟩ := (EH.f12).aaW
  refine aA (bn 3 aK O sizeOf108 O (fB nD O (HU.f4).get.2 O (iY (KJ HU nD O) ?_)))
  rintro _ ZN ⟨ag6, mi, rfl, EM⟩
  refine jd (bg ?_)
  obtain ⟨R19, ag7, ag8⟩ := V.Nl (EM.f3.f3.f3)
  have HX0 := ag8
  rw [← X8 P] at HX0
  refine gq [(1, _), (2, _), (6, _), (47, _)] (fun (⟨S, n, P2⟩ : List Int × Nat × (Int → Nat)) => []) (fun (⟨S, n, P2⟩ : List Int × Nat × (Int → Nat)) W => S.Nodup ∧ V w0 W (I5 vF pm ag6 (UM D P) S n • KL P c.un D • jM vF b17 (UM S P2) • KL P2 c.un S • R19)) (fun (⟨S, n, P2⟩ : List Int × Nat × (Int → Nat)) => n) (([], _, P)) Wh (Sub.nil _) ⟨List.nodup_nil, (HX0).of_eq (by show _ = (_ • _ • _ • emp • _); rw [qL])⟩ ?_
  rintro ⟨S, n, P2⟩ YT ⟨hS, HL⟩
  dsimp only [List.cons_append, List.nil_append]
  refine jw (iY (Ou HL O) ?_)
  rintro _ YU ⟨ox, Sx, mx, rfl, hNx, wG⟩
  refine aW (adu O) (rV (dA O (fun h2 => ?_) (fun h2 => ?_)))
  ·(try simp only [aF] at h2)
   obtain ⟨⟨a, u⟩, rfl⟩ := Option.isSome_iff_exists.1 h2
   obtain ⟨ha, hns, hlt, rfl⟩ := hNx
   obtain ⟨hmem, rfl⟩ := aa0 ha
   have HF := wG.f2
   rw [wV hmem] at HF
   have HF2 := HF.flat
   refine iy (bg (jw ?_))
   refine aW (X7 (HF2.f3) (by assumption) O) ?_
   refine sD O O (sD O O (iC O (iP O (aA (jy O O (bT O (fE O func101 (Ol HF2) ?_)))))))
   rintro _ w22 ⟨q22, rfl, IQ⟩
   refine aI (CP IQ.f5 nD aB O O O) ?_
   rintro _ YV DC
   refine bZ (aP ?_)
   have HQ := DC.f2.f6.f3.f5.f5.f6
   have hu1 : KL (sV P2 a q22) c.un (S ++ [a]) = (KL P2 c.un S • jW q22 (c.un a) [] 0) := by
    rw [Oy, kL, FW (P' := P2) (U' := c.un) fun x hx => ⟨uK _ _ (by rintro rfl; exact hns hx), rfl⟩]
   refine dN ((S ++ [a], mx, sV P2 a q22)) ?_ ?_ ?_ ?_
   ·exact (Sub.nil _)
   ·exact Wh
   ·(try dsimp only)
    first | done | exact ⟨Oz hS hns, HQ.of_eq (by rw [wV hmem, hu1, UQ hns]; ac_rfl)⟩
   ·(try dsimp only); omega
  ·(try simp only [aF] at h2)
   obtain rfl := QF (o := ox) (by simp [h2])
   obtain ⟨rfl, rfl, hall⟩ := hNx
   refine eH (aT ?_)
   have aef := wG
   have aeg := aef.QD
   subst ag7
   have aeh := aeg.f2.f2
   have aei := V.FX hD1 hD2 aeh
   have hnS : ∀ k, k ∉ Sx → c.un k = [] := fun k hk => hD2 k fun hkD => hk (hall k _ (if_pos hkD))
   have ag9 := aei.f3.f3
   have aha := V.FX hS hnS ag9
   refine aT (bU (aZ (bY O (bn 3 aK O sizeOf108 O (aI (eY 3 (l' := [_, _, _, _, _, _, _, _, _, _, _]) aha.f3 sizeOf108 O O (by first | rfl | assumption) O O) ?_)))))
   rintro _ w30 PG
   refine YK (aW (dI aK O aS O O (PG).get.2) (aI (dG 0 (l' := [_, _, _, _, _, _, _, _, _, _, _]) (us := [_, _, _, _, _, _, _, _, _, _, _]) PG.f11 aS O O O (aG (aG (aG (aG (aG (aG (aG (aG (aG (aG (aG bK))))))))))) O O) ?_))
   rintro _ w31 Rz
   refine zkc ?_
   refine rW (.inl O) (Lr results56 O aK O (by rw [aej]; rfl) (Rz).get.2) ?_
   exact ⟨_, _, _, _, _, O, Rz.right.right.f2.f3.f10.f8.f10.f6.f7.f8.f9.f10⟩
end
def OA (D : List Int) (P : Int → Nat) (k : Int) : Option Addr := if k ∈ D then some ⟨P k, 0, none⟩ else none
theorem X9 (D : List Int) (P : Int → Nat) (k : Int) : (UM D P k).getD (.pointer none) = .pointer (OA D P k) := by unfold UM OA; split <;> rfl
theorem UR {D : List Int} {P : Int → Nat} {k : Int} (h : k ∈ D) : OA D P k = some ⟨P k, 0, none⟩ := if_pos h
theorem Y9 {D : List Int} {P : Int → Nat} {k : Int} (h : (OA D P k).isNone = false) : k ∈ D := by
  unfold OA at h
  split at h
  · assumption
  · cases h
theorem Za {D : List Int} {P : Int → Nat} {k : Int} (h : (OA D P k).isNone = true) : k ∉ D := by
  unfold OA at h
  split at h
  · cases h
  · assumption
theorem MW {s : dw} (h : ¬ s.DI = 0) : s.inn = false ∧ s.DI = 1 := by
  unfold dw.DI at *
  cases hi : s.inn <;> simp_all
theorem I9 {s : dw} (h : s.DI = 0) : s.inn = true := by
  unfold dw.DI at h
  cases hi : s.inn <;> simp_all
theorem V.ahb {w0 w : World} {A B C F : HP} (H : V w0 w (A • B • C • F)) : V w0 w (A • (B • C) • F) := H.of_eq (by rw [dK])
section
variable {w0 w : World} {F : HP} {e p : Nat} {s : dw}
theorem zY (H : V w0 w (jq e s • F)) : iM prog 49 #[.pointer (some ⟨e, 0, none⟩)] w fun v w' => v = .bool false ∧ w = w' := by
 refine iQ func49 ntmps49 ?_
 refine kQ O (aO ?_)
 obtain ⟨Ap, Aq, Ar, Au, Aw, Az, AA, AB, yE, xk, xq, xu, xw, xA, xB, xC, xE, xG, xH, xI, jf, dX, nG, kF⟩ := (H).Ox
 refine aA (bT O (aW (iJ lZ O O) (mX O (fun h1 => ?_) (fun h1 => ?_))))
 ·(try simp only [aF] at h1)
  exfalso; first | contradiction | omega
 ·(try simp only [aF] at h1)
  refine bW (bT O (bW (dO O (bW (bn 11 ah O sizeOf54 O (bW (fB lu O (kF).get.2 O (bW (aW (iJ lu O O) (kX O O (ig O (fD results49 O ?_))))))))))))
  exact ⟨O, O⟩
theorem uN (H : V w0 w (jq e s • F)) : iM prog 57 #[.pointer (some ⟨e, 0, none⟩)] w fun v w' => v = .int .i64 s.DI ∧ w = w' := by
 unfold dw.DI
 refine iQ func57 ntmps57 ?_
 refine kQ O (aO (bg (bY O (fE O func49 (zY H) ?_))))
 rintro _ _ ⟨rfl, rfl⟩
 refine iP O (vS (aO ?_))
 obtain ⟨Ap, Aq, Ar, Au, Aw, Az, AA, AB, yE, xk, xq, xu, xw, xA, xB, xC, xE, xG, xH, xI, jf, dX, nG, kF⟩ := (H).Ox
 refine aA (mJ O O (bn 16 ah O aQ O (fB cZ O (kF).get.2 O (aW (mG O) (iP O (dA O (fun h1 => ?_) (fun h1 => ?_)))))))
 ·(try simp only [aF] at h1)
  refine mP O (aX (aC (fD results57 O ?_)))
  exact ⟨by simp [*], O⟩
 ·(try simp only [aF] at h1)
  refine dS (aP (aZ (mP O (fD results57 O ?_))))
  exact ⟨by simp [*], O⟩
theorem Fe {x0 x1 x4 x5 x6 x7 x8 x9 x10 x11 x12 tZ x14 x15 x16 x17 x18 x19 x20 x21 uq x23 x24 x25 uz x27 x28 x29 x30 x31 x32 uX : Value} {pw pt pm : Nat} {k : Int} {U : Int → List (List kC)} (H : V w0 w (eF e (.cells (x0 :: x1 :: .pointer (some ⟨pw, 0, none⟩) :: .map (some pm) :: x4 :: x5 :: x6 :: x7 :: x8 :: x9 :: x10 :: x11 :: x12 :: tZ :: x14 :: x15 :: x16 :: x17 :: x18 :: x19 :: x20 :: x21 :: uq :: x23 :: x24 :: x25 :: uz :: x27 :: x28 :: x29 :: x30 :: x31 :: x32 :: uX :: []).toArray 113 (0, 0)) • eF pw (.cells #[.int .i64 k, .map (some pt)] 130 (0, 0)) • Ag pm U • F)) : iM prog 103 #[.pointer (some ⟨e, 0, none⟩)] w fun v w' => ∃ p, v = .pointer (some ⟨p, 0, none⟩) ∧
  V w0 w' (jW p (U k) [] 0 • QE pm U k p • eF e (.cells (x0 :: x1 :: .pointer (some ⟨pw, 0, none⟩) :: .map (some pm) :: x4 :: x5 :: x6 :: x7 :: x8 :: x9 :: x10 :: x11 :: x12 :: tZ :: x14 :: x15 :: x16 :: x17 :: x18 :: x19 :: x20 :: x21 :: uq :: x23 :: x24 :: x25 :: uz :: x27 :: x28 :: x29 :: x30 :: x31 :: x32 :: uX :: []).toArray 113 (0, 0)) • eF pw (.cells #[.int .i64 k, .map (some pt)] 130 (0, 0)) • F) := by
 refine iQ func103 ntmps103 ?_
 refine kQ O (aO ?_)
 obtain ⟨D, P, hD1, hD2, HU⟩ := (H.f3).aaW
 have OB := HU.drew
 have lS := V.kp (OB.f4.f4.f4.f4)
 refine uU [4, 9, 12, 13] lS O (gQ 0 O lS O (jQ 1 O lS O (fQ 2 O lS 0 ah O aS O (fQ 3 O lS 3 aK O sizeOf108 O (iO 4 O lS (fun W hW => jT nD O ((Kp.h hW).f3).get.2 O) (gQ 5 O lS O (jQ 6 O lS O (fQ 7 O lS 0 ah O aS O (fQ 8 O lS 2 aK O lK O (iO 9 O lS (fun W hW => jT jr O ((Kp.h hW).f3).get.2 O) (jQ 10 O lS O (fQ 11 O lS 0 fF O aj O (iO 12 O lS (fun W hW => jT aB O ((Kp.h hW).f4).get.2 O) (iO 13 O lS (fun W hW => EP (UF ((Kp.h hW)) nD aB zeroValue174 O O) (X9 D P k)) (iL 14 O lS (fun _ => fU O) (qj (aZ (aO (bY O (aW (iJ underlying174 O O) (jv O (fun h1 => ?_) (fun h1 => ?_))))))))))))))))))))))
 ·(try simp only [aF] at h1)
  have hnm := Za h1
  refine jw (fE O func142 (RI OB) ?_)
  rintro _ w1 ⟨p1, rfl, H1⟩
  refine iP O ?_
  have afL := H1.drew
  have BN := V.kp (afL.f5.f5.f5.f5.f5)
  refine uU [4, 9, 12] BN O (gQ 0 O BN O (jQ 1 O BN O (fQ 2 O BN 0 ah O aS O (fQ 3 O BN 3 aK O sizeOf108 O (iO 4 O BN (fun W hW => jT nD O ((Kp.h hW).f4).get.2 O) (gQ 5 O BN O (jQ 6 O BN O (fQ 7 O BN 0 ah O aS O (fQ 8 O BN 2 aK O lK O (iO 9 O BN (fun W hW => jT jr O ((Kp.h hW).f4).get.2 O) (jQ 10 O BN O (fQ 11 O BN 0 fF O aj O (iO 12 O BN (fun W hW => jT aB O ((Kp.h hW).f5).get.2 O) (gQ 13 O BN O ?_))))))))))))))
  refine gU 14 O (by kernel_rfl) (CP afL.f2 nD aB O O O) ?_
  rintro _ w2 H2
  have zT := V.kp (H2.f5.f5.f5.f5.f5)
  refine fH zT (by kernel_rfl) ?_
  refine qj (aZ (bY O (ig O (fD results103 O ?_))))
  have hu1 : KL (sV P k p1) U (D ++ [k]) = (KL P U D • jW p1 [] [] 0) := by
   rw [Oy, kL, hD2 _ hnm, FW (P' := P) (U' := U) fun x hx => ⟨uK _ _ (by rintro rfl; exact hnm hx), rfl⟩]
  have HM := V.ahb H2.f5.f5.f4.f5.f5
  rw [← hu1, ← UQ hnm] at HM
  have HZ := V.aaX (k := k) (Oz hD1 hnm) (fun k hk => hD2 k fun hm => hk (by simp [hm])) (by simp) HM
  rw [kL] at HZ
  exact ⟨_, O, HZ⟩
 ·(try simp only [aF] at h1)
  have hmem := Y9 h1
  rw [UR hmem]
  refine iy (bY O (ig O (fD results103 O ?_)))
  exact ⟨_, O, V.aaX hD1 hD2 hmem OB.f4.f4.f4.f4⟩
theorem V.SA {b p : Nat} {k : Int} {U : Int → List (List kC)} (H : V w0 w (QE b U k p • jW p (U k) [] 0 • F)) : V w0 w (Ag b U • F) := by
  have := H.DK
  rwa [acO] at this
end
end Go.Proofs.YtgofgnlkpeghcaaGreatDoor
end
section
namespace Go.Proofs.YtgofgnlkpeghcaaGreatDoor
open Go.RowKit Go.Lib
section
variable {P : Program} {L : List (Nat × Value)} {w0 w : World} {F : HP} {ty : TypeId} {b : Nat} {v d : Int} {t : TypeId}
theorem adw {T : Value → World → Prop} {f : FuncId} {args : List Operand} {ts : Array TypeId} {vs : List Value} {fn : Func} {e : Array Value → Sem Value} {v : Value} {w' : World} (ha : JD L args = some vs)
    (hf : P.funcs[f]? = some fn) (hname : (fn.name == "runtime.NumGoroutine") = false) (hb : fn.body.isNone = true) (hn : Extern.findNext fn = none) (he : Extern.find fn = some e) (hr : (e vs.toArray).run P w = .ok v w') (ht : T v w') :
    zB P L (.call ⟨.value (.func f), args.toArray, ts⟩) ty w T := wM (v := v) (w' := w') (fun ρ hρ _ _ _ _ => by
  have hg : ρ (.func f) = .func (.func f) #[] #[] := hρ _ _ rfl
  have hc := run_callFunc_extern hf hname hb hn he vs.toArray w
  rw [hr] at hc
  simp [execOp, resolve, invoke, evs hρ _ _ ha, hg, Deferred.ofValue]
  exact hc) ht
theorem WO (hc : w.cell? ⟨b, 0, none⟩ = some (.int .i64 v)) : (Extern.Atomic.loadT (.int .i64) #[.pointer (some ⟨b, 0, none⟩)]).run P w = .ok (.int .i64 v) w := by
  change Sem.run P (do Extern.Atomic.read (.int .i64) (← asAddr (.pointer (some ⟨b, 0, none⟩)))) w = _
  simp [Extern.Atomic.read, asAddr, hc, Result.andThen]
theorem acQ {f : FuncId} {args : List Operand} {ts : Array TypeId} {fn : Func} (H : V w0 w (eF b (.cells #[.int .i64 v] t (0, 0)) • F)) (ha : JD L args = some [.pointer (some ⟨b, 0, none⟩), .int .i64 d])
    (hf : P.funcs[f]? = some fn) (hname : (fn.name == "runtime.NumGoroutine") = false) (hb : fn.body.isNone = true) (hn : Extern.findNext fn = none) (he : Extern.find fn = some (Extern.Atomic.update (Op.intArith .add) .i64 true)) :
    zB P L (.call ⟨.value (.func f), args.toArray, ts⟩) ty w fun u w' => u = .int .i64 (IntKind.i64.wrap (v + d)) ∧ V w0 w' (eF b (.cells #[.int .i64 (IntKind.i64.wrap (v + d))] t (0, 0)) • F) :=
  adw ha hf hname hb hn he (Conc.run_add_entry (nN H.get.2 rfl) (KC H.get.2)) ⟨rfl, H.setCell (i := 0) _⟩
theorem aa2 {f : FuncId} {args : List Operand} {ts : Array TypeId} {fn : Func} (H : V w0 w (eF b (.cells #[.int .i64 v] t (0, 0)) • F)) (ha : JD L args = some [.pointer (some ⟨b, 0, none⟩)])
    (hf : P.funcs[f]? = some fn) (hname : (fn.name == "runtime.NumGoroutine") = false) (hb : fn.body.isNone = true) (hn : Extern.findNext fn = none) (he : Extern.find fn = some (Extern.Atomic.loadT (.int .i64))) :
    zB P L (.call ⟨.value (.func f), args.toArray, ts⟩) ty w fun u w' => u = .int .i64 v ∧ w = w' :=
  adw ha hf hname hb hn he (WO (nN H.get.2 rfl)) ⟨rfl, rfl⟩
theorem Ja (H : V w0 w (eF b (.cells #[.int .i64 v] t (0, 0)) • F)) : iM Tryz.prog 58 #[.pointer (some ⟨b, 0, none⟩), .int .i64 d] w fun u w' => u = .int .i64 (IntKind.i64.wrap (v + d)) ∧ V w0 w' (eF b (.cells #[.int .i64 (IntKind.i64.wrap (v + d))] t (0, 0)) • F) := by
  refine qI Tryz.func58 Tryz.ntmps58 ?_
  refine kQ O (bY O (dO O (bn 0 Tryz.underlying120 O oQ O (bT O (iY (acQ H O Tryz.func102 O O (by kernel_rfl) (by kernel_rfl)) ?_)))))
  rintro _ w1 ⟨rfl, H1⟩
  refine ig O (fD Tryz.results58 O ?_)
  exact ⟨O, H1⟩
theorem tV (H : V w0 w (eF b (.cells #[.int .i64 v] t (0, 0)) • F)) : iM Tryz.prog 86 #[.pointer (some ⟨b, 0, none⟩)] w fun u w' => u = .int .i64 v ∧ w = w' := by
  refine iQ Tryz.func86 Tryz.ntmps86 ?_
  refine kQ O (bY O (dO O (bn 0 Tryz.underlying120 O oQ O (iY (aa2 H O Tryz.func133 O O (by kernel_rfl) (by kernel_rfl)) ?_))))
  rintro _ _ ⟨rfl, rfl⟩
  refine ig O (fD Tryz.results86 O ?_)
  exact ⟨O, O⟩
end
end Go.Proofs.YtgofgnlkpeghcaaGreatDoor
end
