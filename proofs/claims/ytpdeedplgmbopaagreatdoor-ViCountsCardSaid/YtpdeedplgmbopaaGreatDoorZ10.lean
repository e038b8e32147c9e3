import Derived.Test.YtpdeedplgmbopaaGreatDoorZ4
import Derived.Test.YtpdeedplgmbopaaGreatDoorZ9
import Derived.Test.YtpdeedplgmbopaaGreatDoorZ5
import Derived.Lib.OthersKept
import Derived.Lib.Bytealg
import Derived.Conc.AtomicLaws2
set_option linter.unusedSimpArgs false
set_option linter.unusedVariables false
/- Texts of mine, joined, their names in short: UGroups Ed EdTwin EdA Atom. -/
section
namespace Go.Proofs.YtpdeedplgmbopaaGreatDoor
open Go.RowKit
open _root_.Go.Proofs.Tryz
def ES (c : Nat) (G : List (List jl)) (N : List jl) (k : Nat) : HP := uZ fun (x : Value × List (Value × List eF)) => fact (x.2.map (fun g => g.2.map eF.says) = OX N ++ G.reverse.take k) • dW c (.cells #[x.1] 226 (0, 0)) • Fh x.1 x.2
theorem rev_succ {G : List (List jl)} {k : Nat} (hk : k < G.length) : G.reverse.take (k + 1) = G.reverse.take k ++ [G.getD (G.length - (k + 1)) []] := by
  rw [List.take_succ_eq_append_getElem (by simpa using hk)]
  congr 1
  rw [List.getElem_reverse, List.getD_eq_getElem?_getD, List.getElem?_eq_getElem (by omega)]
  have e : G.length - 1 - k = G.length - (k + 1) := by omega
  simp only [Option.getD_some, e]
section
variable {w0 w : World} {F : HP} {p c k : Nat} {G : List (List jl)} {N : List jl} {op : Int} {v u : Value} {es fs : List eF} {gs hs : List (Value × List eF)}
theorem V.QO (H : V w0 w (ES c G N k • F)) : ∃ u hs, hs.map (fun g => g.2.map eF.says) = OX N ++ G.reverse.take k ∧ hs.length ≤ G.length + 1 ∧ V w0 w (dW c (.cells #[u] 226 (0, 0)) • Row 80 1 u hs.length (hs.map (·.1)) • pJ hs • F) := by
  obtain ⟨⟨u, hs⟩, H⟩ := H.nN
  obtain ⟨h, H⟩ := H.flat.fact
  refine ⟨u, hs, h, ?_, (H.flat.swap.aaO).f3⟩
  have := congrArg List.length h
  have := YV N
  simp only [List.length_map, List.length_append, List.length_take, List.length_reverse] at *
  omega
theorem V.KG (h : hs.map (fun g => g.2.map eF.says) = OX N ++ G.reverse.take k) (H : V w0 w (dW c (.cells #[u] 226 (0, 0)) • Fh u hs • F)) : V w0 w (ES c G N k • F) :=
  V.jv (u, hs) (V.deep (V.lJ h H.deep))
theorem Xb (H : V w0 w F) (hv : v.oneCell' = true) : iI prog 175 #[v] w fun v' w' => ∃ b, v' = .func (.func 196) #[] #[.pointer (some ⟨b, 0, none⟩)] ∧ V w0 w' (dW b (.cells #[v] 226 (0, 0)) • F) := by
  refine jr func175 ntmps175 ?_
  refine iV (jV (jH (l := [_]) H O (by first | rfl | exact Ea (by first | rfl | assumption))) ?_)
  rintro _ w1 ⟨b1, rfl, H1⟩
  refine fP O (iV (Z (y5 O O) (fC O (dK results175 O ?_))))
  exact ⟨_, O, H1⟩
theorem Ue (b : Nat) : Iter prog w0 (.func (.func 196) #[] #[.pointer (some ⟨b, 0, none⟩)]) (dW b (.cells #[v] 226 (0, 0)) • Row 80 1 v gs.length (gs.map (·.1)) • pJ gs) gs.length
  (fun k vs A => ∃ gl zk, gs.getD (gs.length - (k + 1)) default = (gl, zk) ∧ vs = [.int .i64 ((gs.length - (k + 1) : Nat) : Int), gl] ∧ A = EJ gl zk) := by
 intro l J X w hy H
 refine ⟨196, [], [.pointer (some ⟨b, 0, none⟩)], _, _, O, func196, O, O, ?_⟩
 have H1 : V w0 w (dW b (.cells #[v] 226 (0, 0)) • Row 80 1 v gs.length (gs.map (·.1)) • pJ gs • J 0) := H.of_eq (by ac_rfl)
 obtain ⟨a, c, hv, hc1, hc2, _⟩ := (H1.swap.aQ).form
 subst hv
 simp only [List.nil_append, List.cons_append]
 refine X3 func196 ntmps196 ?_
 dsimp only [yY, Nat.reduceAdd]
 refine iV (fV bI O (H1).get.2 O (Z (kH ((H1.f2).aQ) bI O) (Z (iZ O O (by omega)) (fP O (aY ?_)))))
 refine gV [(0, _), (1, _)] (fun (k : Nat) => [(3, .int .i64 ((k : Int) - 1))]) (fun (k : Nat) W => k ≤ gs.length ∧ V w0 W (dW b (.cells #[.slice a gs.length c] 226 (0, 0)) • Row 80 1 (.slice a gs.length c) gs.length (gs.map (·.1)) • pJ gs • J (gs.length - k))) (fun (k : Nat) => k) (gs.length) ug mG ⟨by omega, by rw [Nat.sub_self]; exact H1⟩ ?_
 rintro k w1 ⟨hk, HL⟩
 dsimp only [List.cons_append, List.nil_append]
 refine aO (bT O (Z (mX O O) (jL O (fun h1 => ?_) (fun h1 => ?_))))
 ·(try simp only [aA] at h1)
  refine gQ (aO (aY (aO ?_)))
  obtain ⟨m, rfl⟩ : ∃ m, k = m + 1 := ⟨k - 1, by omega⟩
  rw [show (((m + 1 : Nat) : Int) - 1) = (m : Int) from by omega]
  have hkl : m < gs.length := by omega
  refine aC (jO O O (fV bI O (HL).get.2 O (bP O ?_)))
  obtain ⟨bv, ov, cv, ev⟩ := Rd.rG ((HL.f2).aQ) (by omega)
  cases ev
  refine Z (dP bI bM O O (by omega)) ?_
  refine Z (fG (dA aV O) O (by first | exact Rd.mZ ((HL.f2).aQ) (by omega) | exact Rd.yA ((HL.f2).aQ) (by omega) | exact Rd.xX ((HL.f2).aQ) (by omega))) ?_
  rw [show (gs.map (·.1)).getD m undef = (gs.getD m default).1 from by simp [List.getD_eq_getElem?_getD, hkl]]
  obtain ⟨gl, zk, hg⟩ : ∃ gl zk, gs.getD m default = (gl, zk) := ⟨_, _, rfl⟩
  rw [hg]
  have Ho2 := HL.f3
  have Hc3 := Ho2.JA hkl hg
  refine jV (OV O O (hy (gs.length - (m + 1)) (by omega) _ _ ⟨gl, zk, by rw [show gs.length - (gs.length - (m + 1) + 1) = m from by omega]; exact hg, by rw [show gs.length - (gs.length - (m + 1) + 1) = m from by omega], O⟩ (pJ gs • Row 80 1 (.slice (some ⟨bv, ov, none⟩) gs.length c) gs.length (gs.map (·.1)) • dW b (.cells #[.slice (some ⟨bv, ov, none⟩) gs.length c] 226 (0, 0))) _ (Hc3.of_eq (by ac_rfl))).bool) ?_
  rintro _ w4 ⟨t, rfl, ht1, ht2⟩
  refine Z (lC O) (jL O (fun h2 => ?_) (fun h2 => ?_))
  ·(try simp only [aA] at h2)
   have HX := ht2 (by simpa using h2)
   refine nO (aT (aB (aB (aT (we0 results196 ?_)))))
   exact .inr (HX.of_eq (by ac_rfl))
  ·(try simp only [aA] at h2)
   have HN : V w0 w4 (dW b (.cells #[.slice (some ⟨bv, ov, none⟩) gs.length c] 226 (0, 0)) • Row 80 1 (.slice (some ⟨bv, ov, none⟩) gs.length c) gs.length (gs.map (·.1)) • pJ gs • J (gs.length - m)) := by
    have h9 := ht1 (by simpa using h2)
    rw [show gs.length - (m + 1) + 1 = gs.length - m from by omega] at h9
    exact h9.of_eq (by ac_rfl)
   refine dn (aK (aW (aC (bP O (Z (iZ O O (by omega)) (iJ O (bY ?_)))))))
   refine dU (m) ?_ ?_ ?_ ?_
   ·exact mG
   ·exact ug
   ·(try dsimp only)
    first | done | exact ⟨by omega, HN.f3.f3.f3⟩
   ·(try dsimp only); omega
 ·(try simp only [aA] at h1)
  refine dO (aN (aN (bn (lK (.inr O) results196 ?_))))
  obtain rfl : k = 0 := by omega
  rw [Nat.sub_zero] at HL
  exact .inl (HL.of_eq (by ac_rfl))
theorem Jq (H : V w0 w (jm p G N op • F)) : iI prog 135 #[.pointer (some ⟨p, 0, none⟩)] w fun v w' => ∃ c, v = .func (.func 176) #[] #[.pointer (some ⟨c, 0, none⟩)] ∧ V w0 w' (ES c G N G.length • jm p G N op • F) := by
 refine jr func135 ntmps135 ?_
 refine jR O (iV (jV (iy (l := [_]) H zeroValue226 O) ?_))
 rintro _ w1 ⟨b1, rfl, H1⟩
 refine qR (bT O (dS O func158 (lQ H1.f2) ?_))
 rintro _ _ ⟨rfl, rfl⟩
 refine Z (lC O) ?_
 obtain ⟨CS, Aj, oO, nP, lV, wP, uJ, Ic, Ie, MG, rC⟩ := (H1.f2).zh
 have hLn : nP.length ≤ 16384 := by omega
 have hBn := QG uJ lV.2.2.2.2.2
 refine iL (wcE O (fun h1 => ?_))
 (try simp only [aA] at h1)
 refine lu [(0, _), (3, _)] (fun (_ : Unit) => []) (fun (_ : Unit) W => V w0 W (ES b1 G N 0 • dW p (.cells #[CS, Aj, .int .i64 op, .int .i64 (gG G N : Nat), .bool true] 235 (0, 0)) • Row 80 1 CS oO.length (oO.map (·.1)) • pJ oO • Row 189 3 Aj nP.length (nP.flatMap eF.enc) • lU nP • F)) ug ?_ ?_
 ·rintro _ w4 HJ
  dsimp only [List.cons_append, List.nil_append]
  refine bT O (dL O (bJ 0 bK O dJ O (bJ 0 bU O fZ O (fV bI O (HJ.f2).get.2 O (dS O func175 (Xb HJ (Rd.one ((HJ.f3).aQ))) ?_)))))
  rintro _ w5 ⟨bB5, rfl, H5⟩
  refine iL (aY ?_)
  obtain ⟨R6, hR6, HR6⟩ := V.adM (H5.f5.f5.f3.f4)
  refine BA O (Ue bB5) (fun k => ES b1 G N k • R6) (fact False) (fun _ => fact False) (HR6.f4.f4.f4.f4.f4.f4.f4.g3.comm) (by rfl) ?_ ?_ ?_ ?_
  ·rintro l7 k acA vs7 A7 ⟨gl, zk, hg, rfl, rfl⟩ G7 w7 H7
   try simp only [dD, pz, yw] at H7
   refine ⟨O, ?_⟩
   dsimp only [TV]
   obtain ⟨u, hs, YS, hhl, HI⟩ := (H7.f2).QO
   have hge : zk.map eF.says = G.getD (G.length - (k + 1)) [] := by
    rw [← Ic, ← wP]
    have h9 : (oO.map (fun g => g.2.map eF.says)).getD (oO.length - (k + 1)) [] = (oO.getD (oO.length - (k + 1)) default).2.map eF.says := by simp [List.getD_eq_getElem?_getD, show oO.length - (k + 1) < oO.length by omega]
    rw [h9, hg]
   have hgm : G.getD (G.length - (k + 1)) [] ∈ G := yU (by omega)
   have hBg := QG hge (lV.2.2.2.2.1 _ hgm)
   have hLg : zk.length ≤ 16384 := by
    have h8 := lV.2.1
    unfold gG at h8
    have h7 := congrArg List.length hge
    rw [List.length_map] at h7
    have h6 := JB hgm
    omega
   refine aC (iJ O (bY ?_))
   refine TU (HI.g5) ?_
   intro G8 w8 H8
   try simp only [dD] at H8
   refine aY ?_
   have aej := H8.drew
   have Y2 := V.kp (aej.f4.f4.f4.f4)
   refine y9 [0] Y2 O (jQ 0 O Y2 (fun W hW => kF bI O ((Kp.h hW)).get.2 O) (iU 1 O Y2 O (nD 2 O (xW O func173 (Ap aej.f4 hBg hLg)) ?_)))
   rintro u9 w9 ⟨fs9, afF, H9⟩
   obtain ⟨es2, rfl⟩ : ∃ q, q = fs9 := ⟨_, rfl⟩
   have hes2 := afF
   have TR := V.kp (H9.f6.f6.f6.f6.f6.f6)
   refine eG TR (fun W hW => (Kp.h hW).right.right.f4.f4.f4) ?_
   refine nD 3 O (kZ (vs := [_]) H9 bI bM ny O O O (by decide) (aX (by first | rfl | exact Rd.one ((H9).aQ)) bQ)) ?_
   rintro l10 w10 pW
   have YM := V.kp (pW.f7.f7.f7.f7.f7.f7.f7)
   refine eG YM (fun W hW => (Kp.h hW).right.f6.f6.f6.f6.f6.f6) ?_
   refine nD 4 O (iw pW.f6 bI IZ O O O ((pW).aQ) (aX (by first | rfl | exact Rd.one ((pW.f2).aQ)) bQ) (by omega) (by omega)) ?_
   rintro l11 FX sW
   have MH := sW.f2.right
   have Kt := V.kp (MH.f6.f6.f6.f6.f6.f6)
   refine gU Kt (by kernel_rfl) ?_
   refine gy 5 O (by kernel_rfl) (fU 0 (l' := [_]) MH.f5 fZ O O (by first | rfl | exact Rd.one ((MH).aQ)) O O) ?_
   rintro _ Qs xZ
   have yc := V.kp (xZ.f6.f6.f6.f6.f6.f6)
   refine gU yc (by kernel_rfl) ?_
   refine ru (aK ?_)
   refine Kv ?_
   have X := V.rO (es := es2) (xZ.f5.right.f5.f3.f5.f5).deep
   exact (V.KG (hs := hs ++ [(u9, es2)]) (by rw [List.map_append, YS, rev_succ (by omega), ← hge, ← hes2, List.append_assoc]; rfl) (V.uz X.swap).swap).deep
  ·rintro D14 P6 Az
   have Qw := Az.ed
   try simp only [dD, pz, yw] at Qw
   have acB := Qw.Va
   subst hR6
   refine aK (aW (iV (Z (y5 O O) (fC O ?_))))
   refine Jv (.inl O) (acB) (fun Qu zI => ?_)
   refine ⟨_, ack results135 O, ?_⟩
   have hgl : ES b1 G N oO.length = ES b1 G N G.length := by rw [Ic]
   rw [hgl] at zI
   have Uf := zI.f7.f7.f5.f5.f7
   have Ug := V.oD lV wP uJ rfl Uf
   exact ⟨_, O, Ug.f2.right.f2⟩
  ·rintro D w H; exact absurd H.swap.fact.1 id
  ·rintro id D w H; exact absurd H.swap.fact.1 fun h => h
 ·skip
  refine bT O (dL O (bJ 0 bK O dJ O (bJ 1 bU O bM O (fV aV O (rC).get.2 O (Z (kH ((rC.f4).aQ) aV O) (Z (dY O O) (jL O (fun h2 => ?_) (fun h2 => ?_))))))))
  ·(try simp only [aA] at h2)
   have hN : OX N = [N] := if_neg (by rintro rfl; exact absurd Ie (by simp only [List.length_nil]; omega))
   have abV := rC.drew
   have FB := V.kp (abV.f6.f6.f6.f6.f6.f6)
   refine y9 [0, 5] FB O (jQ 0 O FB (fun W hW => kF bI O ((Kp.h hW).f6).get.2 O) (iU 1 O FB O (jY 2 O FB O (iq 3 O FB 0 bK O dJ O (iq 4 O FB 1 bU O bM O (jQ 5 O FB (fun W hW => kF aV O ((Kp.h hW)).get.2 O) (nD 6 O (xW O func173 (Dw abV.f5.f5 hBn hLn)) ?_)))))))
   rintro u19 w19 ⟨afG, aek, Dl⟩
   obtain ⟨es1, rfl⟩ : ∃ q, q = afG := ⟨_, rfl⟩
   have hes1 := aek
   have QS := V.kp (Dl.f8.f8.f8.f8.f8.f8.f8.f8)
   refine eG QS (fun W hW => (Kp.h hW).right.right.f6.f3.f3.f6.f6.f6) ?_
   refine nD 7 O (kZ (vs := [_]) Dl bI bM ny O O O (by decide) (aX (by first | rfl | exact Rd.one ((Dl).aQ)) bQ)) ?_
   rintro l20 w20 Di
   have zU := V.kp (Di.f9.f9.f9.f9.f9.f9.f9.f9.f9)
   refine eG zU (fun W hW => (Kp.h hW).right.f8.f8.f8.f8.f8.f8.f8.f8) ?_
   refine nD 8 O (iw (Di.jw none) bI IZ O O O ((Di).aQ) (aX (by first | rfl | exact Rd.one ((Di.f2).aQ)) bQ) (by omega) (by omega)) ?_
   rintro l21 w21 vN
   have O9 := vN.f2.right
   have CJ := V.kp (O9.f9.f9.f9.f9.f9.f9.f9.f9.f9)
   refine gU CJ (by kernel_rfl) ?_
   refine gy 9 O (by kernel_rfl) (fU 0 (l' := [_]) O9.f9 fZ O O (by first | rfl | exact Rd.one ((O9).aQ)) O O) ?_
   rintro _ w23 Ce
   have yj := V.kp (Ce.f9.f9.f9.f9.f9.f9.f9.f9.f9)
   refine gU yj (by kernel_rfl) ?_
   have X := V.rO (es := es1) (Ce.f6.f6.f9.f9.f9.f6.f7.f9.f9).deep
   have hJn : V w0 w23 (ES b1 G N 0 • dW p (.cells #[CS, Aj, .int .i64 op, .int .i64 (gG G N : Nat), .bool true] 235 (0, 0)) • Row 80 1 CS oO.length (oO.map (·.1)) • pJ oO • Row 189 3 Aj nP.length (nP.flatMap eF.enc) • lU nP • F) :=
    V.KG (hs := [(u19, es1)]) (by rw [hN, ← uJ, ← hes1]; rfl) (V.uz (gs := []) X.J9.f3.f3.f2).swap
   refine ru ?_
   refine dF (()) ?_ ?_ ?_
   ·exact (Sub.nil _)
   ·exact ug
   ·(try dsimp only)
    first | done | exact hJn
  ·(try simp only [aA] at h2)
   have hN : OX N = [] := if_pos (by rw [← uJ, List.eq_nil_of_length_eq_zero (show nP.length = 0 by omega)]; rfl)
   have hJn : V w0 w1 (ES b1 G N 0 • dW p (.cells #[CS, Aj, .int .i64 op, .int .i64 (gG G N : Nat), .bool true] 235 (0, 0)) • Row 80 1 CS oO.length (oO.map (·.1)) • pJ oO • Row 189 3 Aj nP.length (nP.flatMap eF.enc) • lU nP • F) :=
    V.KG (hs := []) (by rw [hN]; rfl) ((rC.f5.f5.f5.f5.f5.f6).Gm none).swap
   refine dn ?_
   refine dF (()) ?_ ?_ ?_
   ·exact (Sub.nil _)
   ·exact ug
   ·(try dsimp only)
    first | done | exact hJn
theorem QT (c : Nat) (hB : ∀ g ∈ Fp G N, ∀ e ∈ g, EB e) (hL : ∀ g ∈ Fp G N, g.length ≤ 16384) : Iter prog w0 (.func (.func 176) #[] #[.pointer (some ⟨c, 0, none⟩)]) (ES c G N G.length) (Fp G N).length
  (fun k vs A => ∃ u, ∃ fs : List eF, fs.map eF.says = (Fp G N).getD k [] ∧ vs = [u] ∧ A = LX u fs) := by
 intro l J X w hy H
 refine ⟨176, [], [.pointer (some ⟨c, 0, none⟩)], _, _, O, func176, O, O, ?_⟩
 obtain ⟨v, hs, YS, hhl, H1⟩ := H.comm.QO
 have ael := YS
 rw [List.take_of_length_le (by simp), ← aaR] at YS
 have hlen : hs.length = (Fp G N).length := by have := congrArg List.length YS; simpa using this
 obtain ⟨a, d, hv, hc1, hc2, _⟩ := (H1.swap.aQ).form
 subst hv
 simp only [List.nil_append, List.cons_append]
 refine X3 func176 ntmps176 ?_
 dsimp only [yY, Nat.reduceAdd]
 refine iV (fV bI O (H1).get.2 O (Z (kH ((H1.f2).aQ) bI O) (bP O (iL (aY ?_)))))
 refine gV [(0, _), (5, _), (6, _)] (fun (k : Nat) => [(7, .int .i64 (k : Int))]) (fun (k : Nat) W => k ≤ hs.length ∧ V w0 W (dW c (.cells #[.slice a hs.length d] 226 (0, 0)) • Row 80 1 (.slice a hs.length d) hs.length (hs.map (·.1)) • pJ hs • J k)) (fun (k : Nat) => hs.length - k) (0) vZ mG ⟨by omega, H1⟩ ?_
 rintro k w1 ⟨hk, HL⟩
 dsimp only [List.cons_append, List.nil_append]
 refine iV (Z (gB O O) (qR (bH O (fun h1 => ?_) (fun h1 => ?_))))
 ·(try simp only [aA] at h1)
  refine gQ (aO (aY (iV ?_)))
  obtain ⟨bv, ov, cv, ev⟩ := Rd.rG ((HL.f2).aQ) (by omega)
  cases ev
  refine Z (dP bI bM O O (by omega)) ?_
  refine Z (fG (dA aV O) O (by first | exact Rd.mZ ((HL.f2).aQ) (by omega) | exact Rd.yA ((HL.f2).aQ) (by omega) | exact Rd.xX ((HL.f2).aQ) (by omega))) ?_
  have hkl : k < hs.length := by omega
  rw [show (hs.map (·.1)).getD k undef = (hs.getD k default).1 from by simp [List.getD_eq_getElem?_getD, hkl]]
  obtain ⟨gl, zk, hg⟩ : ∃ gl zk, hs.getD k default = (gl, zk) := ⟨_, _, rfl⟩
  rw [hg]
  have Ho2 := HL.f3
  have Hc3 := Ho2.JA hkl hg
  have hge : zk.map eF.says = (Fp G N).getD k [] := by
   rw [← YS]
   have h9 : (hs.map (fun g => g.2.map eF.says)).getD k [] = (hs.getD k default).2.map eF.says := by simp [List.getD_eq_getElem?_getD, hkl]
   rw [h9, hg]
  have hgm : (Fp G N).getD k [] ∈ Fp G N := yU (by omega)
  have hBg := QG hge (hB _ hgm)
  have hLg : zk.length ≤ 16384 := by
   have h7 := congrArg List.length hge
   rw [List.length_map] at h7
   have := hL _ hgm
   omega
  refine fP O (bT O (bP O (dS O func173 (Ap Hc3 hBg hLg) ?_)))
  rintro u4 w4 ⟨fs4, afH, H4⟩
  obtain ⟨es2, rfl⟩ : ∃ q, q = fs4 := ⟨_, rfl⟩
  have hes2 := afH
  have Hd5 := H4.f3.right
  refine jV (OV O O (hy k (by omega) _ _ ⟨_, es2, hes2.trans hge, O, O⟩ (pJ hs • Row 80 1 (.slice (some ⟨bv, ov, none⟩) hs.length d) hs.length (hs.map (·.1)) • dW c (.cells #[.slice (some ⟨bv, ov, none⟩) hs.length d] 226 (0, 0))) _ (Hd5.of_eq (by unfold LX; ac_rfl))).bool) ?_
  rintro _ w6 ⟨t, rfl, ht1, ht2⟩
  refine Z (lC O) (jL O (fun h2 => ?_) (fun h2 => ?_))
  ·(try simp only [aA] at h2)
   have HX := ht2 (by simpa using h2)
   refine nO (aT (aB (aB (aT (we0 results176 ?_)))))
   exact .inr (V.comm (V.KG (u := .slice (some ⟨bv, ov, none⟩) hs.length d) ael (HX.of_eq (by unfold Fh; ac_rfl))))
  ·(try simp only [aA] at h2)
   have HN : V w0 w6 (dW c (.cells #[.slice (some ⟨bv, ov, none⟩) hs.length d] 226 (0, 0)) • Row 80 1 (.slice (some ⟨bv, ov, none⟩) hs.length d) hs.length (hs.map (·.1)) • pJ hs • J (k + 1)) := by
    have h9 := ht1 (by simpa using h2)
    exact h9.of_eq (by ac_rfl)
   refine dn (aK (aW (aC (Z (fO O O (by omega)) (bP O (bY ?_))))))
   refine dU (k + 1) ?_ ?_ ?_ ?_
   ·exact mG
   ·exact vZ
   ·(try dsimp only)
    first | done | exact ⟨by omega, HN.f3.f3.f3⟩
   ·(try dsimp only); omega
 ·(try simp only [aA] at h1)
  refine dO (aN (aN (bn (lK (.inr O) results176 ?_))))
  obtain rfl : k = hs.length := by omega
  rw [← hlen]
  exact .inl (V.comm (V.KG (u := .slice a hs.length d) ael (HL.of_eq (by unfold Fh; ac_rfl))))
end
end Go.Proofs.YtpdeedplgmbopaaGreatDoor
end
section
namespace Go.Proofs.YtpdeedplgmbopaaGreatDoor
open Go.RowKit
def I7 (P : Int → Nat) (U : Int → List (List jl)) : List Int → HP
  | [] => emp
  | k :: D => jm (P k) (U k) [] 0 • I7 P U D
def QU (D : List Int) (P : Int → Nat) : Int → Option Value := fun k => if k ∈ D then some (.pointer (some ⟨P k, 0, none⟩)) else none
theorem uG {P : Int → Nat} {U : Int → List (List jl)} {k : Int} : ∀ {D : List Int}, k ∈ D → I7 P U D = (jm (P k) (U k) [] 0 • I7 P U (D.erase k))
  | x :: D, h => by
    by_cases e : x = k
    · subst e; rw [List.erase_cons_head]; rfl
    · rw [List.erase_cons_tail (by simpa using e)]
      have hk : k ∈ D := (List.mem_cons.1 h).resolve_left (Ne.symm e)
      show (jm (P x) (U x) [] 0 • I7 P U D) = _
      rw [uG hk]
      show (jm (P x) (U x) [] 0 • jm (P k) (U k) [] 0 • I7 P U (D.erase k)) = (jm (P k) (U k) [] 0 • (jm (P x) (U x) [] 0 • I7 P U (D.erase k)))
      ac_rfl
theorem Ef {P P' : Int → Nat} {U U' : Int → List (List jl)} : ∀ {D : List Int}, (∀ k ∈ D, P k = P' k ∧ U k = U' k) → I7 P U D = I7 P' U' D
  | [], _ => rfl
  | x :: D, h => by
    show (jm (P x) (U x) [] 0 • I7 P U D) = (jm (P' x) (U' x) [] 0 • I7 P' U' D)
    rw [(h x (by simp)).1, (h x (by simp)).2, Ef fun k hk => h k (List.mem_cons_of_mem _ hk)]
def yF (b : Nat) (U : Int → List (List jl)) : HP := uZ fun (x : List Int × (Int → Nat)) => fact (x.1.Nodup ∧ ∀ k, k ∉ x.1 → U k = []) • gX tK b (QU x.1 x.2) • I7 x.2 U x.1
def NT (b : Nat) (U : Int → List (List jl)) (k : Int) (p : Nat) : HP := uZ fun (x : List Int × (Int → Nat)) => fact (x.1.Nodup ∧ (∀ k, k ∉ x.1 → U k = []) ∧ k ∈ x.1 ∧ x.2 k = p) • gX tK b (QU x.1 x.2) • I7 x.2 U (x.1.erase k)
section
variable {w0 w : World} {F : HP} {b p : Nat} {k : Int} {U : Int → List (List jl)} {G : List (List jl)}
theorem V.aaX (H : V w0 w (yF b U • F)) : ∃ D P, (D : List Int).Nodup ∧ (∀ k, k ∉ D → U k = []) ∧ V w0 w (gX tK b (QU D P) • I7 P U D • F) := by
  obtain ⟨⟨D, P⟩, H⟩ := H.nN
  obtain ⟨⟨h1, h2⟩, H⟩ := H.flat.fact
  exact ⟨D, P, h1, h2, H.flat⟩
theorem V.Eh {D : List Int} {P : Int → Nat} (h1 : D.Nodup) (h2 : ∀ k, k ∉ D → U k = []) (H : V w0 w (gX tK b (QU D P) • I7 P U D • F)) : V w0 w (yF b U • F) :=
  V.jv (D, P) (V.deep (V.lJ ⟨h1, h2⟩ H.deep))
theorem V.abW {D : List Int} {P : Int → Nat} (h1 : D.Nodup) (h2 : ∀ k, k ∉ D → U k = []) (hk : k ∈ D) (H : V w0 w (gX tK b (QU D P) • I7 P U D • F)) : V w0 w (jm (P k) (U k) [] 0 • NT b U k (P k) • F) := by
  have H1 : V w0 w ((gX tK b (QU D P) • I7 P U (D.erase k)) • jm (P k) (U k) [] 0 • F) := H.of_eq (by rw [uG hk]; ac_rfl)
  have H2 : V w0 w (NT b U k (P k) • jm (P k) (U k) [] 0 • F) := V.jv (D, P) (V.deep (V.lJ ⟨h1, h2, hk, rfl⟩ H1))
  exact H2.swap
theorem V.AY (H : V w0 w (NT b U k p • jm p G [] 0 • F)) : V w0 w (yF b (vS U k G) • F) := by
  obtain ⟨⟨D, P⟩, H⟩ := H.nN
  obtain ⟨⟨h1, h2, hk, hp⟩, H⟩ := H.flat.fact
  dsimp only at h1 h2 hk hp H
  subst hp
  refine V.Eh (D := D) (P := P) h1 (fun x hx => ?_) ?_
  · rw [tC _ _ (by rintro rfl; exact hx hk)]; exact h2 x hx
  · rw [uG (U := vS U k G) hk, iE, Ef (P' := P) (U' := U) fun x hx => ⟨rfl, tC _ _ (by rintro rfl; exact (List.Nodup.not_mem_erase h1) hx)⟩]
    exact H.of_eq (by ac_rfl)
end
def vU (t : Int → Option ByteArray) : Int → Option Value := fun k => (t k).map .string
def Uh (pb pr pw pt pm : Nat) (c : nY) : HP := iQ pb c.L c.pt c.mark • fA pr c.E c.at_ • dW pw (.cells #[.int .i64 c.place, .map (some pt)] 122 (0, 0)) • gX tK pt (vU c.tx) • yF pm c.un
def QV (pb pr pw pm : Nat) (c : nY) : List Value := [.pointer (some ⟨pb, 0, none⟩), .pointer (some ⟨pr, 0, none⟩), .pointer (some ⟨pw, 0, none⟩), .map (some pm), .int .i64 c.mode, .bool c.over, .int .i64 c.last, .int .i64 c.fr, .int .i64 c.to, .int .i64 c.res, .bool c.run]
def xA (inn : Bool) (c : nY) (u : List Value) : HP := if inn = true then uZ fun (x : Nat × Nat × Nat × Nat × Nat) => fact (u = QV x.1 x.2.1 x.2.2.1 x.2.2.2.2 c) • Uh x.1 x.2.1 x.2.2.1 x.2.2.2.1 x.2.2.2.2 c else (fact ((u.all fun x => x.oneCell') = true))
def Ui (hl : List qN) (c : nY) : Prop := 0 ≤ c.place ∧ c.place ≤ hl.length ∧ (∀ k t, c.tx k = some t → t.size ≤ 16384)
def zq (e : jl) : Prop := 0 ≤ e.1 ∧ 0 < e.2.1.length + e.2.2.length ∧ e.2.1.length ≤ 1024 ∧ e.2.2.length ≤ 1024
def lI (s : bC) : Prop := Ui s.hl s.c ∧ (s.inn = true → Ui s.hl s.was ∧ gG (s.was.un s.was.place) [] ≤ 16384 ∧ ∀ k, ∀ g ∈ s.was.un k, ∀ e ∈ g, zq e) ∧ (-1 ≤ s.arg ∧ s.arg ≤ 1000000) ∧ (∀ e ∈ s.put, zq e) ∧ gG s.here s.put ≤ 16384 ∧ (∀ k, ∀ g ∈ s.c.un k, ∀ e ∈ g, zq e)
structure EdP where
  pb : Nat
  pr : Nat
  pw : Nat
  pt : Nat
  pm : Nat
  ph : Nat
  bl : Nat
  pv : Value
  es : List eF
  u0 : Value
  u1 : Value
  u2 : Value
  u3 : Value
  u4 : Value
  u5 : Value
  u6 : Value
  u7 : Value
  u8 : Value
  u9 : Value
  ua : Value
def EdG (e : Nat) (s : bC) (M : Nat → HP) : HP := uZ fun (x : EdP) => fact (lI s ∧ x.es.map eF.says = s.put) •
  dW e (.cells (.pointer (some ⟨x.pb, 0, none⟩) :: .pointer (some ⟨x.pr, 0, none⟩) :: .pointer (some ⟨x.pw, 0, none⟩) :: .map (some x.pm) :: .int .i64 s.c.mode :: .bool s.c.over :: .int .i64 s.c.last :: .int .i64 s.c.fr :: .int .i64 s.c.to :: .int .i64 s.c.res :: .bool s.c.run :: .pointer (some ⟨x.ph, 0, none⟩) :: .pointer (some ⟨x.bl, 0, none⟩) :: .bool s.given :: .bool s.minus :: .int .i64 s.arg :: .bool s.inn :: x.u0 :: x.u1 :: x.u2 :: x.u3 :: x.u4 :: x.u5 :: x.u6 :: x.u7 :: x.u8 :: x.u9 :: x.ua :: .int .i64 s.cls :: .bool s.kT :: .bool s.kU :: .bool s.argues :: .bool s.whole :: x.pv :: []).toArray 82 (0, 0)) •
  iQ x.pb s.c.L s.c.pt s.c.mark • fA x.pr s.c.E s.c.at_ • dW x.pw (.cells #[.int .i64 s.c.place, .map (some x.pt)] 122 (0, 0)) • gX tK x.pt (vU s.c.tx) • M x.pm •
  iT x.ph s.hl s.base s.most • dW x.bl (.cells #[.int .i64 s.qW] 161 (0, 0)) • Row 189 3 x.pv s.put.length (x.es.flatMap eF.enc) • lU x.es • xA s.inn s.was [x.u0, x.u1, x.u2, x.u3, x.u4, x.u5, x.u6, x.u7, x.u8, x.u9, x.ua]
def fF (e : Nat) (s : bC) : HP := EdG e s fun pm => yF pm s.c.un
def afI (e : Nat) (s : bC) (p : Nat) : HP := EdG e s fun pm => NT pm s.c.un s.c.place p
section
variable {w0 w : World} {F : HP} {e : Nat} {s : bC} {M : Nat → HP}
theorem V.edG (H : V w0 w (EdG e s M • F)) : ∃ pb pr pw pt pm ph bl pv es u0 u1 u2 u3 u4 u5 u6 u7 u8 u9 ua, lI s ∧ es.map eF.says = s.put ∧ es.length = s.put.length ∧ V w0 w (
  dW e (.cells (.pointer (some ⟨pb, 0, none⟩) :: .pointer (some ⟨pr, 0, none⟩) :: .pointer (some ⟨pw, 0, none⟩) :: .map (some pm) :: .int .i64 s.c.mode :: .bool s.c.over :: .int .i64 s.c.last :: .int .i64 s.c.fr :: .int .i64 s.c.to :: .int .i64 s.c.res :: .bool s.c.run :: .pointer (some ⟨ph, 0, none⟩) :: .pointer (some ⟨bl, 0, none⟩) :: .bool s.given :: .bool s.minus :: .int .i64 s.arg :: .bool s.inn :: u0 :: u1 :: u2 :: u3 :: u4 :: u5 :: u6 :: u7 :: u8 :: u9 :: ua :: .int .i64 s.cls :: .bool s.kT :: .bool s.kU :: .bool s.argues :: .bool s.whole :: pv :: []).toArray 82 (0, 0)) •
  iQ pb s.c.L s.c.pt s.c.mark • fA pr s.c.E s.c.at_ • dW pw (.cells #[.int .i64 s.c.place, .map (some pt)] 122 (0, 0)) • gX tK pt (vU s.c.tx) • M pm •
  iT ph s.hl s.base s.most • dW bl (.cells #[.int .i64 s.qW] 161 (0, 0)) • Row 189 3 pv s.put.length (es.flatMap eF.enc) • lU es • xA s.inn s.was [u0, u1, u2, u3, u4, u5, u6, u7, u8, u9, ua] • F) := by
  obtain ⟨⟨pb, pr, pw, pt, pm, ph, bl, pv, es, u0, u1, u2, u3, u4, u5, u6, u7, u8, u9, ua⟩, H⟩ := H.nN
  obtain ⟨⟨h1, h2⟩, H⟩ := H.flat.fact
  refine ⟨pb, pr, pw, pt, pm, ph, bl, pv, es, u0, u1, u2, u3, u4, u5, u6, u7, u8, u9, ua, h1, h2, ?_, ?_⟩
  · rw [← h2]; simp
  · dsimp only at H
    exact H.of_eq (by simp only [dD])
theorem V.acI {pb pr pw pt pm ph bl : Nat} {pv : Value} {es : List eF} {u0 u1 u2 u3 u4 u5 u6 u7 u8 u9 ua : Value} (h1 : lI s) (h2 : es.map eF.says = s.put) (H : V w0 w (
  dW e (.cells (.pointer (some ⟨pb, 0, none⟩) :: .pointer (some ⟨pr, 0, none⟩) :: .pointer (some ⟨pw, 0, none⟩) :: .map (some pm) :: .int .i64 s.c.mode :: .bool s.c.over :: .int .i64 s.c.last :: .int .i64 s.c.fr :: .int .i64 s.c.to :: .int .i64 s.c.res :: .bool s.c.run :: .pointer (some ⟨ph, 0, none⟩) :: .pointer (some ⟨bl, 0, none⟩) :: .bool s.given :: .bool s.minus :: .int .i64 s.arg :: .bool s.inn :: u0 :: u1 :: u2 :: u3 :: u4 :: u5 :: u6 :: u7 :: u8 :: u9 :: ua :: .int .i64 s.cls :: .bool s.kT :: .bool s.kU :: .bool s.argues :: .bool s.whole :: pv :: []).toArray 82 (0, 0)) •
  iQ pb s.c.L s.c.pt s.c.mark • fA pr s.c.E s.c.at_ • dW pw (.cells #[.int .i64 s.c.place, .map (some pt)] 122 (0, 0)) • gX tK pt (vU s.c.tx) • M pm •
  iT ph s.hl s.base s.most • dW bl (.cells #[.int .i64 s.qW] 161 (0, 0)) • Row 189 3 pv s.put.length (es.flatMap eF.enc) • lU es • xA s.inn s.was [u0, u1, u2, u3, u4, u5, u6, u7, u8, u9, ua] • F)) : V w0 w (EdG e s M • F) :=
  V.jv ⟨pb, pr, pw, pt, pm, ph, bl, pv, es, u0, u1, u2, u3, u4, u5, u6, u7, u8, u9, ua⟩ (V.deep (V.lJ ⟨h1, h2⟩ (H.of_eq (by simp only [dD]))))
theorem V.iF {pb pr pw pt pm ph bl : Nat} {pv : Value} {es : List eF} {u0 u1 u2 u3 u4 u5 u6 u7 u8 u9 ua : Value} (h1 : lI s) (h2 : es.map eF.says = s.put) (H : V w0 w (
  dW e (.cells (.pointer (some ⟨pb, 0, none⟩) :: .pointer (some ⟨pr, 0, none⟩) :: .pointer (some ⟨pw, 0, none⟩) :: .map (some pm) :: .int .i64 s.c.mode :: .bool s.c.over :: .int .i64 s.c.last :: .int .i64 s.c.fr :: .int .i64 s.c.to :: .int .i64 s.c.res :: .bool s.c.run :: .pointer (some ⟨ph, 0, none⟩) :: .pointer (some ⟨bl, 0, none⟩) :: .bool s.given :: .bool s.minus :: .int .i64 s.arg :: .bool s.inn :: u0 :: u1 :: u2 :: u3 :: u4 :: u5 :: u6 :: u7 :: u8 :: u9 :: ua :: .int .i64 s.cls :: .bool s.kT :: .bool s.kU :: .bool s.argues :: .bool s.whole :: pv :: []).toArray 82 (0, 0)) •
  iQ pb s.c.L s.c.pt s.c.mark • fA pr s.c.E s.c.at_ • dW pw (.cells #[.int .i64 s.c.place, .map (some pt)] 122 (0, 0)) • gX tK pt (vU s.c.tx) • yF pm s.c.un •
  iT ph s.hl s.base s.most • dW bl (.cells #[.int .i64 s.qW] 161 (0, 0)) • Row 189 3 pv s.put.length (es.flatMap eF.enc) • lU es • xA s.inn s.was [u0, u1, u2, u3, u4, u5, u6, u7, u8, u9, ua] • F)) : V w0 w (fF e s • F) := V.acI (M := fun pm => yF pm s.c.un) h1 h2 H
theorem V.Ii (H : V w0 w (fF e s • F)) : ∃ pb pr pw pt pm ph bl pv es u0 u1 u2 u3 u4 u5 u6 u7 u8 u9 ua, lI s ∧ es.map eF.says = s.put ∧ es.length = s.put.length ∧ V w0 w (
  dW e (.cells (.pointer (some ⟨pb, 0, none⟩) :: .pointer (some ⟨pr, 0, none⟩) :: .pointer (some ⟨pw, 0, none⟩) :: .map (some pm) :: .int .i64 s.c.mode :: .bool s.c.over :: .int .i64 s.c.last :: .int .i64 s.c.fr :: .int .i64 s.c.to :: .int .i64 s.c.res :: .bool s.c.run :: .pointer (some ⟨ph, 0, none⟩) :: .pointer (some ⟨bl, 0, none⟩) :: .bool s.given :: .bool s.minus :: .int .i64 s.arg :: .bool s.inn :: u0 :: u1 :: u2 :: u3 :: u4 :: u5 :: u6 :: u7 :: u8 :: u9 :: ua :: .int .i64 s.cls :: .bool s.kT :: .bool s.kU :: .bool s.argues :: .bool s.whole :: pv :: []).toArray 82 (0, 0)) •
  iQ pb s.c.L s.c.pt s.c.mark • fA pr s.c.E s.c.at_ • dW pw (.cells #[.int .i64 s.c.place, .map (some pt)] 122 (0, 0)) • gX tK pt (vU s.c.tx) • yF pm s.c.un •
  iT ph s.hl s.base s.most • dW bl (.cells #[.int .i64 s.qW] 161 (0, 0)) • Row 189 3 pv s.put.length (es.flatMap eF.enc) • lU es • xA s.inn s.was [u0, u1, u2, u3, u4, u5, u6, u7, u8, u9, ua] • F) := H.edG
end
end Go.Proofs.YtpdeedplgmbopaaGreatDoor
end
section
namespace Go.Proofs.YtpdeedplgmbopaaGreatDoor
open Go.RowKit
open _root_.Go.Proofs.Tryz
def Pe {β : Type} (f : Int → Option β) (S : List Int) : Int → Option β := fun k => if k ∈ S then f k else none
theorem QW {β : Type} (f : Int → Option β) : Pe f [] = fun _ => none := by funext k; simp [Pe]
theorem NU {β : Type} {f : Int → Option β} {S : List Int} {a : Int} {u : β} (h : f a = some u) : Pe f (S ++ [a]) = upd (Pe f S) a u := by
  funext k
  unfold Pe upd
  by_cases hk : k = a
  · subst hk; simp [h]
  · simp [hk]
theorem QX {β : Type} {f : Int → Option β} {S : List Int} (h : ∀ a u, f a = some u → a ∈ S) : Pe f S = f := by
  funext k
  unfold Pe
  split
  · rfl
  · rename_i hk
    cases hf : f k with
    | none => rfl
    | some u => exact absurd (h k u hf) hk
theorem VF (P : Int → Nat) : QU [] P = fun _ => none := by funext k; simp [QU]
theorem Y3 {D : List Int} {P : Int → Nat} {a : Int} {u : Value} (h : QU D P a = some u) : a ∈ D ∧ u = .pointer (some ⟨P a, 0, none⟩) := by
  unfold QU at h
  split at h
  · rename_i hm; exact ⟨hm, by cases h; rfl⟩
  · cases h
theorem QY {S : List Int} {P : Int → Nat} {a : Int} {q : Nat} (h : a ∉ S) : QU (S ++ [a]) (vS P a q) = upd (QU S P) a (.pointer (some ⟨q, 0, none⟩)) := by
  funext k
  unfold QU upd vS
  by_cases hk : k = a
  · subst hk; simp
  · simp [hk]
theorem KH {P : Int → Nat} {U : Int → List (List jl)} {a : Int} : ∀ {S : List Int}, I7 P U (S ++ [a]) = (I7 P U S • jm (P a) (U a) [] 0)
  | [] => by show (jm (P a) (U a) [] 0 • emp) = (emp • jm (P a) (U a) [] 0); rw [yw, pz]
  | x :: S => by
    show (jm (P x) (U x) [] 0 • I7 P U (S ++ [a])) = ((jm (P x) (U x) [] 0 • I7 P U S) • jm (P a) (U a) [] 0)
    rw [KH, dD]
theorem Ij {α : Type} {o : Option α} (h : ¬ o.isSome = true) : o = none := by cases o <;> simp_all
theorem KI {S : List Int} {a : Int} (h : S.Nodup) (ha : a ∉ S) : (S ++ [a]).Nodup := by
  rw [List.nodup_append]
  exact ⟨h, by simp, by intro x hx y hy; rw [List.mem_singleton.1 hy]; rintro rfl; exact ha hx⟩
section
variable {w0 w : World} {F : HP} {pb pr pw pt pm : Nat} {c : nY}
theorem QZ (H : V w0 w (iQ pb c.L c.pt c.mark • fA pr c.E c.at_ • dW pw (.cells #[.int .i64 c.place, .map (some pt)] 122 (0, 0)) • gX tK pt (vU c.tx) • yF pm c.un • F)) :
  iI prog 80 #[.agg #[.pointer (some ⟨pb, 0, none⟩), .pointer (some ⟨pr, 0, none⟩), .pointer (some ⟨pw, 0, none⟩), .map (some pm), .int .i64 c.mode, .bool c.over, .int .i64 c.last, .int .i64 c.fr, .int .i64 c.to, .int .i64 c.res, .bool c.run]] w fun v w' =>
   ∃ qb qr qw qt qm, v = .agg #[.pointer (some ⟨qb, 0, none⟩), .pointer (some ⟨qr, 0, none⟩), .pointer (some ⟨qw, 0, none⟩), .map (some qm), .int .i64 c.mode, .bool c.over, .int .i64 c.last, .int .i64 c.fr, .int .i64 c.to, .int .i64 c.res, .bool c.run] ∧
    V w0 w' (iQ qb c.L c.pt c.mark • fA qr c.E c.at_ • dW qw (.cells #[.int .i64 c.place, .map (some qt)] 122 (0, 0)) • gX tK qt (vU c.tx) • yF qm c.un •
     iQ pb c.L c.pt c.mark • fA pr c.E c.at_ • dW pw (.cells #[.int .i64 c.place, .map (some pt)] 122 (0, 0)) • gX tK pt (vU c.tx) • yF pm c.un • F) := by
 refine jr func80 ntmps80 ?_
 refine iV (jV (jH (l := [_, _, _, _, _, _, _, _, _, _, _]) H O O) ?_)
 rintro _ w1 ⟨b1, rfl, H1⟩
 refine jV (iy (l := [_, _, _, _, _, _, _, _, _, _, _]) H1 nC O) ?_
 rintro _ w2 ⟨b2, rfl, H2⟩
 refine qR ?_
 have YB := H2.drew
 have AO := V.kp (YB.f7.f7.f7.f7.f7.f7.f7)
 refine y9 [1, 4] AO O (iq 0 O AO 0 aJ O qO O (jQ 1 O AO (fun W hW => kF lN O ((Kp.h hW).f2).get.2 O) (iq 3 O AO 1 aJ O sizeOf73 O (jQ 4 O AO (fun W hW => kF tu O ((Kp.h hW).f2).get.2 O) (nD 2 O (xW O func129 (L9 YB.f3)) ?_)))))
 rintro _ w3 ⟨q3, rfl, H3⟩
 have Bv := V.kp (H3.f8.f8.f8.f8.f8.f8.f8.f8)
 refine eG Bv (fun W hW => (Kp.h hW).right.f7.f7.f7.f7.f5.f7.f7) ?_
 refine iq 6 O Bv 0 aJ O qO O (nD 5 O (xW O func85 (Dq H3.f5)) ?_)
 rintro _ w4 ⟨pc4, rfl, H4⟩
 have Ai := V.kp (H4.f9.f9.f9.f9.f9.f9.f9.f9.f9)
 refine gU Ai (by kernel_rfl) ?_
 refine gy 7 O (by kernel_rfl) (fU 0 (l' := [_, _, _, _, _, _, _, _, _, _, _]) H4.f6 qO O O (by first | rfl | assumption) O O) ?_
 rintro _ w5 H5
 have Fj := V.kp (H5.f9.f9.f9.f9.f9.f9.f9.f9.f9)
 refine gU Fj (by kernel_rfl) ?_
 refine iq 8 O Fj 1 aJ O sizeOf73 O ?_
 refine gy 9 O (by kernel_rfl) (fU 1 (l' := [_, _, _, _, _, _, _, _, _, _, _]) H5 sizeOf73 O O (by first | rfl | assumption) O O) ?_
 rintro _ w6 H6
 have FC := V.kp (H6.f9.f9.f9.f9.f9.f9.f9.f9.f9)
 refine gU FC (by kernel_rfl) ?_
 refine ru (aW (iV (bJ 2 aJ O sizeOf74 O (fV lS O (H6).get.2 O (dL O (bJ 0 gq O ay O (fV aH O (H6.f7).get.2 O (jV (kP (zo .i64) H6) ?_))))))))
 rintro _ w7 ⟨b7, rfl, H7⟩
 refine Z (mF (pl := #[(0, 1), (1, 1)]) (#[_, _]) gq oP (fun w => by kernel_rfl) O (O)) (jV (jH (l := [_, _]) H7 O O) ?_)
 rintro _ w8 ⟨b8, rfl, H8⟩
 refine vY O (iV (bJ 2 aJ O sizeOf74 O (fV lS O (H8.f3).get.2 O (dL O (bJ 1 gq O sizeOf120 O (fV underlying120 O (H8.f9).get.2 O (jV (DF H8.f10 underlying120 O) ?_)))))))
 rintro _ w9 ⟨it9, mi, rfl, H9⟩
 refine iL (aY ?_)
 obtain ⟨R10, afJ, afK⟩ := V.JJ (H9.f2.f3.f3)
 have HX0 := afK
 rw [← QW (vU c.tx)] at HX0
 refine gV [(1, _), (2, _), (3, _), (30, _)] (fun (⟨S, n⟩ : List Int × Nat) => []) (fun (⟨S, n⟩ : List Int × Nat) W => V w0 W (ER tK pt it9 (vU c.tx) S n • gX tK b7 (Pe (vU c.tx) S) • dW b8 (.cells #[.int .i64 c.place, .map (some b7)] 122 (0, 0)) • R10)) (fun (⟨S, n⟩ : List Int × Nat) => n) (([], _)) OB (Sub.nil _) HX0 ?_
 rintro ⟨S, n⟩ FX HL
 dsimp only [List.cons_append, List.nil_append]
 refine iV (jV (Fz HL O) ?_)
 rintro _ w12 ⟨ox, Sx, mx, rfl, hNx, wL⟩
 refine Z (Y1 O) (qR (bH O (fun h1 => ?_) (fun h1 => ?_)))
 ·(try simp only [aA] at h1)
  obtain ⟨⟨a, u⟩, rfl⟩ := Option.isSome_iff_exists.1 h1
  obtain ⟨ha, hns, hlt, rfl⟩ := hNx
  refine gQ (aY (iV ?_))
  refine Z (O8 (wL) (by assumption) O) ?_
  refine uf O O (uf O O (iJ O (fP O (aC (nK O O (bJ 1 gq O sizeOf120 O (fV underlying120 O (wL.f3).get.2 O (jO O O (aI (xw wL.f2 underlying120 aH O O O) ?_)))))))))
  rintro _ Qs xZ
  refine bY (aK ?_)
  have hres := NU (S := S) ha
  refine dU ((S ++ [a], mx)) ?_ ?_ ?_ ?_
  ·exact (Sub.nil _)
  ·exact OB
  ·(try dsimp only)
   first | done | exact (by rw [hres]; exact xZ.f3.f2.f3)
  ·(try dsimp only); omega
 ·(try simp only [aA] at h1)
  obtain rfl := Ij (o := ox) (by simp [h1])
  obtain ⟨rfl, rfl, hall⟩ := hNx
  refine dO (aN ?_)
  have HX := wL.f3.f2.f3
  rw [QX hall] at HX
  have acJ := HX.f2
  have acK := acJ.Ih
  subst afJ
  refine aN (bn (aW (bT O (bJ 2 aJ O sizeOf74 O (aI (fU 2 (l' := [_, _, _, _, _, _, _, _, _, _, _]) acK.f4 sizeOf74 O O (by first | rfl | assumption) O O) ?_)))))
  rintro _ w16 uY
  refine zk7 (jV (kP (zo .i64) uY) ?_)
  rintro _ Yr ⟨b17, rfl, EH⟩
  refine vY O (aO ?_)
  obtain ⟨D, P, hD1, hD2, HU⟩ := (EH.f12).aaX
  refine aC (bJ 3 aJ O sizeOf75 O (fV lT O (HU.f4).get.2 O (jV (DF HU lT O) ?_)))
  rintro _ Ym ⟨afL, mi, rfl, Eb⟩
  refine iL (aY ?_)
  obtain ⟨R19, afM, afN⟩ := V.JJ (Eb.f3.f3.f3)
  have HX0 := afN
  rw [← VF P] at HX0
  refine gV [(1, _), (2, _), (6, _), (47, _)] (fun (⟨S, n, P2⟩ : List Int × Nat × (Int → Nat)) => []) (fun (⟨S, n, P2⟩ : List Int × Nat × (Int → Nat)) W => S.Nodup ∧ V w0 W (ER tK pm afL (QU D P) S n • I7 P c.un D • gX tK b17 (QU S P2) • I7 P2 c.un S • R19)) (fun (⟨S, n, P2⟩ : List Int × Nat × (Int → Nat)) => n) (([], _, P)) OB (Sub.nil _) ⟨List.nodup_nil, (HX0).of_eq (by show _ = (_ • _ • _ • emp • _); rw [pz])⟩ ?_
  rintro ⟨S, n, P2⟩ w20 ⟨hS, HL⟩
  dsimp only [List.cons_append, List.nil_append]
  refine iV (jV (Fz HL O) ?_)
  rintro _ w21 ⟨ox, Sx, mx, rfl, hNx, vN⟩
  refine Z (Y1 O) (qR (bH O (fun h2 => ?_) (fun h2 => ?_)))
  ·(try simp only [aA] at h2)
   obtain ⟨⟨a, u⟩, rfl⟩ := Option.isSome_iff_exists.1 h2
   obtain ⟨ha, hns, hlt, rfl⟩ := hNx
   obtain ⟨hmem, rfl⟩ := Y3 ha
   have HF := vN.f2
   rw [uG hmem] at HF
   have HF2 := HF.flat
   refine gQ (aY (iV ?_))
   refine Z (O8 (HF2.f3) (by assumption) O) ?_
   refine uf O O (uf O O (iJ O (fP O (aC (jO O O (bP O (dS O func130 (KA HF2) ?_)))))))
   rintro _ w22 ⟨q22, rfl, Gg⟩
   refine aI (xw Gg.f5 lT aH O O O) ?_
   rintro _ w23 Ce
   refine bY (aK ?_)
   have HQ := Ce.f2.f6.f3.f5.f5.f6
   have hu1 : I7 (vS P2 a q22) c.un (S ++ [a]) = (I7 P2 c.un S • jm q22 (c.un a) [] 0) := by
    rw [KH, iE, Ef (P' := P2) (U' := c.un) fun x hx => ⟨tC _ _ (by rintro rfl; exact hns hx), rfl⟩]
   refine dU ((S ++ [a], mx, vS P2 a q22)) ?_ ?_ ?_ ?_
   ·exact (Sub.nil _)
   ·exact OB
   ·(try dsimp only)
    first | done | exact ⟨KI hS hns, HQ.of_eq (by rw [uG hmem, hu1, QY hns]; ac_rfl)⟩
   ·(try dsimp only); omega
  ·(try simp only [aA] at h2)
   obtain rfl := Ij (o := ox) (by simp [h2])
   obtain ⟨rfl, rfl, hall⟩ := hNx
   refine dO (aN ?_)
   have afO := vN
   have afP := afO.Ih
   subst afM
   have afQ := afP.f2.f2
   have afR := V.Eh hD1 hD2 afQ
   have hnS : ∀ k, k ∉ Sx → c.un k = [] := fun k hk => hD2 k fun hkD => hk (hall k _ (if_pos hkD))
   have acL := afR.f3.f3
   have Xc := V.Eh hS hnS acL
   refine aN (bn (aW (bT O (bJ 3 aJ O sizeOf75 O (aI (fU 3 (l' := [_, _, _, _, _, _, _, _, _, _, _]) Xc.f3 sizeOf75 O O (by first | rfl | assumption) O O) ?_)))))
   rintro _ w30 Vp
   refine zk7 (Z (dM aJ O aU O O (Vp).get.2) (aI (dw 0 (l' := [_, _, _, _, _, _, _, _, _, _, _]) (us := [_, _, _, _, _, _, _, _, _, _, _]) Vp.f11 aU O O O (aG (aG (aG (aG (aG (aG (aG (aG (aG (aG (aG bQ))))))))))) O O) ?_))
   rintro _ w31 SV
   refine zkc ?_
   refine rD (.inl O) (Oy results80 O aJ O (by rw [aem]; rfl) (SV).get.2) ?_
   exact ⟨_, _, _, _, _, O, SV.right.right.f2.f3.f10.f8.f10.f6.f7.f8.f9.f10⟩
end
def KJ (D : List Int) (P : Int → Nat) (k : Int) : Option Addr := if k ∈ D then some ⟨P k, 0, none⟩ else none
theorem VG (D : List Int) (P : Int → Nat) (k : Int) : (QU D P k).getD (.pointer none) = .pointer (KJ D P k) := by unfold QU KJ; split <;> rfl
theorem Q5 {D : List Int} {P : Int → Nat} {k : Int} (h : k ∈ D) : KJ D P k = some ⟨P k, 0, none⟩ := if_pos h
theorem Xd {D : List Int} {P : Int → Nat} {k : Int} (h : (KJ D P k).isNone = false) : k ∈ D := by
  unfold KJ at h
  split at h
  · assumption
  · cases h
theorem Xf {D : List Int} {P : Int → Nat} {k : Int} (h : (KJ D P k).isNone = true) : k ∉ D := by
  unfold KJ at h
  split at h
  · cases h
  · assumption
theorem Gt {s : bC} (h : ¬ s.AU = 0) : s.inn = false ∧ s.AU = 1 := by
  unfold bC.AU at *
  cases hi : s.inn <;> simp_all
theorem DI {s : bC} (h : s.AU = 0) : s.inn = true := by
  unfold bC.AU at h
  cases hi : s.inn <;> simp_all
theorem V.afS {w0 w : World} {A B C F : HP} (H : V w0 w (A • B • C • F)) : V w0 w (A • (B • C) • F) := H.of_eq (by rw [dD])
section
variable {w0 w : World} {F : HP} {e p : Nat} {s : bC}
theorem rQ (H : V w0 w (fF e s • F)) : iI prog 65 #[.pointer (some ⟨e, 0, none⟩)] w fun v w' => v = .bool false ∧ w = w' := by
 refine jr func65 ntmps65 ?_
 refine jR O (aO ?_)
 obtain ⟨yG, yH, yI, yJ, yK, yL, yM, yN, wu, uK, uM, uN, uO, uP, uQ, uS, uT, uU, uV, uX, iD, dG, kW, iO⟩ := (H).Ii
 refine aC (bP O (Z (iR kJ O O) (jJ O (fun h1 => ?_) (fun h1 => ?_))))
 ·(try simp only [aA] at h1)
  exfalso; first | contradiction | omega
 ·(try simp only [aA] at h1)
  refine bg (bP O (bg (dL O (bg (bJ 11 ah O sizeOf78 O (bg (fV kR O (iO).get.2 O (bg (Z (iR kR O O) (ig O O (fC O (dK results65 O ?_))))))))))))
  exact ⟨O, O⟩
theorem ql (H : V w0 w (fF e s • F)) : iI prog 81 #[.pointer (some ⟨e, 0, none⟩)] w fun v w' => v = .int .i64 s.AU ∧ w = w' := by
 unfold bC.AU
 refine jr func81 ntmps81 ?_
 refine jR O (aO (aY (bT O (dS O func65 (rQ H) ?_))))
 rintro _ _ ⟨rfl, rfl⟩
 refine fP O (qH (aO ?_))
 obtain ⟨yG, yH, yI, yJ, yK, yL, yM, yN, wu, uK, uM, uN, uO, uP, uQ, uS, uT, uU, uV, uX, iD, dG, kW, iO⟩ := (H).Ii
 refine aC (nK O O (bJ 16 ah O aP O (fV bZ O (iO).get.2 O (Z (lC O) (fP O (bH O (fun h1 => ?_) (fun h1 => ?_)))))))
 ·(try simp only [aA] at h1)
  refine jP O (aT (aB (dK results81 O ?_)))
  exact ⟨by simp [*], O⟩
 ·(try simp only [aA] at h1)
  refine dn (aK (aW (jP O (dK results81 O ?_))))
  exact ⟨by simp [*], O⟩
theorem DJ {x0 x1 x4 x5 x6 x7 x8 x9 x10 x11 x12 xY x14 x15 x16 x17 x18 x19 x20 x21 yT x23 x24 x25 zf x27 x28 x29 x30 x31 x32 zO : Value} {pw pt pm : Nat} {k : Int} {U : Int → List (List jl)} (H : V w0 w (dW e (.cells (x0 :: x1 :: .pointer (some ⟨pw, 0, none⟩) :: .map (some pm) :: x4 :: x5 :: x6 :: x7 :: x8 :: x9 :: x10 :: x11 :: x12 :: xY :: x14 :: x15 :: x16 :: x17 :: x18 :: x19 :: x20 :: x21 :: yT :: x23 :: x24 :: x25 :: zf :: x27 :: x28 :: x29 :: x30 :: x31 :: x32 :: zO :: []).toArray 82 (0, 0)) • dW pw (.cells #[.int .i64 k, .map (some pt)] 122 (0, 0)) • yF pm U • F)) : iI prog 134 #[.pointer (some ⟨e, 0, none⟩)] w fun v w' => ∃ p, v = .pointer (some ⟨p, 0, none⟩) ∧
  V w0 w' (jm p (U k) [] 0 • NT pm U k p • dW e (.cells (x0 :: x1 :: .pointer (some ⟨pw, 0, none⟩) :: .map (some pm) :: x4 :: x5 :: x6 :: x7 :: x8 :: x9 :: x10 :: x11 :: x12 :: xY :: x14 :: x15 :: x16 :: x17 :: x18 :: x19 :: x20 :: x21 :: yT :: x23 :: x24 :: x25 :: zf :: x27 :: x28 :: x29 :: x30 :: x31 :: x32 :: zO :: []).toArray 82 (0, 0)) • dW pw (.cells #[.int .i64 k, .map (some pt)] 122 (0, 0)) • F) := by
 refine jr func134 ntmps134 ?_
 refine jR O (aO ?_)
 obtain ⟨D, P, hD1, hD2, HU⟩ := (H.f3).aaX
 have Uj := HU.drew
 have nZ := V.kp (Uj.f4.f4.f4.f4)
 refine y9 [4, 9, 12, 13] nZ O (iU 0 O nZ O (jY 1 O nZ O (iq 2 O nZ 0 ah O aU O (iq 3 O nZ 3 aJ O sizeOf75 O (jQ 4 O nZ (fun W hW => kF lT O ((Kp.h hW).f3).get.2 O) (iU 5 O nZ O (jY 6 O nZ O (iq 7 O nZ 0 ah O aU O (iq 8 O nZ 2 aJ O sizeOf74 O (jQ 9 O nZ (fun W hW => kF lS O ((Kp.h hW).f3).get.2 O) (jY 10 O nZ O (iq 11 O nZ 0 gq O ay O (jQ 12 O nZ (fun W hW => kF aH O ((Kp.h hW).f4).get.2 O) (jQ 13 O nZ (fun W hW => Qb (QM ((Kp.h hW)) lT aH zeroValue184 O O) (VG D P k)) (jB 14 O nZ (fun _ => dR O) (ru (aW (aO (bT O (Z (iR underlying184 O O) (jL O (fun h1 => ?_) (fun h1 => ?_))))))))))))))))))))))
 ·(try simp only [aA] at h1)
  have hnm := Xf h1
  refine iV (dS O func174 (OO Uj) ?_)
  rintro _ w1 ⟨p1, rfl, H1⟩
  refine fP O ?_
  have aen := H1.drew
  have zu := V.kp (aen.f5.f5.f5.f5.f5)
  refine y9 [4, 9, 12] zu O (iU 0 O zu O (jY 1 O zu O (iq 2 O zu 0 ah O aU O (iq 3 O zu 3 aJ O sizeOf75 O (jQ 4 O zu (fun W hW => kF lT O ((Kp.h hW).f4).get.2 O) (iU 5 O zu O (jY 6 O zu O (iq 7 O zu 0 ah O aU O (iq 8 O zu 2 aJ O sizeOf74 O (jQ 9 O zu (fun W hW => kF lS O ((Kp.h hW).f4).get.2 O) (jY 10 O zu O (iq 11 O zu 0 gq O ay O (jQ 12 O zu (fun W hW => kF aH O ((Kp.h hW).f5).get.2 O) (iU 13 O zu O ?_))))))))))))))
  refine gy 14 O (by kernel_rfl) (xw aen.f2 lT aH O O O) ?_
  rintro _ w2 H2
  have Am := V.kp (H2.f5.f5.f5.f5.f5)
  refine gU Am (by kernel_rfl) ?_
  refine ru (aW (bT O (fC O (dK results134 O ?_))))
  have hu1 : I7 (vS P k p1) U (D ++ [k]) = (I7 P U D • jm p1 [] [] 0) := by
   rw [KH, iE, hD2 _ hnm, Ef (P' := P) (U' := U) fun x hx => ⟨tC _ _ (by rintro rfl; exact hnm hx), rfl⟩]
  have HM := V.afS H2.f5.f5.f4.f5.f5
  rw [← hu1, ← QY hnm] at HM
  have HZ := V.abW (k := k) (KI hD1 hnm) (fun k hk => hD2 k fun hm => hk (by simp [hm])) (by simp) HM
  rw [iE] at HZ
  exact ⟨_, O, HZ⟩
 ·(try simp only [aA] at h1)
  have hmem := Xd h1
  rw [Q5 hmem]
  refine gQ (bT O (fC O (dK results134 O ?_)))
  exact ⟨_, O, V.abW hD1 hD2 hmem Uj.f4.f4.f4.f4⟩
theorem V.Pg {b p : Nat} {k : Int} {U : Int → List (List jl)} (H : V w0 w (NT b U k p • jm p (U k) [] 0 • F)) : V w0 w (yF b U • F) := by
  have := H.AY
  rwa [aaT] at this
end
end Go.Proofs.YtpdeedplgmbopaaGreatDoor
end
section
namespace Go.Proofs.YtpdeedplgmbopaaGreatDoor
open Go.RowKit Go.Lib
section
variable {P : Program} {L : List (Nat × Value)} {w0 w : World} {F : HP} {ty : TypeId} {b : Nat} {v d : Int} {t : TypeId}
theorem Y4 {T : Value → World → Prop} {f : FuncId} {args : List Operand} {ts : Array TypeId} {vs : List Value} {fn : Func} {e : Array Value → Sem Value} {v : Value} {w' : World} (ha : FW L args = some vs)
    (hf : P.funcs[f]? = some fn) (hname : (fn.name == "runtime.NumGoroutine") = false) (hb : fn.body.isNone = true) (hn : Extern.findNext fn = none) (he : Extern.find fn = some e) (hr : (e vs.toArray).run P w = .ok v w') (ht : T v w') :
    wH P L (.call ⟨.value (.func f), args.toArray, ts⟩) ty w T := wz (v := v) (w' := w') (fun ρ hρ _ _ _ _ => by
  have hg : ρ (.func f) = .func (.func f) #[] #[] := hρ _ _ rfl
  have hc := run_callFunc_extern hf hname hb hn he vs.toArray w
  rw [hr] at hc
  simp [execOp, resolve, invoke, evs hρ _ _ ha, hg, Deferred.ofValue]
  exact hc) ht
theorem Uk (hc : w.cell? ⟨b, 0, none⟩ = some (.int .i64 v)) : (Extern.Atomic.loadT (.int .i64) #[.pointer (some ⟨b, 0, none⟩)]).run P w = .ok (.int .i64 v) w := by
  change Sem.run P (do Extern.Atomic.read (.int .i64) (← asAddr (.pointer (some ⟨b, 0, none⟩)))) w = _
  simp [Extern.Atomic.read, asAddr, hc, Result.andThen]
theorem aaY {f : FuncId} {args : List Operand} {ts : Array TypeId} {fn : Func} (H : V w0 w (dW b (.cells #[.int .i64 v] t (0, 0)) • F)) (ha : FW L args = some [.pointer (some ⟨b, 0, none⟩), .int .i64 d])
    (hf : P.funcs[f]? = some fn) (hname : (fn.name == "runtime.NumGoroutine") = false) (hb : fn.body.isNone = true) (hn : Extern.findNext fn = none) (he : Extern.find fn = some (Extern.Atomic.update (Op.intArith .add) .i64 true)) :
    wH P L (.call ⟨.value (.func f), args.toArray, ts⟩) ty w fun u w' => u = .int .i64 (IntKind.i64.wrap (v + d)) ∧ V w0 w' (dW b (.cells #[.int .i64 (IntKind.i64.wrap (v + d))] t (0, 0)) • F) :=
  Y4 ha hf hname hb hn he (Conc.run_add_entry (kC H.get.2 rfl) (CY H.get.2)) ⟨rfl, H.setCell (i := 0) _⟩
theorem Y5 {f : FuncId} {args : List Operand} {ts : Array TypeId} {fn : Func} (H : V w0 w (dW b (.cells #[.int .i64 v] t (0, 0)) • F)) (ha : FW L args = some [.pointer (some ⟨b, 0, none⟩)])
    (hf : P.funcs[f]? = some fn) (hname : (fn.name == "runtime.NumGoroutine") = false) (hb : fn.body.isNone = true) (hn : Extern.findNext fn = none) (he : Extern.find fn = some (Extern.Atomic.loadT (.int .i64))) :
    wH P L (.call ⟨.value (.func f), args.toArray, ts⟩) ty w fun u w' => u = .int .i64 v ∧ w = w' :=
  Y4 ha hf hname hb hn he (Uk (kC H.get.2 rfl)) ⟨rfl, rfl⟩
theorem Gu (H : V w0 w (dW b (.cells #[.int .i64 v] t (0, 0)) • F)) : iI Tryz.prog 83 #[.pointer (some ⟨b, 0, none⟩), .int .i64 d] w fun u w' => u = .int .i64 (IntKind.i64.wrap (v + d)) ∧ V w0 w' (dW b (.cells #[.int .i64 (IntKind.i64.wrap (v + d))] t (0, 0)) • F) := by
  refine oN Tryz.func83 Tryz.ntmps83 ?_
  refine jR O (bT O (dL O (bJ 0 Tryz.underlying161 O Tryz.sizeOf2 O (bP O (jV (aaY H O Tryz.func133 O O (by kernel_rfl) (by kernel_rfl)) ?_)))))
  rintro _ w1 ⟨rfl, H1⟩
  refine fC O (dK Tryz.results83 O ?_)
  exact ⟨O, H1⟩
theorem oQ (H : V w0 w (dW b (.cells #[.int .i64 v] t (0, 0)) • F)) : iI Tryz.prog 68 #[.pointer (some ⟨b, 0, none⟩)] w fun u w' => u = .int .i64 v ∧ w = w' := by
  refine jr Tryz.func68 Tryz.ntmps68 ?_
  refine jR O (bT O (dL O (bJ 0 Tryz.underlying161 O Tryz.sizeOf2 O (jV (Y5 H O Tryz.func121 O O (by kernel_rfl) (by kernel_rfl)) ?_))))
  rintro _ _ ⟨rfl, rfl⟩
  refine fC O (dK Tryz.results68 O ?_)
  exact ⟨O, O⟩
end
end Go.Proofs.YtpdeedplgmbopaaGreatDoor
end
