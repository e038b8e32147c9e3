import Derived.Test.YtpdeedplgmbopaaGreatDoorZ4
import Derived.Test.YtpdeedplgmbopaaGreatDoorZ9
import Derived.Test.YtpdeedplgmbopaaGreatDoorZ5
import Derived.Lib.OthersKept
import Derived.Lib.Bytealg
import Derived.Conc.AtomicLaws2
set_option linter.unusedSimpArgs false
set_option linter.unusedVariables false
/- Texts of mine, joined, their names in short: UGroups Ed EdTwin EdA Atom. -/
section
namespace Go.Proofs.YtpdeedplgmbopaaGreatDoor
open Go.RowKit
open _root_.Go.Proofs.Tryz
def EY (c : Nat) (G : List (List jm)) (N : List jm) (k : Nat) : HP := wE fun (x : Value × List (Value × List fA)) => fact (x.2.map (fun g => g.2.map fA.says) = Pg N ++ G.reverse.take k) • dW c (.cells #[x.1] 226 (0, 0)) • FB x.1 x.2
theorem rev_succ {G : List (List jm)} {k : Nat} (hk : k < G.length) : G.reverse.take (k + 1) = G.reverse.take k ++ [G.getD (G.length - (k + 1)) []] := by
  rw [List.take_succ_eq_append_getElem (by simpa using hk)]
  congr 1
  rw [List.getElem_reverse, List.getD_eq_getElem?_getD, List.getElem?_eq_getElem (by omega)]
  have e : G.length - 1 - k = G.length - (k + 1) := by omega
  simp only [Option.getD_some, e]
section
variable {w0 w : World} {F : HP} {p c k : Nat} {G : List (List jm)} {N : List jm} {op : Int} {v u : Value} {es fs : List fA} {gs hs : List (Value × List fA)}
theorem V.Q7 (H : V w0 w (EY c G N k • F)) : ∃ u hs, hs.map (fun g => g.2.map fA.says) = Pg N ++ G.reverse.take k ∧ hs.length ≤ G.length + 1 ∧ V w0 w (dW c (.cells #[u] 226 (0, 0)) • Row 80 1 u hs.length (hs.map (·.1)) • pY hs • F) := by
  obtain ⟨⟨u, hs⟩, H⟩ := H.nX
  obtain ⟨h, H⟩ := H.flat.fact
  refine ⟨u, hs, h, ?_, (H.flat.swap.aa9).f3⟩
  have := congrArg List.length h
  have := Zb N
  simp only [List.length_map, List.length_append, List.length_take, List.length_reverse] at *
  omega
theorem V.KJ (h : hs.map (fun g => g.2.map fA.says) = Pg N ++ G.reverse.take k) (H : V w0 w (dW c (.cells #[u] 226 (0, 0)) • FB u hs • F)) : V w0 w (EY c G N k • F) :=
  V.jw (u, hs) (V.deep (V.lK h H.deep))
theorem Xn (H : V w0 w F) (hv : v.oneCell' = true) : iE prog 175 #[v] w fun v' w' => ∃ b, v' = .func (.func 196) #[] #[.pointer (some ⟨b, 0, none⟩)] ∧ V w0 w' (dW b (.cells #[v] 226 (0, 0)) • F) := by
  refine iZ func175 ntmps175 ?_
  refine iR (kD (jL (l := [_]) H O (by first | rfl | exact Em (by first | rfl | assumption))) ?_)
  rintro _ w1 ⟨b1, rfl, H1⟩
  refine fG O (iR (Z (zf O O) (fB O (dL results175 O ?_))))
  exact ⟨_, O, H1⟩
theorem Ul (b : Nat) : Iter prog w0 (.func (.func 196) #[] #[.pointer (some ⟨b, 0, none⟩)]) (dW b (.cells #[v] 226 (0, 0)) • Row 80 1 v gs.length (gs.map (·.1)) • pY gs) gs.length
  (fun k vs A => ∃ gl zQ, gs.getD (gs.length - (k + 1)) default = (gl, zQ) ∧ vs = [.int .i64 ((gs.length - (k + 1) : Nat) : Int), gl] ∧ A = EP gl zQ) := by
 intro l J X w hy H
 refine ⟨196, [], [.pointer (some ⟨b, 0, none⟩)], _, _, O, func196, O, O, ?_⟩
 have H1 : V w0 w (dW b (.cells #[v] 226 (0, 0)) • Row 80 1 v gs.length (gs.map (·.1)) • pY gs • J 0) := H.of_eq (by ac_rfl)
 obtain ⟨a, c, hv, hc1, hc2, _⟩ := (H1.swap.aS).form
 subst hv
 simp only [List.nil_append, List.cons_append]
 refine Ye func196 ntmps196 ?_
 dsimp only [y8, Nat.reduceAdd]
 refine iR (fM bK O (H1).get.2 O (Z (kK ((H1.f2).aS) bK O) (Z (iV O O (by omega)) (fG O (aY ?_)))))
 refine gW [(0, _), (1, _)] (fun (k : Nat) => [(3, .int .i64 ((k : Int) - 1))]) (fun (k : Nat) W => k ≤ gs.length ∧ V w0 W (dW b (.cells #[.slice a gs.length c] 226 (0, 0)) • Row 80 1 (.slice a gs.length c) gs.length (gs.map (·.1)) • pY gs • J (gs.length - k))) (fun (k : Nat) => k) (gs.length) uJ lU ⟨by omega, by rw [Nat.sub_self]; exact H1⟩ ?_
 rintro k w1 ⟨hk, HL⟩
 dsimp only [List.cons_append, List.nil_append]
 refine aN (bQ O (Z (lV O O) (jB O (fun h1 => ?_) (fun h1 => ?_))))
 ·(try simp only [aA] at h1)
  refine gG (aN (aY (aN ?_)))
  obtain ⟨m, rfl⟩ : ∃ m, k = m + 1 := ⟨k - 1, by omega⟩
  rw [show (((m + 1 : Nat) : Int) - 1) = (m : Int) from by omega]
  have hkl : m < gs.length := by omega
  refine aC (jR O O (fM bK O (HL).get.2 O (bT O ?_)))
  obtain ⟨bv, ov, cv, ev⟩ := Rd.rM ((HL.f2).aS) (by omega)
  cases ev
  refine Z (dP bK bP O O (by omega)) ?_
  refine Z (fK (dA aW O) O (by first | exact Rd.ni ((HL.f2).aS) (by omega) | exact Rd.yc ((HL.f2).aS) (by omega) | exact Rd.yx ((HL.f2).aS) (by omega))) ?_
  rw [show (gs.map (·.1)).getD m undef = (gs.getD m default).1 from by simp [List.getD_eq_getElem?_getD, hkl]]
  obtain ⟨gl, zQ, hg⟩ : ∃ gl zQ, gs.getD m default = (gl, zQ) := ⟨_, _, rfl⟩
  rw [hg]
  have Ho2 := HL.f3
  have Hc3 := Ho2.Jz hkl hg
  refine kD (O9 O O (hy (gs.length - (m + 1)) (by omega) _ _ ⟨gl, zQ, by rw [show gs.length - (gs.length - (m + 1) + 1) = m from by omega]; exact hg, by rw [show gs.length - (gs.length - (m + 1) + 1) = m from by omega], O⟩ (pY gs • Row 80 1 (.slice (some ⟨bv, ov, none⟩) gs.length c) gs.length (gs.map (·.1)) • dW b (.cells #[.slice (some ⟨bv, ov, none⟩) gs.length c] 226 (0, 0))) _ (Hc3.of_eq (by ac_rfl))).bool) ?_
  rintro _ w4 ⟨t, rfl, ht1, ht2⟩
  refine Z (lJ O) (jB O (fun h2 => ?_) (fun h2 => ?_))
  ·(try simp only [aA] at h2)
   have HX := ht2 (by simpa using h2)
   refine nI (aT (aB (aB (aT (we0 results196 ?_)))))
   exact .inr (HX.of_eq (by ac_rfl))
  ·(try simp only [aA] at h2)
   have HN : V w0 w4 (dW b (.cells #[.slice (some ⟨bv, ov, none⟩) gs.length c] 226 (0, 0)) • Row 80 1 (.slice (some ⟨bv, ov, none⟩) gs.length c) gs.length (gs.map (·.1)) • pY gs • J (gs.length - m)) := by
    have h9 := ht1 (by simpa using h2)
    rw [show gs.length - (m + 1) + 1 = gs.length - m from by omega] at h9
    exact h9.of_eq (by ac_rfl)
   refine cZ (aK (aX (aC (bT O (Z (iV O O (by omega)) (iK O (bW ?_)))))))
   refine dV (m) ?_ ?_ ?_ ?_
   ·exact lU
   ·exact uJ
   ·(try dsimp only)
    first | done | exact ⟨by omega, HN.f3.f3.f3⟩
   ·(try dsimp only); omega
 ·(try simp only [aA] at h1)
  refine dO (aO (aO (bI (lM (.inr O) results196 ?_))))
  obtain rfl : k = 0 := by omega
  rw [Nat.sub_zero] at HL
  exact .inl (HL.of_eq (by ac_rfl))
theorem Jm (H : V w0 w (jo p G N op • F)) : iE prog 135 #[.pointer (some ⟨p, 0, none⟩)] w fun v w' => ∃ c, v = .func (.func 176) #[] #[.pointer (some ⟨c, 0, none⟩)] ∧ V w0 w' (EY c G N G.length • jo p G N op • F) := by
 refine iZ func135 ntmps135 ?_
 refine jQ O (iR (kD (iC (l := [_]) H zeroValue226 O) ?_))
 rintro _ w1 ⟨b1, rfl, H1⟩
 refine qQ (bQ O (dS O func158 (lQ H1.f2) ?_))
 rintro _ _ ⟨rfl, rfl⟩
 refine Z (lJ O) ?_
 obtain ⟨Dc, AA, oW, nY, lX, wL, vk, Ib, Ic, MK, rH⟩ := (H1.f2).zu
 have hLn : nY.length ≤ 16384 := by omega
 have hBn := QT vk lX.2.2.2.2.2
 refine iJ (wcE O (fun h1 => ?_))
 (try simp only [aA] at h1)
 refine kT [(0, _), (3, _)] (fun (_ : Unit) => []) (fun (_ : Unit) W => V w0 W (EY b1 G N 0 • dW p (.cells #[Dc, AA, .int .i64 op, .int .i64 (gV G N : Nat), .bool true] 235 (0, 0)) • Row 80 1 Dc oW.length (oW.map (·.1)) • pY oW • Row 189 3 AA nY.length (nY.flatMap fA.enc) • lW nY • F)) uJ ?_ ?_
 ·rintro _ w4 HJ
  dsimp only [List.cons_append, List.nil_append]
  refine bQ O (dK O (bJ 0 bM O dJ O (bJ 0 bV O gq O (fM bK O (HJ.f2).get.2 O (dS O func175 (Xn HJ (Rd.one ((HJ.f3).aS))) ?_)))))
  rintro _ w5 ⟨bB5, rfl, H5⟩
  refine iJ (aY ?_)
  obtain ⟨R6, hR6, HR6⟩ := V.ad3 (H5.f5.f5.f3.f4)
  refine BM O (Ul bB5) (fun k => EY b1 G N k • R6) (fact False) (fun _ => fact False) (HR6.f4.f4.f4.f4.f4.f4.f4.g3.comm) (by rfl) ?_ ?_ ?_ ?_
  ·rintro l7 k acV vs7 A7 ⟨gl, zQ, hg, rfl, rfl⟩ G7 w7 H7
   try simp only [dG, pO, yG] at H7
   refine ⟨O, ?_⟩
   dsimp only [Ue]
   obtain ⟨u, hs, Y8, hhl, HI⟩ := (H7.f2).Q7
   have hge : zQ.map fA.says = G.getD (G.length - (k + 1)) [] := by
    rw [← Ib, ← wL]
    have h9 : (oW.map (fun g => g.2.map fA.says)).getD (oW.length - (k + 1)) [] = (oW.getD (oW.length - (k + 1)) default).2.map fA.says := by simp [List.getD_eq_getElem?_getD, show oW.length - (k + 1) < oW.length by omega]
    rw [h9, hg]
   have hgm : G.getD (G.length - (k + 1)) [] ∈ G := yX (by omega)
   have hBg := QT hge (lX.2.2.2.2.1 _ hgm)
   have hLg : zQ.length ≤ 16384 := by
    have h8 := lX.2.1
    unfold gV at h8
    have h7 := congrArg List.length hge
    rw [List.length_map] at h7
    have h6 := JA hgm
    omega
   refine aC (iK O (bW ?_))
   refine Ud (HI.g5) ?_
   intro G8 w8 H8
   try simp only [dG] at H8
   refine aY ?_
   have aeu := H8.drew
   have Zi := V.kp (aeu.f4.f4.f4.f4)
   refine yH [0] Zi O (jO 0 O Zi (fun W hW => jV bK O ((Kp.h hW)).get.2 O) (iQ 1 O Zi O (mZ 2 O (xq O func173 (AP aeu.f4 hBg hLg)) ?_)))
   rintro u9 w9 ⟨fs9, afQ, H9⟩
   obtain ⟨es2, rfl⟩ : ∃ q, q = fs9 := ⟨_, rfl⟩
   have hes2 := afQ
   have Ua := V.kp (H9.f6.f6.f6.f6.f6.f6)
   refine eF Ua (fun W hW => (Kp.h hW).right.right.f4.f4.f4) ?_
   refine mZ 3 O (lq (vs := [_]) H9 bK bP nJ O O O (by decide) (aZ (by first | rfl | exact Rd.one ((H9).aS)) bU)) ?_
   rintro l10 w10 pR
   have Y2 := V.kp (pR.f7.f7.f7.f7.f7.f7.f7)
   refine eF Y2 (fun W hW => (Kp.h hW).right.f6.f6.f6.f6.f6.f6) ?_
   refine mZ 4 O (iy pR.f6 bK IY O O O ((pR).aS) (aZ (by first | rfl | exact Rd.one ((pR.f2).aS)) bU) (by omega) (by omega)) ?_
   rintro l11 Fv tq
   have ML := tq.f2.right
   have Kv := V.kp (ML.f6.f6.f6.f6.f6.f6)
   refine iG Kv (by kernel_rfl) ?_
   refine gB 5 O (by kernel_rfl) (fP 0 (l' := [_]) ML.f5 gq O O (by first | rfl | exact Rd.one ((ML).aS)) O O) ?_
   rintro _ Qh wo
   have yB := V.kp (wo.f6.f6.f6.f6.f6.f6)
   refine iG yB (by kernel_rfl) ?_
   refine qV (aK ?_)
   refine Ky ?_
   have X := V.rU (es := es2) (wo.f5.right.f5.f3.f5.f5).deep
   exact (V.KJ (hs := hs ++ [(u9, es2)]) (by rw [List.map_append, Y8, rev_succ (by omega), ← hge, ← hes2, List.append_assoc]; rfl) (V.uT X.swap).swap).deep
  ·rintro D14 OQ AZ
   have QG := AZ.ed
   try simp only [dG, pO, yG] at QG
   have acW := QG.Vq
   subst hR6
   refine aK (aX (iR (Z (zf O O) (fB O ?_))))
   refine Jt (.inl O) (acW) (fun QE zU => ?_)
   refine ⟨_, acH results135 O, ?_⟩
   have hgl : EY b1 G N oW.length = EY b1 G N G.length := by rw [Ib]
   rw [hgl] at zU
   have Um := zU.f7.f7.f5.f5.f7
   have Un := V.oM lX wL vk rfl Um
   exact ⟨_, O, Un.f2.right.f2⟩
  ·rintro D w H; exact absurd H.swap.fact.1 id
  ·rintro id D w H; exact absurd H.swap.fact.1 fun h => h
 ·skip
  refine bQ O (dK O (bJ 0 bM O dJ O (bJ 1 bV O bP O (fM aW O (rH).get.2 O (Z (kK ((rH.f4).aS) aW O) (Z (dY O O) (jB O (fun h2 => ?_) (fun h2 => ?_))))))))
  ·(try simp only [aA] at h2)
   have hN : Pg N = [N] := if_neg (by rintro rfl; exact absurd Ic (by simp only [List.length_nil]; omega))
   have ach := rH.drew
   have FK := V.kp (ach.f6.f6.f6.f6.f6.f6)
   refine yH [0, 5] FK O (jO 0 O FK (fun W hW => jV bK O ((Kp.h hW).f6).get.2 O) (iQ 1 O FK O (jU 2 O FK O (gU 3 O FK 0 bM O dJ O (gU 4 O FK 1 bV O bP O (jO 5 O FK (fun W hW => jV aW O ((Kp.h hW)).get.2 O) (mZ 6 O (xq O func173 (DI ach.f5.f5 hBn hLn)) ?_)))))))
   rintro u19 w19 ⟨afR, aev, EF⟩
   obtain ⟨es1, rfl⟩ : ∃ q, q = afR := ⟨_, rfl⟩
   have hes1 := aev
   have Q8 := V.kp (EF.f8.f8.f8.f8.f8.f8.f8.f8)
   refine eF Q8 (fun W hW => (Kp.h hW).right.right.f6.f3.f3.f6.f6.f6) ?_
   refine mZ 7 O (lq (vs := [_]) EF bK bP nJ O O O (by decide) (aZ (by first | rfl | exact Rd.one ((EF).aS)) bU)) ?_
   rintro l20 w20 F9
   have DN := V.kp (F9.f9.f9.f9.f9.f9.f9.f9.f9.f9)
   refine eF DN (fun W hW => (Kp.h hW).right.f8.f8.f8.f8.f8.f8.f8.f8) ?_
   refine mZ 8 O (iy (F9.jk none) bK IY O O O ((F9).aS) (aZ (by first | rfl | exact Rd.one ((F9.f2).aS)) bU) (by omega) (by omega)) ?_
   rintro l21 w21 vO
   have Pv := vO.f2.right
   have GH := V.kp (Pv.f9.f9.f9.f9.f9.f9.f9.f9.f9)
   refine iG GH (by kernel_rfl) ?_
   refine gB 9 O (by kernel_rfl) (fP 0 (l' := [_]) Pv.f9 gq O O (by first | rfl | exact Rd.one ((Pv).aS)) O O) ?_
   rintro _ w23 CQ
   have I5 := V.kp (CQ.f9.f9.f9.f9.f9.f9.f9.f9.f9)
   refine iG I5 (by kernel_rfl) ?_
   have X := V.rU (es := es1) (CQ.f6.f6.f9.f9.f9.f6.f7.f9.f9).deep
   have hJn : V w0 w23 (EY b1 G N 0 • dW p (.cells #[Dc, AA, .int .i64 op, .int .i64 (gV G N : Nat), .bool true] 235 (0, 0)) • Row 80 1 Dc oW.length (oW.map (·.1)) • pY oW • Row 189 3 AA nY.length (nY.flatMap fA.enc) • lW nY • F) :=
    V.KJ (hs := [(u19, es1)]) (by rw [hN, ← vk, ← hes1]; rfl) (V.uT (gs := []) X.Kq.f3.f3.f2).swap
   refine qV ?_
   refine dw (()) ?_ ?_ ?_
   ·exact (Sub.nil _)
   ·exact uJ
   ·(try dsimp only)
    first | done | exact hJn
  ·(try simp only [aA] at h2)
   have hN : Pg N = [] := if_pos (by rw [← vk, List.eq_nil_of_length_eq_zero (show nY.length = 0 by omega)]; rfl)
   have hJn : V w0 w1 (EY b1 G N 0 • dW p (.cells #[Dc, AA, .int .i64 op, .int .i64 (gV G N : Nat), .bool true] 235 (0, 0)) • Row 80 1 Dc oW.length (oW.map (·.1)) • pY oW • Row 189 3 AA nY.length (nY.flatMap fA.enc) • lW nY • F) :=
    V.KJ (hs := []) (by rw [hN]; rfl) ((rH.f5.f5.f5.f5.f5.f6).Gu none).swap
   refine cZ ?_
   refine dw (()) ?_ ?_ ?_
   ·exact (Sub.nil _)
   ·exact uJ
   ·(try dsimp only)
    first | done | exact hJn
theorem Q9 (c : Nat) (hB : ∀ g ∈ FD G N, ∀ e ∈ g, EB e) (hL : ∀ g ∈ FD G N, g.length ≤ 16384) : Iter prog w0 (.func (.func 176) #[] #[.pointer (some ⟨c, 0, none⟩)]) (EY c G N G.length) (FD G N).length
  (fun k vs A => ∃ u, ∃ fs : List fA, fs.map fA.says = (FD G N).getD k [] ∧ vs = [u] ∧ A = L6 u fs) := by
 intro l J X w hy H
 refine ⟨176, [], [.pointer (some ⟨c, 0, none⟩)], _, _, O, func176, O, O, ?_⟩
 obtain ⟨v, hs, Y8, hhl, H1⟩ := H.comm.Q7
 have aew := Y8
 rw [List.take_of_length_le (by simp), ← abe] at Y8
 have hlen : hs.length = (FD G N).length := by have := congrArg List.length Y8; simpa using this
 obtain ⟨a, d, hv, hc1, hc2, _⟩ := (H1.swap.aS).form
 subst hv
 simp only [List.nil_append, List.cons_append]
 refine Ye func176 ntmps176 ?_
 dsimp only [y8, Nat.reduceAdd]
 refine iR (fM bK O (H1).get.2 O (Z (kK ((H1.f2).aS) bK O) (bT O (iJ (aY ?_)))))
 refine gW [(0, _), (5, _), (6, _)] (fun (k : Nat) => [(7, .int .i64 (k : Int))]) (fun (k : Nat) W => k ≤ hs.length ∧ V w0 W (dW c (.cells #[.slice a hs.length d] 226 (0, 0)) • Row 80 1 (.slice a hs.length d) hs.length (hs.map (·.1)) • pY hs • J k)) (fun (k : Nat) => hs.length - k) (0) uK lU ⟨by omega, H1⟩ ?_
 rintro k w1 ⟨hk, HL⟩
 dsimp only [List.cons_append, List.nil_append]
 refine iR (Z (fZ O O) (qQ (bD O (fun h1 => ?_) (fun h1 => ?_))))
 ·(try simp only [aA] at h1)
  refine gG (aN (aY (iR ?_)))
  obtain ⟨bv, ov, cv, ev⟩ := Rd.rM ((HL.f2).aS) (by omega)
  cases ev
  refine Z (dP bK bP O O (by omega)) ?_
  refine Z (fK (dA aW O) O (by first | exact Rd.ni ((HL.f2).aS) (by omega) | exact Rd.yc ((HL.f2).aS) (by omega) | exact Rd.yx ((HL.f2).aS) (by omega))) ?_
  have hkl : k < hs.length := by omega
  rw [show (hs.map (·.1)).getD k undef = (hs.getD k default).1 from by simp [List.getD_eq_getElem?_getD, hkl]]
  obtain ⟨gl, zQ, hg⟩ : ∃ gl zQ, hs.getD k default = (gl, zQ) := ⟨_, _, rfl⟩
  rw [hg]
  have Ho2 := HL.f3
  have Hc3 := Ho2.Jz hkl hg
  have hge : zQ.map fA.says = (FD G N).getD k [] := by
   rw [← Y8]
   have h9 : (hs.map (fun g => g.2.map fA.says)).getD k [] = (hs.getD k default).2.map fA.says := by simp [List.getD_eq_getElem?_getD, hkl]
   rw [h9, hg]
  have hgm : (FD G N).getD k [] ∈ FD G N := yX (by omega)
  have hBg := QT hge (hB _ hgm)
  have hLg : zQ.length ≤ 16384 := by
   have h7 := congrArg List.length hge
   rw [List.length_map] at h7
   have := hL _ hgm
   omega
  refine fG O (bQ O (bT O (dS O func173 (AP Hc3 hBg hLg) ?_)))
  rintro u4 w4 ⟨fs4, afS, H4⟩
  obtain ⟨es2, rfl⟩ : ∃ q, q = fs4 := ⟨_, rfl⟩
  have hes2 := afS
  have Hd5 := H4.f3.right
  refine kD (O9 O O (hy k (by omega) _ _ ⟨_, es2, hes2.trans hge, O, O⟩ (pY hs • Row 80 1 (.slice (some ⟨bv, ov, none⟩) hs.length d) hs.length (hs.map (·.1)) • dW c (.cells #[.slice (some ⟨bv, ov, none⟩) hs.length d] 226 (0, 0))) _ (Hd5.of_eq (by unfold L6; ac_rfl))).bool) ?_
  rintro _ w6 ⟨t, rfl, ht1, ht2⟩
  refine Z (lJ O) (jB O (fun h2 => ?_) (fun h2 => ?_))
  ·(try simp only [aA] at h2)
   have HX := ht2 (by simpa using h2)
   refine nI (aT (aB (aB (aT (we0 results176 ?_)))))
   exact .inr (V.comm (V.KJ (u := .slice (some ⟨bv, ov, none⟩) hs.length d) aew (HX.of_eq (by unfold FB; ac_rfl))))
  ·(try simp only [aA] at h2)
   have HN : V w0 w6 (dW c (.cells #[.slice (some ⟨bv, ov, none⟩) hs.length d] 226 (0, 0)) • Row 80 1 (.slice (some ⟨bv, ov, none⟩) hs.length d) hs.length (hs.map (·.1)) • pY hs • J (k + 1)) := by
    have h9 := ht1 (by simpa using h2)
    exact h9.of_eq (by ac_rfl)
   refine cZ (aK (aX (aC (Z (fJ O O (by omega)) (bT O (bW ?_))))))
   refine dV (k + 1) ?_ ?_ ?_ ?_
   ·exact lU
   ·exact uK
   ·(try dsimp only)
    first | done | exact ⟨by omega, HN.f3.f3.f3⟩
   ·(try dsimp only); omega
 ·(try simp only [aA] at h1)
  refine dO (aO (aO (bI (lM (.inr O) results176 ?_))))
  obtain rfl : k = hs.length := by omega
  rw [← hlen]
  exact .inl (V.comm (V.KJ (u := .slice a hs.length d) aew (HL.of_eq (by unfold FB; ac_rfl))))
end
end Go.Proofs.YtpdeedplgmbopaaGreatDoor
end
section
namespace Go.Proofs.YtpdeedplgmbopaaGreatDoor
open Go.RowKit
def I7 (P : Int → Nat) (U : Int → List (List jm)) : List Int → HP
  | [] => emp
  | k :: D => jo (P k) (U k) [] 0 • I7 P U D
def Rf (D : List Int) (P : Int → Nat) : Int → Option Value := fun k => if k ∈ D then some (.pointer (some ⟨P k, 0, none⟩)) else none
theorem uV {P : Int → Nat} {U : Int → List (List jm)} {k : Int} : ∀ {D : List Int}, k ∈ D → I7 P U D = (jo (P k) (U k) [] 0 • I7 P U (D.erase k))
  | x :: D, h => by
    by_cases e : x = k
    · subst e; rw [List.erase_cons_head]; rfl
    · rw [List.erase_cons_tail (by simpa using e)]
      have hk : k ∈ D := (List.mem_cons.1 h).resolve_left (Ne.symm e)
      show (jo (P x) (U x) [] 0 • I7 P U D) = _
      rw [uV hk]
      show (jo (P x) (U x) [] 0 • jo (P k) (U k) [] 0 • I7 P U (D.erase k)) = (jo (P k) (U k) [] 0 • (jo (P x) (U x) [] 0 • I7 P U (D.erase k)))
      ac_rfl
theorem Eo {P P' : Int → Nat} {U U' : Int → List (List jm)} : ∀ {D : List Int}, (∀ k ∈ D, P k = P' k ∧ U k = U' k) → I7 P U D = I7 P' U' D
  | [], _ => rfl
  | x :: D, h => by
    show (jo (P x) (U x) [] 0 • I7 P U D) = (jo (P' x) (U' x) [] 0 • I7 P' U' D)
    rw [(h x (by simp)).1, (h x (by simp)).2, Eo fun k hk => h k (List.mem_cons_of_mem _ hk)]
def yN (b : Nat) (U : Int → List (List jm)) : HP := wE fun (x : List Int × (Int → Nat)) => fact (x.1.Nodup ∧ ∀ k, k ∉ x.1 → U k = []) • gY uw b (Rf x.1 x.2) • I7 x.2 U x.1
def N9 (b : Nat) (U : Int → List (List jm)) (k : Int) (p : Nat) : HP := wE fun (x : List Int × (Int → Nat)) => fact (x.1.Nodup ∧ (∀ k, k ∉ x.1 → U k = []) ∧ k ∈ x.1 ∧ x.2 k = p) • gY uw b (Rf x.1 x.2) • I7 x.2 U (x.1.erase k)
section
variable {w0 w : World} {F : HP} {b p : Nat} {k : Int} {U : Int → List (List jm)} {G : List (List jm)}
theorem V.abk (H : V w0 w (yN b U • F)) : ∃ D P, (D : List Int).Nodup ∧ (∀ k, k ∉ D → U k = []) ∧ V w0 w (gY uw b (Rf D P) • I7 P U D • F) := by
  obtain ⟨⟨D, P⟩, H⟩ := H.nX
  obtain ⟨⟨h1, h2⟩, H⟩ := H.flat.fact
  exact ⟨D, P, h1, h2, H.flat⟩
theorem V.Ep {D : List Int} {P : Int → Nat} (h1 : D.Nodup) (h2 : ∀ k, k ∉ D → U k = []) (H : V w0 w (gY uw b (Rf D P) • I7 P U D • F)) : V w0 w (yN b U • F) :=
  V.jw (D, P) (V.deep (V.lK ⟨h1, h2⟩ H.deep))
theorem V.aci {D : List Int} {P : Int → Nat} (h1 : D.Nodup) (h2 : ∀ k, k ∉ D → U k = []) (hk : k ∈ D) (H : V w0 w (gY uw b (Rf D P) • I7 P U D • F)) : V w0 w (jo (P k) (U k) [] 0 • N9 b U k (P k) • F) := by
  have H1 : V w0 w ((gY uw b (Rf D P) • I7 P U (D.erase k)) • jo (P k) (U k) [] 0 • F) := H.of_eq (by rw [uV hk]; ac_rfl)
  have H2 : V w0 w (N9 b U k (P k) • jo (P k) (U k) [] 0 • F) := V.jw (D, P) (V.deep (V.lK ⟨h1, h2, hk, rfl⟩ H1))
  exact H2.swap
theorem V.Bj (H : V w0 w (N9 b U k p • jo p G [] 0 • F)) : V w0 w (yN b (xI U k G) • F) := by
  obtain ⟨⟨D, P⟩, H⟩ := H.nX
  obtain ⟨⟨h1, h2, hk, hp⟩, H⟩ := H.flat.fact
  dsimp only at h1 h2 hk hp H
  subst hp
  refine V.Ep (D := D) (P := P) h1 (fun x hx => ?_) ?_
  · rw [vU _ _ (by rintro rfl; exact hx hk)]; exact h2 x hx
  · rw [uV (U := xI U k G) hk, iL, Eo (P' := P) (U' := U) fun x hx => ⟨rfl, vU _ _ (by rintro rfl; exact (List.Nodup.not_mem_erase h1) hx)⟩]
    exact H.of_eq (by ac_rfl)
end
def vV (t : Int → Option ByteArray) : Int → Option Value := fun k => (t k).map .string
def Uo (pb pr pw pt pm : Nat) (c : oC) : HP := iP pb c.L c.pt c.mark • dZ pr c.E c.at_ • dW pw (.cells #[.int .i64 c.place, .map (some pt)] 122 (0, 0)) • gY uw pt (vV c.tx) • yN pm c.un
def Rh (pb pr pw pm : Nat) (c : oC) : List Value := [.pointer (some ⟨pb, 0, none⟩), .pointer (some ⟨pr, 0, none⟩), .pointer (some ⟨pw, 0, none⟩), .map (some pm), .int .i64 c.mode, .bool c.over, .int .i64 c.last, .int .i64 c.fr, .int .i64 c.to, .int .i64 c.res, .bool c.run]
def xM (inn : Bool) (c : oC) (u : List Value) : HP := if inn = true then wE fun (x : Nat × Nat × Nat × Nat × Nat) => fact (u = Rh x.1 x.2.1 x.2.2.1 x.2.2.2.2 c) • Uo x.1 x.2.1 x.2.2.1 x.2.2.2.1 x.2.2.2.2 c else (fact ((u.all fun x => x.oneCell') = true))
def Ur (hl : List sN) (c : oC) : Prop := 0 ≤ c.place ∧ c.place ≤ hl.length ∧ (∀ k t, c.tx k = some t → t.size ≤ 16384)
def zC (e : jm) : Prop := 0 ≤ e.1 ∧ 0 < e.2.1.length + e.2.2.length ∧ e.2.1.length ≤ 1024 ∧ e.2.2.length ≤ 1024
def mM (s : bn) : Prop := Ur s.hl s.c ∧ (s.inn = true → Ur s.hl s.was ∧ gV (s.was.un s.was.place) [] ≤ 16384 ∧ ∀ k, ∀ g ∈ s.was.un k, ∀ e ∈ g, zC e) ∧ (-1 ≤ s.arg ∧ s.arg ≤ 1000000) ∧ (∀ e ∈ s.put, zC e) ∧ gV s.here s.put ≤ 16384 ∧ (∀ k, ∀ g ∈ s.c.un k, ∀ e ∈ g, zC e)
structure EdP where
  pb : Nat
  pr : Nat
  pw : Nat
  pt : Nat
  pm : Nat
  ph : Nat
  bl : Nat
  pv : Value
  es : List fA
  u0 : Value
  u1 : Value
  u2 : Value
  u3 : Value
  u4 : Value
  u5 : Value
  u6 : Value
  u7 : Value
  u8 : Value
  u9 : Value
  ua : Value
def EdG (e : Nat) (s : bn) (M : Nat → HP) : HP := wE fun (x : EdP) => fact (mM s ∧ x.es.map fA.says = s.put) •
  dW e (.cells (.pointer (some ⟨x.pb, 0, none⟩) :: .pointer (some ⟨x.pr, 0, none⟩) :: .pointer (some ⟨x.pw, 0, none⟩) :: .map (some x.pm) :: .int .i64 s.c.mode :: .bool s.c.over :: .int .i64 s.c.last :: .int .i64 s.c.fr :: .int .i64 s.c.to :: .int .i64 s.c.res :: .bool s.c.run :: .pointer (some ⟨x.ph, 0, none⟩) :: .pointer (some ⟨x.bl, 0, none⟩) :: .bool s.given :: .bool s.minus :: .int .i64 s.arg :: .bool s.inn :: x.u0 :: x.u1 :: x.u2 :: x.u3 :: x.u4 :: x.u5 :: x.u6 :: x.u7 :: x.u8 :: x.u9 :: x.ua :: .int .i64 s.cls :: .bool s.killed :: .bool s.kU :: .bool s.argues :: .bool s.whole :: x.pv :: []).toArray 82 (0, 0)) •
  iP x.pb s.c.L s.c.pt s.c.mark • dZ x.pr s.c.E s.c.at_ • dW x.pw (.cells #[.int .i64 s.c.place, .map (some x.pt)] 122 (0, 0)) • gY uw x.pt (vV s.c.tx) • M x.pm •
  iY x.ph s.hl s.base s.most • dW x.bl (.cells #[.int .i64 s.um] 161 (0, 0)) • Row 189 3 x.pv s.put.length (x.es.flatMap fA.enc) • lW x.es • xM s.inn s.was [x.u0, x.u1, x.u2, x.u3, x.u4, x.u5, x.u6, x.u7, x.u8, x.u9, x.ua]
def eP (e : Nat) (s : bn) : HP := EdG e s fun pm => yN pm s.c.un
def afT (e : Nat) (s : bn) (p : Nat) : HP := EdG e s fun pm => N9 pm s.c.un s.c.place p
section
variable {w0 w : World} {F : HP} {e : Nat} {s : bn} {M : Nat → HP}
theorem V.edG (H : V w0 w (EdG e s M • F)) : ∃ pb pr pw pt pm ph bl pv es u0 u1 u2 u3 u4 u5 u6 u7 u8 u9 ua, mM s ∧ es.map fA.says = s.put ∧ es.length = s.put.length ∧ V w0 w (
  dW e (.cells (.pointer (some ⟨pb, 0, none⟩) :: .pointer (some ⟨pr, 0, none⟩) :: .pointer (some ⟨pw, 0, none⟩) :: .map (some pm) :: .int .i64 s.c.mode :: .bool s.c.over :: .int .i64 s.c.last :: .int .i64 s.c.fr :: .int .i64 s.c.to :: .int .i64 s.c.res :: .bool s.c.run :: .pointer (some ⟨ph, 0, none⟩) :: .pointer (some ⟨bl, 0, none⟩) :: .bool s.given :: .bool s.minus :: .int .i64 s.arg :: .bool s.inn :: u0 :: u1 :: u2 :: u3 :: u4 :: u5 :: u6 :: u7 :: u8 :: u9 :: ua :: .int .i64 s.cls :: .bool s.killed :: .bool s.kU :: .bool s.argues :: .bool s.whole :: pv :: []).toArray 82 (0, 0)) •
  iP pb s.c.L s.c.pt s.c.mark • dZ pr s.c.E s.c.at_ • dW pw (.cells #[.int .i64 s.c.place, .map (some pt)] 122 (0, 0)) • gY uw pt (vV s.c.tx) • M pm •
  iY ph s.hl s.base s.most • dW bl (.cells #[.int .i64 s.um] 161 (0, 0)) • Row 189 3 pv s.put.length (es.flatMap fA.enc) • lW es • xM s.inn s.was [u0, u1, u2, u3, u4, u5, u6, u7, u8, u9, ua] • F) := by
  obtain ⟨⟨pb, pr, pw, pt, pm, ph, bl, pv, es, u0, u1, u2, u3, u4, u5, u6, u7, u8, u9, ua⟩, H⟩ := H.nX
  obtain ⟨⟨h1, h2⟩, H⟩ := H.flat.fact
  refine ⟨pb, pr, pw, pt, pm, ph, bl, pv, es, u0, u1, u2, u3, u4, u5, u6, u7, u8, u9, ua, h1, h2, ?_, ?_⟩
  · rw [← h2]; simp
  · dsimp only at H
    exact H.of_eq (by simp only [dG])
theorem V.ac3 {pb pr pw pt pm ph bl : Nat} {pv : Value} {es : List fA} {u0 u1 u2 u3 u4 u5 u6 u7 u8 u9 ua : Value} (h1 : mM s) (h2 : es.map fA.says = s.put) (H : V w0 w (
  dW e (.cells (.pointer (some ⟨pb, 0, none⟩) :: .pointer (some ⟨pr, 0, none⟩) :: .pointer (some ⟨pw, 0, none⟩) :: .map (some pm) :: .int .i64 s.c.mode :: .bool s.c.over :: .int .i64 s.c.last :: .int .i64 s.c.fr :: .int .i64 s.c.to :: .int .i64 s.c.res :: .bool s.c.run :: .pointer (some ⟨ph, 0, none⟩) :: .pointer (some ⟨bl, 0, none⟩) :: .bool s.given :: .bool s.minus :: .int .i64 s.arg :: .bool s.inn :: u0 :: u1 :: u2 :: u3 :: u4 :: u5 :: u6 :: u7 :: u8 :: u9 :: ua :: .int .i64 s.cls :: .bool s.killed :: .bool s.kU :: .bool s.argues :: .bool s.whole :: pv :: []).toArray 82 (0, 0)) •
  iP pb s.c.L s.c.pt s.c.mark • dZ pr s.c.E s.c.at_ • dW pw (.cells #[.int .i64 s.c.place, .map (some pt)] 122 (0, 0)) • gY uw pt (vV s.c.tx) • M pm •
  iY ph s.hl s.base s.most • dW bl (.cells #[.int .i64 s.um] 161 (0, 0)) • Row 189 3 pv s.put.length (es.flatMap fA.enc) • lW es • xM s.inn s.was [u0, u1, u2, u3, u4, u5, u6, u7, u8, u9, ua] • F)) : V w0 w (EdG e s M • F) :=
  V.jw ⟨pb, pr, pw, pt, pm, ph, bl, pv, es, u0, u1, u2, u3, u4, u5, u6, u7, u8, u9, ua⟩ (V.deep (V.lK ⟨h1, h2⟩ (H.of_eq (by simp only [dG]))))
theorem V.iq {pb pr pw pt pm ph bl : Nat} {pv : Value} {es : List fA} {u0 u1 u2 u3 u4 u5 u6 u7 u8 u9 ua : Value} (h1 : mM s) (h2 : es.map fA.says = s.put) (H : V w0 w (
  dW e (.cells (.pointer (some ⟨pb, 0, none⟩) :: .pointer (some ⟨pr, 0, none⟩) :: .pointer (some ⟨pw, 0, none⟩) :: .map (some pm) :: .int .i64 s.c.mode :: .bool s.c.over :: .int .i64 s.c.last :: .int .i64 s.c.fr :: .int .i64 s.c.to :: .int .i64 s.c.res :: .bool s.c.run :: .pointer (some ⟨ph, 0, none⟩) :: .pointer (some ⟨bl, 0, none⟩) :: .bool s.given :: .bool s.minus :: .int .i64 s.arg :: .bool s.inn :: u0 :: u1 :: u2 :: u3 :: u4 :: u5 :: u6 :: u7 :: u8 :: u9 :: ua :: .int .i64 s.cls :: .bool s.killed :: .bool s.kU :: .bool s.argues :: .bool s.whole :: pv :: []).toArray 82 (0, 0)) •
  iP pb s.c.L s.c.pt s.c.mark • dZ pr s.c.E s.c.at_ • dW pw (.cells #[.int .i64 s.c.place, .map (some pt)] 122 (0, 0)) • gY uw pt (vV s.c.tx) • yN pm s.c.un •
  iY ph s.hl s.base s.most • dW bl (.cells #[.int .i64 s.um] 161 (0, 0)) • Row 189 3 pv s.put.length (es.flatMap fA.enc) • lW es • xM s.inn s.was [u0, u1, u2, u3, u4, u5, u6, u7, u8, u9, ua] • F)) : V w0 w (eP e s • F) := V.ac3 (M := fun pm => yN pm s.c.un) h1 h2 H
theorem V.GI (H : V w0 w (eP e s • F)) : ∃ pb pr pw pt pm ph bl pv es u0 u1 u2 u3 u4 u5 u6 u7 u8 u9 ua, mM s ∧ es.map fA.says = s.put ∧ es.length = s.put.length ∧ V w0 w (
  dW e (.cells (.pointer (some ⟨pb, 0, none⟩) :: .pointer (some ⟨pr, 0, none⟩) :: .pointer (some ⟨pw, 0, none⟩) :: .map (some pm) :: .int .i64 s.c.mode :: .bool s.c.over :: .int .i64 s.c.last :: .int .i64 s.c.fr :: .int .i64 s.c.to :: .int .i64 s.c.res :: .bool s.c.run :: .pointer (some ⟨ph, 0, none⟩) :: .pointer (some ⟨bl, 0, none⟩) :: .bool s.given :: .bool s.minus :: .int .i64 s.arg :: .bool s.inn :: u0 :: u1 :: u2 :: u3 :: u4 :: u5 :: u6 :: u7 :: u8 :: u9 :: ua :: .int .i64 s.cls :: .bool s.killed :: .bool s.kU :: .bool s.argues :: .bool s.whole :: pv :: []).toArray 82 (0, 0)) •
  iP pb s.c.L s.c.pt s.c.mark • dZ pr s.c.E s.c.at_ • dW pw (.cells #[.int .i64 s.c.place, .map (some pt)] 122 (0, 0)) • gY uw pt (vV s.c.tx) • yN pm s.c.un •
  iY ph s.hl s.base s.most • dW bl (.cells #[.int .i64 s.um] 161 (0, 0)) • Row 189 3 pv s.put.length (es.flatMap fA.enc) • lW es • xM s.inn s.was [u0, u1, u2, u3, u4, u5, u6, u7, u8, u9, ua] • F) := H.edG
end
end Go.Proofs.YtpdeedplgmbopaaGreatDoor
end
section
namespace Go.Proofs.YtpdeedplgmbopaaGreatDoor
open Go.RowKit
open _root_.Go.Proofs.Tryz
def Px {β : Type} (f : Int → Option β) (S : List Int) : Int → Option β := fun k => if k ∈ S then f k else none
theorem Ri {β : Type} (f : Int → Option β) : Px f [] = fun _ => none := by funext k; simp [Px]
theorem Oa {β : Type} {f : Int → Option β} {S : List Int} {a : Int} {u : β} (h : f a = some u) : Px f (S ++ [a]) = upd (Px f S) a u := by
  funext k
  unfold Px upd
  by_cases hk : k = a
  · subst hk; simp [h]
  · simp [hk]
theorem Rj {β : Type} {f : Int → Option β} {S : List Int} (h : ∀ a u, f a = some u → a ∈ S) : Px f S = f := by
  funext k
  unfold Px
  split
  · rfl
  · rename_i hk
    cases hf : f k with
    | none => rfl
    | some u => exact absurd (h k u hf) hk
theorem VR (P : Int → Nat) : Rf [] P = fun _ => none := by funext k; simp [Rf]
theorem Zj {D : List Int} {P : Int → Nat} {a : Int} {u : Value} (h : Rf D P a = some u) : a ∈ D ∧ u = .pointer (some ⟨P a, 0, none⟩) := by
  unfold Rf at h
  split at h
  · rename_i hm; exact ⟨hm, by cases h; rfl⟩
  · cases h
theorem Rk {S : List Int} {P : Int → Nat} {a : Int} {q : Nat} (h : a ∉ S) : Rf (S ++ [a]) (xI P a q) = upd (Rf S P) a (.pointer (some ⟨q, 0, none⟩)) := by
  funext k
  unfold Rf upd xI
  by_cases hk : k = a
  · subst hk; simp
  · simp [hk]
theorem KL {P : Int → Nat} {U : Int → List (List jm)} {a : Int} : ∀ {S : List Int}, I7 P U (S ++ [a]) = (I7 P U S • jo (P a) (U a) [] 0)
  | [] => by show (jo (P a) (U a) [] 0 • emp) = (emp • jo (P a) (U a) [] 0); rw [yG, pO]
  | x :: S => by
    show (jo (P x) (U x) [] 0 • I7 P U (S ++ [a])) = ((jo (P x) (U x) [] 0 • I7 P U S) • jo (P a) (U a) [] 0)
    rw [KL, dG]
theorem Ij {α : Type} {o : Option α} (h : ¬ o.isSome = true) : o = none := by cases o <;> simp_all
theorem KN {S : List Int} {a : Int} (h : S.Nodup) (ha : a ∉ S) : (S ++ [a]).Nodup := by
  rw [List.nodup_append]
  exact ⟨h, by simp, by intro x hx y hy; rw [List.mem_singleton.1 hy]; rintro rfl; exact ha hx⟩
section
variable {w0 w : World} {F : HP} {pb pr pw pt pm : Nat} {c : oC}
theorem Rl (H : V w0 w (iP pb c.L c.pt c.mark • dZ pr c.E c.at_ • dW pw (.cells #[.int .i64 c.place, .map (some pt)] 122 (0, 0)) • gY uw pt (vV c.tx) • yN pm c.un • F)) :
  iE prog 80 #[.agg #[.pointer (some ⟨pb, 0, none⟩), .pointer (some ⟨pr, 0, none⟩), .pointer (some ⟨pw, 0, none⟩), .map (some pm), .int .i64 c.mode, .bool c.over, .int .i64 c.last, .int .i64 c.fr, .int .i64 c.to, .int .i64 c.res, .bool c.run]] w fun v w' =>
   ∃ qb qr qw qt qm, v = .agg #[.pointer (some ⟨qb, 0, none⟩), .pointer (some ⟨qr, 0, none⟩), .pointer (some ⟨qw, 0, none⟩), .map (some qm), .int .i64 c.mode, .bool c.over, .int .i64 c.last, .int .i64 c.fr, .int .i64 c.to, .int .i64 c.res, .bool c.run] ∧
    V w0 w' (iP qb c.L c.pt c.mark • dZ qr c.E c.at_ • dW qw (.cells #[.int .i64 c.place, .map (some qt)] 122 (0, 0)) • gY uw qt (vV c.tx) • yN qm c.un •
     iP pb c.L c.pt c.mark • dZ pr c.E c.at_ • dW pw (.cells #[.int .i64 c.place, .map (some pt)] 122 (0, 0)) • gY uw pt (vV c.tx) • yN pm c.un • F) := by
 refine iZ func80 ntmps80 ?_
 refine iR (kD (jL (l := [_, _, _, _, _, _, _, _, _, _, _]) H O O) ?_)
 rintro _ w1 ⟨b1, rfl, H1⟩
 refine kD (iC (l := [_, _, _, _, _, _, _, _, _, _, _]) H1 nK O) ?_
 rintro _ w2 ⟨b2, rfl, H2⟩
 refine qQ ?_
 have YQ := H2.drew
 have Bc := V.kp (YQ.f7.f7.f7.f7.f7.f7.f7)
 refine yH [1, 4] Bc O (gU 0 O Bc 0 aI O mO O (jO 1 O Bc (fun W hW => jV jH O ((Kp.h hW).f2).get.2 O) (gU 3 O Bc 1 aI O sizeOf73 O (jO 4 O Bc (fun W hW => jV qR O ((Kp.h hW).f2).get.2 O) (mZ 2 O (xq O func129 (Md YQ.f3)) ?_)))))
 rintro _ w3 ⟨q3, rfl, H3⟩
 have Az := V.kp (H3.f8.f8.f8.f8.f8.f8.f8.f8)
 refine eF Az (fun W hW => (Kp.h hW).right.f7.f7.f7.f7.f5.f7.f7) ?_
 refine gU 6 O Az 0 aI O mO O (mZ 5 O (xq O func85 (Dy H3.f5)) ?_)
 rintro _ w4 ⟨pc4, rfl, H4⟩
 have zq := V.kp (H4.f9.f9.f9.f9.f9.f9.f9.f9.f9)
 refine iG zq (by kernel_rfl) ?_
 refine gB 7 O (by kernel_rfl) (fP 0 (l' := [_, _, _, _, _, _, _, _, _, _, _]) H4.f6 mO O O (by first | rfl | assumption) O O) ?_
 rintro _ w5 H5
 have FC := V.kp (H5.f9.f9.f9.f9.f9.f9.f9.f9.f9)
 refine iG FC (by kernel_rfl) ?_
 refine gU 8 O FC 1 aI O sizeOf73 O ?_
 refine gB 9 O (by kernel_rfl) (fP 1 (l' := [_, _, _, _, _, _, _, _, _, _, _]) H5 sizeOf73 O O (by first | rfl | assumption) O O) ?_
 rintro _ w6 H6
 have BR := V.kp (H6.f9.f9.f9.f9.f9.f9.f9.f9.f9)
 refine iG BR (by kernel_rfl) ?_
 refine qV (aX (iR (bJ 2 aI O sizeOf74 O (fM lS O (H6).get.2 O (dK O (bJ 0 gy O ay O (fM aH O (H6.f7).get.2 O (kD (kS (zB .i64) H6) ?_))))))))
 rintro _ w7 ⟨b7, rfl, H7⟩
 refine Z (mJ (pl := #[(0, 1), (1, 1)]) (#[_, _]) gy oZ (fun w => by kernel_rfl) O (O)) (kD (jL (l := [_, _]) H7 O O) ?_)
 rintro _ w8 ⟨b8, rfl, H8⟩
 refine uZ O (iR (bJ 2 aI O sizeOf74 O (fM lS O (H8.f3).get.2 O (dK O (bJ 1 gy O sizeOf120 O (fM underlying120 O (H8.f9).get.2 O (kD (DL H8.f10 underlying120 O) ?_)))))))
 rintro _ w9 ⟨it9, mi, rfl, H9⟩
 refine iJ (aY ?_)
 obtain ⟨R10, afU, afV⟩ := V.JJ (H9.f2.f3.f3)
 have HX0 := afV
 rw [← Ri (vV c.tx)] at HX0
 refine gW [(1, _), (2, _), (3, _), (30, _)] (fun (⟨S, n⟩ : List Int × Nat) => []) (fun (⟨S, n⟩ : List Int × Nat) W => V w0 W (EX uw pt it9 (vV c.tx) S n • gY uw b7 (Px (vV c.tx) S) • dW b8 (.cells #[.int .i64 c.place, .map (some b7)] 122 (0, 0)) • R10)) (fun (⟨S, n⟩ : List Int × Nat) => n) (([], _)) OM (Sub.nil _) HX0 ?_
 rintro ⟨S, n⟩ Fv HL
 dsimp only [List.cons_append, List.nil_append]
 refine iR (kD (FI HL O) ?_)
 rintro _ w12 ⟨ox, Sx, mx, rfl, hNx, vZ⟩
 refine Z (Zh O) (qQ (bD O (fun h1 => ?_) (fun h1 => ?_)))
 ·(try simp only [aA] at h1)
  obtain ⟨⟨a, u⟩, rfl⟩ := Option.isSome_iff_exists.1 h1
  obtain ⟨ha, hns, hlt, rfl⟩ := hNx
  refine gG (aY (iR ?_))
  refine Z (Pq (vZ) (by assumption) O) ?_
  refine uH O O (uH O O (iK O (fG O (aC (nG O O (bJ 1 gy O sizeOf120 O (fM underlying120 O (vZ.f3).get.2 O (jR O O (aJ (xK vZ.f2 underlying120 aH O O O) ?_)))))))))
  rintro _ Qh wo
  refine bW (aK ?_)
  have hres := Oa (S := S) ha
  refine dV ((S ++ [a], mx)) ?_ ?_ ?_ ?_
  ·exact (Sub.nil _)
  ·exact OM
  ·(try dsimp only)
   first | done | exact (by rw [hres]; exact wo.f3.f2.f3)
  ·(try dsimp only); omega
 ·(try simp only [aA] at h1)
  obtain rfl := Ij (o := ox) (by simp [h1])
  obtain ⟨rfl, rfl, hall⟩ := hNx
  refine dO (aO ?_)
  have HX := vZ.f3.f2.f3
  rw [Rj hall] at HX
  have ac4 := HX.f2
  have ac5 := ac4.Ii
  subst afU
  refine aO (bI (aX (bQ O (bJ 2 aI O sizeOf74 O (aJ (fP 2 (l' := [_, _, _, _, _, _, _, _, _, _, _]) ac5.f4 sizeOf74 O O (by first | rfl | assumption) O O) ?_)))))
  rintro _ w16 vw
  refine zk7 (kD (kS (zB .i64) vw) ?_)
  rintro _ YI ⟨b17, rfl, Dh⟩
  refine uZ O (aN ?_)
  obtain ⟨D, P, hD1, hD2, HU⟩ := (Dh.f12).abk
  refine aC (bJ 3 aI O sizeOf75 O (fM lT O (HU.f4).get.2 O (kD (DL HU lT O) ?_)))
  rintro _ YD ⟨afW, mi, rfl, EN⟩
  refine iJ (aY ?_)
  obtain ⟨R19, afX, afY⟩ := V.JJ (EN.f3.f3.f3)
  have HX0 := afY
  rw [← VR P] at HX0
  refine gW [(1, _), (2, _), (6, _), (47, _)] (fun (⟨S, n, P2⟩ : List Int × Nat × (Int → Nat)) => []) (fun (⟨S, n, P2⟩ : List Int × Nat × (Int → Nat)) W => S.Nodup ∧ V w0 W (EX uw pm afW (Rf D P) S n • I7 P c.un D • gY uw b17 (Rf S P2) • I7 P2 c.un S • R19)) (fun (⟨S, n, P2⟩ : List Int × Nat × (Int → Nat)) => n) (([], _, P)) OM (Sub.nil _) ⟨List.nodup_nil, (HX0).of_eq (by show _ = (_ • _ • _ • emp • _); rw [pO])⟩ ?_
  rintro ⟨S, n, P2⟩ w20 ⟨hS, HL⟩
  dsimp only [List.cons_append, List.nil_append]
  refine iR (kD (FI HL O) ?_)
  rintro _ w21 ⟨ox, Sx, mx, rfl, hNx, vO⟩
  refine Z (Zh O) (qQ (bD O (fun h2 => ?_) (fun h2 => ?_)))
  ·(try simp only [aA] at h2)
   obtain ⟨⟨a, u⟩, rfl⟩ := Option.isSome_iff_exists.1 h2
   obtain ⟨ha, hns, hlt, rfl⟩ := hNx
   obtain ⟨hmem, rfl⟩ := Zj ha
   have HF := vO.f2
   rw [uV hmem] at HF
   have HF2 := HF.flat
   refine gG (aY (iR ?_))
   refine Z (Pq (HF2.f3) (by assumption) O) ?_
   refine uH O O (uH O O (iK O (fG O (aC (jR O O (bT O (dS O func130 (KE HF2) ?_)))))))
   rintro _ w22 ⟨q22, rfl, Jv⟩
   refine aJ (xK Jv.f5 lT aH O O O) ?_
   rintro _ w23 CQ
   refine bW (aK ?_)
   have HQ := CQ.f2.f6.f3.f5.f5.f6
   have hu1 : I7 (xI P2 a q22) c.un (S ++ [a]) = (I7 P2 c.un S • jo q22 (c.un a) [] 0) := by
    rw [KL, iL, Eo (P' := P2) (U' := c.un) fun x hx => ⟨vU _ _ (by rintro rfl; exact hns hx), rfl⟩]
   refine dV ((S ++ [a], mx, xI P2 a q22)) ?_ ?_ ?_ ?_
   ·exact (Sub.nil _)
   ·exact OM
   ·(try dsimp only)
    first | done | exact ⟨KN hS hns, HQ.of_eq (by rw [uV hmem, hu1, Rk hns]; ac_rfl)⟩
   ·(try dsimp only); omega
  ·(try simp only [aA] at h2)
   obtain rfl := Ij (o := ox) (by simp [h2])
   obtain ⟨rfl, rfl, hall⟩ := hNx
   refine dO (aO ?_)
   have afZ := vO
   have af0 := afZ.Ii
   subst afX
   have af1 := af0.f2.f2
   have af2 := V.Ep hD1 hD2 af1
   have hnS : ∀ k, k ∉ Sx → c.un k = [] := fun k hk => hD2 k fun hkD => hk (hall k _ (if_pos hkD))
   have ac6 := af2.f3.f3
   have Xo := V.Ep hS hnS ac6
   refine aO (bI (aX (bQ O (bJ 3 aI O sizeOf75 O (aJ (fP 3 (l' := [_, _, _, _, _, _, _, _, _, _, _]) Xo.f3 sizeOf75 O O (by first | rfl | assumption) O O) ?_)))))
   rintro _ w30 VB
   refine zk7 (Z (dM aI O aU O O (VB).get.2) (aJ (dB 0 (l' := [_, _, _, _, _, _, _, _, _, _, _]) (us := [_, _, _, _, _, _, _, _, _, _, _]) VB.f11 aU O O O (aG (aG (aG (aG (aG (aG (aG (aG (aG (aG (aG bU))))))))))) O O) ?_))
   rintro _ w31 Tn
   refine zkc ?_
   refine rJ (.inl O) (OI results80 O aI O (by rw [aex]; rfl) (Tn).get.2) ?_
   exact ⟨_, _, _, _, _, O, Tn.right.right.f2.f3.f10.f8.f10.f6.f7.f8.f9.f10⟩
end
def KO (D : List Int) (P : Int → Nat) (k : Int) : Option Addr := if k ∈ D then some ⟨P k, 0, none⟩ else none
theorem VT (D : List Int) (P : Int → Nat) (k : Int) : (Rf D P k).getD (.pointer none) = .pointer (KO D P k) := by unfold Rf KO; split <;> rfl
theorem Rn {D : List Int} {P : Int → Nat} {k : Int} (h : k ∈ D) : KO D P k = some ⟨P k, 0, none⟩ := if_pos h
theorem Xp {D : List Int} {P : Int → Nat} {k : Int} (h : (KO D P k).isNone = false) : k ∈ D := by
  unfold KO at h
  split at h
  · assumption
  · cases h
theorem Xq {D : List Int} {P : Int → Nat} {k : Int} (h : (KO D P k).isNone = true) : k ∉ D := by
  unfold KO at h
  split at h
  · cases h
  · assumption
theorem BU {s : bn} (h : ¬ s.Bg = 0) : s.inn = false ∧ s.Bg = 1 := by
  unfold bn.Bg at *
  cases hi : s.inn <;> simp_all
theorem zD {s : bn} (h : s.Bg = 0) : s.inn = true := by
  unfold bn.Bg at h
  cases hi : s.inn <;> simp_all
theorem V.af3 {w0 w : World} {A B C F : HP} (H : V w0 w (A • B • C • F)) : V w0 w (A • (B • C) • F) := H.of_eq (by rw [dG])
section
variable {w0 w : World} {F : HP} {e p : Nat} {s : bn}
theorem rW (H : V w0 w (eP e s • F)) : iE prog 65 #[.pointer (some ⟨e, 0, none⟩)] w fun v w' => v = .bool false ∧ w = w' := by
 refine iZ func65 ntmps65 ?_
 refine jQ O (aN ?_)
 obtain ⟨wM, wO, wP, wQ, wR, wS, wU, wV, uN, tu, tC, tH, tJ, tK, tN, tV, tX, tY, tZ, uf, gK, dD, kM, iw⟩ := (H).GI
 refine aC (bT O (Z (jy iD O O) (jG O (fun h1 => ?_) (fun h1 => ?_))))
 ·(try simp only [aA] at h1)
  exfalso; first | contradiction | omega
 ·(try simp only [aA] at h1)
  refine bg (bT O (bg (dK O (bg (bJ 11 ah O sizeOf78 O (bg (fM kX O (iw).get.2 O (bg (Z (jy kX O O) (iH O O (fB O (dL results65 O ?_))))))))))))
  exact ⟨O, O⟩
theorem nS (H : V w0 w (eP e s • F)) : iE prog 81 #[.pointer (some ⟨e, 0, none⟩)] w fun v w' => v = .int .i64 s.Bg ∧ w = w' := by
 unfold bn.Bg
 refine iZ func81 ntmps81 ?_
 refine jQ O (aN (aY (bQ O (dS O func65 (rW H) ?_))))
 rintro _ _ ⟨rfl, rfl⟩
 refine fG O (qo (aN ?_))
 obtain ⟨wM, wO, wP, wQ, wR, wS, wU, wV, uN, tu, tC, tH, tJ, tK, tN, tV, tX, tY, tZ, uf, gK, dD, kM, iw⟩ := (H).GI
 refine aC (nG O O (bJ 16 ah O aP O (fM bY O (iw).get.2 O (Z (lJ O) (fG O (bD O (fun h1 => ?_) (fun h1 => ?_)))))))
 ·(try simp only [aA] at h1)
  refine jM O (aT (aB (dL results81 O ?_)))
  exact ⟨by simp [*], O⟩
 ·(try simp only [aA] at h1)
  refine cZ (aK (aX (jM O (dL results81 O ?_))))
  exact ⟨by simp [*], O⟩
theorem DR {x0 x1 x4 x5 x6 x7 x8 x9 x10 x11 x12 yA x14 x15 x16 x17 x18 x19 x20 x21 yV x23 x24 x25 zo x27 x28 x29 x30 x31 x32 Ad : Value} {pw pt pm : Nat} {k : Int} {U : Int → List (List jm)} (H : V w0 w (dW e (.cells (x0 :: x1 :: .pointer (some ⟨pw, 0, none⟩) :: .map (some pm) :: x4 :: x5 :: x6 :: x7 :: x8 :: x9 :: x10 :: x11 :: x12 :: yA :: x14 :: x15 :: x16 :: x17 :: x18 :: x19 :: x20 :: x21 :: yV :: x23 :: x24 :: x25 :: zo :: x27 :: x28 :: x29 :: x30 :: x31 :: x32 :: Ad :: []).toArray 82 (0, 0)) • dW pw (.cells #[.int .i64 k, .map (some pt)] 122 (0, 0)) • yN pm U • F)) : iE prog 134 #[.pointer (some ⟨e, 0, none⟩)] w fun v w' => ∃ p, v = .pointer (some ⟨p, 0, none⟩) ∧
  V w0 w' (jo p (U k) [] 0 • N9 pm U k p • dW e (.cells (x0 :: x1 :: .pointer (some ⟨pw, 0, none⟩) :: .map (some pm) :: x4 :: x5 :: x6 :: x7 :: x8 :: x9 :: x10 :: x11 :: x12 :: yA :: x14 :: x15 :: x16 :: x17 :: x18 :: x19 :: x20 :: x21 :: yV :: x23 :: x24 :: x25 :: zo :: x27 :: x28 :: x29 :: x30 :: x31 :: x32 :: Ad :: []).toArray 82 (0, 0)) • dW pw (.cells #[.int .i64 k, .map (some pt)] 122 (0, 0)) • F) := by
 refine iZ func134 ntmps134 ?_
 refine jQ O (aN ?_)
 obtain ⟨D, P, hD1, hD2, HU⟩ := (H.f3).abk
 have Us := HU.drew
 have oG := V.kp (Us.f4.f4.f4.f4)
 refine yH [4, 9, 12, 13] oG O (iQ 0 O oG O (jU 1 O oG O (gU 2 O oG 0 ah O aU O (gU 3 O oG 3 aI O sizeOf75 O (jO 4 O oG (fun W hW => jV lT O ((Kp.h hW).f3).get.2 O) (iQ 5 O oG O (jU 6 O oG O (gU 7 O oG 0 ah O aU O (gU 8 O oG 2 aI O sizeOf74 O (jO 9 O oG (fun W hW => jV lS O ((Kp.h hW).f3).get.2 O) (jU 10 O oG O (gU 11 O oG 0 gy O ay O (jO 12 O oG (fun W hW => jV aH O ((Kp.h hW).f4).get.2 O) (jO 13 O oG (fun W hW => Qm (QZ ((Kp.h hW)) lT aH zeroValue184 O O) (VT D P k)) (jC 14 O oG (fun _ => dR O) (qV (aX (aN (bQ O (Z (jy underlying184 O O) (jB O (fun h1 => ?_) (fun h1 => ?_))))))))))))))))))))))
 ·(try simp only [aA] at h1)
  have hnm := Xq h1
  refine iR (dS O func174 (O5 Us) ?_)
  rintro _ w1 ⟨p1, rfl, H1⟩
  refine fG O ?_
  have aey := H1.drew
  have zF := V.kp (aey.f5.f5.f5.f5.f5)
  refine yH [4, 9, 12] zF O (iQ 0 O zF O (jU 1 O zF O (gU 2 O zF 0 ah O aU O (gU 3 O zF 3 aI O sizeOf75 O (jO 4 O zF (fun W hW => jV lT O ((Kp.h hW).f4).get.2 O) (iQ 5 O zF O (jU 6 O zF O (gU 7 O zF 0 ah O aU O (gU 8 O zF 2 aI O sizeOf74 O (jO 9 O zF (fun W hW => jV lS O ((Kp.h hW).f4).get.2 O) (jU 10 O zF O (gU 11 O zF 0 gy O ay O (jO 12 O zF (fun W hW => jV aH O ((Kp.h hW).f5).get.2 O) (iQ 13 O zF O ?_))))))))))))))
  refine gB 14 O (by kernel_rfl) (xK aey.f2 lT aH O O O) ?_
  rintro _ w2 H2
  have AL := V.kp (H2.f5.f5.f5.f5.f5)
  refine iG AL (by kernel_rfl) ?_
  refine qV (aX (bQ O (fB O (dL results134 O ?_))))
  have hu1 : I7 (xI P k p1) U (D ++ [k]) = (I7 P U D • jo p1 [] [] 0) := by
   rw [KL, iL, hD2 _ hnm, Eo (P' := P) (U' := U) fun x hx => ⟨vU _ _ (by rintro rfl; exact hnm hx), rfl⟩]
  have HM := V.af3 H2.f5.f5.f4.f5.f5
  rw [← hu1, ← Rk hnm] at HM
  have HZ := V.aci (k := k) (KN hD1 hnm) (fun k hk => hD2 k fun hm => hk (by simp [hm])) (by simp) HM
  rw [iL] at HZ
  exact ⟨_, O, HZ⟩
 ·(try simp only [aA] at h1)
  have hmem := Xp h1
  rw [Rn hmem]
  refine gG (bQ O (fB O (dL results134 O ?_)))
  exact ⟨_, O, V.aci hD1 hD2 hmem Us.f4.f4.f4.f4⟩
theorem V.Py {b p : Nat} {k : Int} {U : Int → List (List jm)} (H : V w0 w (N9 b U k p • jo p (U k) [] 0 • F)) : V w0 w (yN b U • F) := by
  have := H.Bj
  rwa [abg] at this
end
end Go.Proofs.YtpdeedplgmbopaaGreatDoor
end
section
namespace Go.Proofs.YtpdeedplgmbopaaGreatDoor
open Go.RowKit Go.Lib
section
variable {P : Program} {L : List (Nat × Value)} {w0 w : World} {F : HP} {ty : TypeId} {b : Nat} {v d : Int} {t : TypeId}
theorem Zk {T : Value → World → Prop} {f : FuncId} {args : List Operand} {ts : Array TypeId} {vs : List Value} {fn : Func} {e : Array Value → Sem Value} {v : Value} {w' : World} (ha : F8 L args = some vs)
    (hf : P.funcs[f]? = some fn) (hname : (fn.name == "runtime.NumGoroutine") = false) (hb : fn.body.isNone = true) (hn : Extern.findNext fn = none) (he : Extern.find fn = some e) (hr : (e vs.toArray).run P w = .ok v w') (ht : T v w') :
    xk P L (.call ⟨.value (.func f), args.toArray, ts⟩) ty w T := wB (v := v) (w' := w') (fun ρ hρ _ _ _ _ => by
  have hg : ρ (.func f) = .func (.func f) #[] #[] := hρ _ _ rfl
  have hc := run_callFunc_extern hf hname hb hn he vs.toArray w
  rw [hr] at hc
  simp [execOp, resolve, invoke, evs hρ _ _ ha, hg, Deferred.ofValue]
  exact hc) ht
theorem Ut (hc : w.cell? ⟨b, 0, none⟩ = some (.int .i64 v)) : (Extern.Atomic.loadT (.int .i64) #[.pointer (some ⟨b, 0, none⟩)]).run P w = .ok (.int .i64 v) w := by
  change Sem.run P (do Extern.Atomic.read (.int .i64) (← asAddr (.pointer (some ⟨b, 0, none⟩)))) w = _
  simp [Extern.Atomic.read, asAddr, hc, Result.andThen]
theorem abl {f : FuncId} {args : List Operand} {ts : Array TypeId} {fn : Func} (H : V w0 w (dW b (.cells #[.int .i64 v] t (0, 0)) • F)) (ha : F8 L args = some [.pointer (some ⟨b, 0, none⟩), .int .i64 d])
    (hf : P.funcs[f]? = some fn) (hname : (fn.name == "runtime.NumGoroutine") = false) (hb : fn.body.isNone = true) (hn : Extern.findNext fn = none) (he : Extern.find fn = some (Extern.Atomic.update (Op.intArith .add) .i64 true)) :
    xk P L (.call ⟨.value (.func f), args.toArray, ts⟩) ty w fun u w' => u = .int .i64 (IntKind.i64.wrap (v + d)) ∧ V w0 w' (dW b (.cells #[.int .i64 (IntKind.i64.wrap (v + d))] t (0, 0)) • F) :=
  Zk ha hf hname hb hn he (Conc.run_add_entry (kF H.get.2 rfl) (Dk H.get.2)) ⟨rfl, H.setCell (i := 0) _⟩
theorem Zl {f : FuncId} {args : List Operand} {ts : Array TypeId} {fn : Func} (H : V w0 w (dW b (.cells #[.int .i64 v] t (0, 0)) • F)) (ha : F8 L args = some [.pointer (some ⟨b, 0, none⟩)])
    (hf : P.funcs[f]? = some fn) (hname : (fn.name == "runtime.NumGoroutine") = false) (hb : fn.body.isNone = true) (hn : Extern.findNext fn = none) (he : Extern.find fn = some (Extern.Atomic.loadT (.int .i64))) :
    xk P L (.call ⟨.value (.func f), args.toArray, ts⟩) ty w fun u w' => u = .int .i64 v ∧ w = w' :=
  Zk ha hf hname hb hn he (Ut (kF H.get.2 rfl)) ⟨rfl, rfl⟩
theorem GK (H : V w0 w (dW b (.cells #[.int .i64 v] t (0, 0)) • F)) : iE Tryz.prog 83 #[.pointer (some ⟨b, 0, none⟩), .int .i64 d] w fun u w' => u = .int .i64 (IntKind.i64.wrap (v + d)) ∧ V w0 w' (dW b (.cells #[.int .i64 (IntKind.i64.wrap (v + d))] t (0, 0)) • F) := by
  refine oV Tryz.func83 Tryz.ntmps83 ?_
  refine jQ O (bQ O (dK O (bJ 0 Tryz.underlying161 O Tryz.sizeOf2 O (bT O (kD (abl H O Tryz.func133 O O (by kernel_rfl) (by kernel_rfl)) ?_)))))
  rintro _ w1 ⟨rfl, H1⟩
  refine fB O (dL Tryz.results83 O ?_)
  exact ⟨O, H1⟩
theorem pq (H : V w0 w (dW b (.cells #[.int .i64 v] t (0, 0)) • F)) : iE Tryz.prog 68 #[.pointer (some ⟨b, 0, none⟩)] w fun u w' => u = .int .i64 v ∧ w = w' := by
  refine iZ Tryz.func68 Tryz.ntmps68 ?_
  refine jQ O (bQ O (dK O (bJ 0 Tryz.underlying161 O Tryz.sizeOf2 O (kD (Zl H O Tryz.func121 O O (by kernel_rfl) (by kernel_rfl)) ?_))))
  rintro _ _ ⟨rfl, rfl⟩
  refine fB O (dL Tryz.results68 O ?_)
  exact ⟨O, O⟩
end
end Go.Proofs.YtpdeedplgmbopaaGreatDoor
end
