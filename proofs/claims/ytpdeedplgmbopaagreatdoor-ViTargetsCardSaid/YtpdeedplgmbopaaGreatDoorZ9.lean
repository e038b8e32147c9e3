import Derived.Test.YtpdeedplgmbopaaGreatDoorZ4
import Derived.Test.YtpdeedplgmbopaaGreatDoorZ8
import Derived.Test.YtpdeedplgmbopaaGreatDoorZ5
set_option linter.unusedSimpArgs false
set_option linter.unusedVariables false
/- Texts of mine, joined, their names in short: UGroups Ed EdTwin MapI RefTab. -/
section
namespace Go.Proofs.YtpdeedplgmbopaaGreatDoor
open Go.RowKit
open _root_.Go.Proofs.Tryz
def CP (c : Nat) (G : List (List jq)) (N : List jq) (k : Nat) : HP := uf fun (x : Value × List (Value × List eG)) => fact (x.2.map (fun g => g.2.map eG.says) = LU N ++ G.reverse.take k) • dS c (.cells #[x.1] 226 (0, 0)) • CZ x.1 x.2
theorem rev_succ {G : List (List jq)} {k : Nat} (hk : k < G.length) : G.reverse.take (k + 1) = G.reverse.take k ++ [G.getD (G.length - (k + 1)) []] := by
  rw [List.take_succ_eq_append_getElem (by simpa using hk)]
  congr 1
  rw [List.getElem_reverse, List.getD_eq_getElem?_getD, List.getElem?_eq_getElem (by omega)]
  have e : G.length - 1 - k = G.length - (k + 1) := by omega
  simp only [Option.getD_some, e]
section
variable {w0 w : World} {F : HP} {p c k : Nat} {G : List (List jq)} {N : List jq} {op : Int} {v u : Value} {es fs : List eG} {gs hs : List (Value × List eG)}
theorem V.Oi (H : V w0 w (CP c G N k • F)) : ∃ u hs, hs.map (fun g => g.2.map eG.says) = LU N ++ G.reverse.take k ∧ hs.length ≤ G.length + 1 ∧ V w0 w (dS c (.cells #[u] 226 (0, 0)) • Row 80 1 u hs.length (hs.map (·.1)) • oH hs • F) := by
  obtain ⟨⟨u, hs⟩, H⟩ := H.lZ
  obtain ⟨h, H⟩ := H.flat.fact
  refine ⟨u, hs, h, ?_, (H.flat.swap.YK).f3⟩
  have := congrArg List.length h
  have := V7 N
  simp only [List.length_map, List.length_append, List.length_take, List.length_reverse] at *
  omega
theorem V.Ij (h : hs.map (fun g => g.2.map eG.says) = LU N ++ G.reverse.take k) (H : V w0 w (dS c (.cells #[u] 226 (0, 0)) • CZ u hs • F)) : V w0 w (CP c G N k • F) :=
  V.iV (u, hs) (V.deep (V.kR h H.deep))
theorem Ue (H : V w0 w F) (hv : v.oneCell' = true) : ig prog 175 #[v] w fun v' w' => ∃ b, v' = .func (.func 196) #[] #[.pointer (some ⟨b, 0, none⟩)] ∧ V w0 w' (dS b (.cells #[v] 226 (0, 0)) • F) := by
  refine iK func175 ntmps175 ?_
  refine gW (jL (jf (l := [_]) H O (by first | rfl | exact BH (by first | rfl | assumption))) ?_)
  rintro _ w1 ⟨b1, rfl, H1⟩
  refine fV O (gW (Z (wY O O) (dU O (dF results175 O ?_))))
  exact ⟨_, O, H1⟩
theorem Qz (b : Nat) : Iter prog w0 (.func (.func 196) #[] #[.pointer (some ⟨b, 0, none⟩)]) (dS b (.cells #[v] 226 (0, 0)) • Row 80 1 v gs.length (gs.map (·.1)) • oH gs) gs.length
  (fun k vs A => ∃ gl xO, gs.getD (gs.length - (k + 1)) default = (gl, xO) ∧ vs = [.int .i64 ((gs.length - (k + 1) : Nat) : Int), gl] ∧ A = Cm gl xO) := by
 intro l J X w hy H
 refine ⟨196, [], [.pointer (some ⟨b, 0, none⟩)], _, _, O, func196, O, O, ?_⟩
 have H1 : V w0 w (dS b (.cells #[v] 226 (0, 0)) • Row 80 1 v gs.length (gs.map (·.1)) • oH gs • J 0) := H.of_eq (by ac_rfl)
 obtain ⟨a, c, hv, hc1, hc2, _⟩ := (H1.swap.aY).form
 subst hv
 simp only [List.nil_append, List.cons_append]
 refine TG func196 ntmps196 ?_
 dsimp only [vW, Nat.reduceAdd]
 refine gW (gJ bH O (H1).get.2 O (Z (jU ((H1.f2).aY) bH O) (Z (iG O O (by omega)) (fV O (aV ?_)))))
 refine dJ [(0, _), (1, _)] (fun (k : Nat) => [(3, .int .i64 ((k : Int) - 1))]) (fun (k : Nat) W => k ≤ gs.length ∧ V w0 W (dS b (.cells #[.slice a gs.length c] 226 (0, 0)) • Row 80 1 (.slice a gs.length c) gs.length (gs.map (·.1)) • oH gs • J (gs.length - k))) (fun (k : Nat) => k) (gs.length) mW ji ⟨by omega, by rw [Nat.sub_self]; exact H1⟩ ?_
 rintro k w1 ⟨hk, HL⟩
 dsimp only [List.cons_append, List.nil_append]
 refine aK (bM O (Z (jw O O) (gQ O (fun h1 => ?_) (fun h1 => ?_))))
 ·(try simp only [aC] at h1)
  refine fG (aK (aV (aK ?_)))
  obtain ⟨m, rfl⟩ : ∃ m, k = m + 1 := ⟨k - 1, by omega⟩
  rw [show (((m + 1 : Nat) : Int) - 1) = (m : Int) from by omega]
  have hkl : m < gs.length := by omega
  refine aA (jr O O (gJ bH O (HL).get.2 O (bG O ?_)))
  obtain ⟨bv, ov, cv, ev⟩ := Rd.nJ ((HL.f2).aY) (by omega)
  cases ev
  refine Z (dh bH bV O O (by omega)) ?_
  refine Z (dH (bT aZ O) O (by first | exact Rd.jo ((HL.f2).aY) (by omega) | exact Rd.qB ((HL.f2).aY) (by omega) | exact Rd.qx ((HL.f2).aY) (by omega))) ?_
  rw [show (gs.map (·.1)).getD m undef = (gs.getD m default).1 from by simp [List.getD_eq_getElem?_getD, hkl]]
  obtain ⟨gl, xO, hg⟩ : ∃ gl xO, gs.getD m default = (gl, xO) := ⟨_, _, rfl⟩
  rw [hg]
  have Ho2 := HL.f3
  have YU := Ho2.Gs hkl hg
  refine jL (LP O O (hy (gs.length - (m + 1)) (by omega) _ _ ⟨gl, xO, by rw [show gs.length - (gs.length - (m + 1) + 1) = m from by omega]; exact hg, by rw [show gs.length - (gs.length - (m + 1) + 1) = m from by omega], O⟩ (oH gs • Row 80 1 (.slice (some ⟨bv, ov, none⟩) gs.length c) gs.length (gs.map (·.1)) • dS b (.cells #[.slice (some ⟨bv, ov, none⟩) gs.length c] 226 (0, 0))) _ (YU.of_eq (by ac_rfl))).bool) ?_
  rintro _ w4 ⟨t, rfl, ht1, ht2⟩
  refine Z (mD O) (gQ O (fun h2 => ?_) (fun h2 => ?_))
  ·(try simp only [aC] at h2)
   have HX := ht2 (by simpa using h2)
   refine mg (aN (ay (ay (aN (we0 results196 ?_)))))
   exact .inr (HX.of_eq (by ac_rfl))
  ·(try simp only [aC] at h2)
   have HN : V w0 w4 (dS b (.cells #[.slice (some ⟨bv, ov, none⟩) gs.length c] 226 (0, 0)) • Row 80 1 (.slice (some ⟨bv, ov, none⟩) gs.length c) gs.length (gs.map (·.1)) • oH gs • J (gs.length - m)) := by
    have h9 := ht1 (by simpa using h2)
    rw [show gs.length - (m + 1) + 1 = gs.length - m from by omega] at h9
    exact h9.of_eq (by ac_rfl)
   refine bY (aG (aW (aA (bG O (Z (iG O O (by omega)) (dL O (bD ?_)))))))
   refine bZ (m) ?_ ?_ ?_ ?_
   ·exact ji
   ·exact mW
   ·(try dsimp only)
    first | done | exact ⟨by omega, HN.f3.f3.f3⟩
   ·(try dsimp only); omega
 ·(try simp only [aC] at h1)
  refine bQ (aB (aB (aU (mO (.inr O) results196 ?_))))
  obtain rfl : k = 0 := by omega
  rw [Nat.sub_zero] at HL
  exact .inl (HL.of_eq (by ac_rfl))
theorem F5 (H : V w0 w (jl p G N op • F)) : ig prog 135 #[.pointer (some ⟨p, 0, none⟩)] w fun v w' => ∃ c, v = .func (.func 176) #[] #[.pointer (some ⟨c, 0, none⟩)] ∧ V w0 w' (CP c G N G.length • jl p G N op • F) := by
 refine iK func135 ntmps135 ?_
 refine jy O (gW (jL (gK (l := [_]) H zeroValue226 O) ?_))
 rintro _ w1 ⟨b1, rfl, H1⟩
 refine qW (bM O (dX O func158 (nM H1.f2) ?_))
 rintro _ _ ⟨rfl, rfl⟩
 refine Z (mD O) ?_
 obtain ⟨BX, zF, oJ, nH, lN, wK, uz, Ht, Hu, NY, rP⟩ := (H1.f2).y8
 have hLn : nH.length ≤ 16384 := by omega
 have hBn := Oa uz lN.2.2.2.2.2
 refine iy (wcE O (fun h1 => ?_))
 (try simp only [aC] at h1)
 refine iY [(0, _), (3, _)] (fun (_ : Unit) => []) (fun (_ : Unit) W => V w0 W (CP b1 G N 0 • dS p (.cells #[BX, zF, .int .i64 op, .int .i64 (jd G N : Nat), .bool true] 235 (0, 0)) • Row 80 1 BX oJ.length (oJ.map (·.1)) • oH oJ • Row 189 3 zF nH.length (nH.flatMap eG.enc) • kW nH • F)) mW ?_ ?_
 ·rintro _ w4 HJ
  dsimp only [List.cons_append, List.nil_append]
  refine bM O (dQ O (bK 0 bJ O dG O (bK 0 bU O fJ O (gJ bH O (HJ.f2).get.2 O (dX O func175 (Ue HJ (Rd.one ((HJ.f3).aY))) ?_)))))
  rintro _ w5 ⟨bB5, rfl, H5⟩
  refine iy (aV ?_)
  obtain ⟨R6, hR6, HR6⟩ := V.abN (H5.f5.f5.f3.f4)
  refine zI O (Qz bB5) (fun k => CP b1 G N k • R6) (fact False) (fun _ => fact False) (HR6.f4.f4.f4.f4.f4.f4.f4.g3.comm) (by rfl) ?_ ?_ ?_ ?_
  ·rintro l7 k aaH vs7 A7 ⟨gl, xO, hg, rfl, rfl⟩ G7 w7 H7
   try simp only [dB, og, wH] at H7
   refine ⟨O, ?_⟩
   dsimp only [Qs]
   obtain ⟨u, hs, V4, hhl, HI⟩ := (H7.f2).Oi
   have hge : xO.map eG.says = G.getD (G.length - (k + 1)) [] := by
    rw [← Ht, ← wK]
    have h9 : (oJ.map (fun g => g.2.map eG.says)).getD (oJ.length - (k + 1)) [] = (oJ.getD (oJ.length - (k + 1)) default).2.map eG.says := by simp [List.getD_eq_getElem?_getD, show oJ.length - (k + 1) < oJ.length by omega]
    rw [h9, hg]
   have hgm : G.getD (G.length - (k + 1)) [] ∈ G := wR (by omega)
   have hBg := Oa hge (lN.2.2.2.2.1 _ hgm)
   have hLg : xO.length ≤ 16384 := by
    have h8 := lN.2.1
    unfold jd at h8
    have h7 := congrArg List.length hge
    rw [List.length_map] at h7
    have h6 := Gt hgm
    omega
   refine aA (dL O (bD ?_))
   refine Qr (HI.g5) ?_
   intro G8 w8 H8
   try simp only [dB] at H8
   refine aV ?_
   have acu := H8.drew
   have Wp := V.kp (acu.f4.f4.f4.f4)
   refine yY [0] Wp O (kK 0 O Wp (fun W hW => kQ bH O ((Kp.h hW)).get.2 O) (jW 1 O Wp O (oV 2 O (zx O func173 (yE acu.f4 hBg hLg)) ?_)))
   rintro u9 w9 ⟨fs9, adQ, H9⟩
   obtain ⟨es2, rfl⟩ : ∃ q, q = fs9 := ⟨_, rfl⟩
   have hes2 := adQ
   have Qo := V.kp (H9.f6.f6.f6.f6.f6.f6)
   refine eU Qo (fun W hW => (Kp.h hW).right.right.f4.f4.f4) ?_
   refine oV 3 O (kH (vs := [_]) H9 bH bV lS O O O (by decide) (bf (by first | rfl | exact Rd.one ((H9).aY)) bP)) ?_
   rintro l10 w10 rD
   have VT := V.kp (rD.f7.f7.f7.f7.f7.f7.f7)
   refine eU VT (fun W hW => (Kp.h hW).right.f6.f6.f6.f6.f6.f6) ?_
   refine oV 4 O (gZ rD.f6 bH FD O O O ((rD).aY) (bf (by first | rfl | exact Rd.one ((rD.f2).aY)) bP) (by omega) (by omega)) ?_
   rintro l11 ED rM
   have Jy := rM.f2.right
   have Hz := V.kp (Jy.f6.f6.f6.f6.f6.f6)
   refine iD Hz (by kernel_rfl) ?_
   refine gX 5 O (by kernel_rfl) (fQ 0 (l' := [_]) Jy.f5 fJ O O (by first | rfl | exact Rd.one ((Jy).aY)) O O) ?_
   rintro _ PO xM
   have wE := V.kp (xM.f6.f6.f6.f6.f6.f6)
   refine iD wE (by kernel_rfl) ?_
   refine sK (aG ?_)
   refine HY ?_
   have X := V.qF (es := es2) (xM.f5.right.f5.f3.f5.f5).deep
   exact (V.Ij (hs := hs ++ [(u9, es2)]) (by rw [List.map_append, V4, rev_succ (by omega), ← hge, ← hes2, List.append_assoc]; rfl) (V.rY X.swap).swap).deep
  ·rintro D14 TN BJ
   have VU := BJ.ed
   try simp only [dB, og, wH] at VU
   have aaI := VU.RG
   subst hR6
   refine aG (aW (gW (Z (wY O O) (dU O ?_))))
   refine Gi (.inl O) (aaI) (fun TV zH => ?_)
   refine ⟨_, aaq results135 O, ?_⟩
   have hgl : CP b1 G N oJ.length = CP b1 G N G.length := by rw [Ht]
   rw [hgl] at zH
   have QA := zH.f7.f7.f5.f5.f7
   have QB := V.oI lN wK uz rfl QA
   exact ⟨_, O, QB.f2.right.f2⟩
  ·rintro D w H; exact absurd H.swap.fact.1 id
  ·rintro id D w H; exact absurd H.swap.fact.1 fun h => h
 ·skip
  refine bM O (dQ O (bK 0 bJ O dG O (bK 1 bU O bV O (gJ aZ O (rP).get.2 O (Z (jU ((rP.f4).aY) aZ O) (Z (iw O O) (gQ O (fun h2 => ?_) (fun h2 => ?_))))))))
  ·(try simp only [aC] at h2)
   have hN : LU N = [N] := if_neg (by rintro rfl; exact absurd Hu (by simp only [List.length_nil]; omega))
   have ZV := rP.drew
   have Di := V.kp (ZV.f6.f6.f6.f6.f6.f6)
   refine yY [0, 5] Di O (kK 0 O Di (fun W hW => kQ bH O ((Kp.h hW).f6).get.2 O) (jW 1 O Di O (kV 2 O Di O (iJ 3 O Di 0 bJ O dG O (iJ 4 O Di 1 bU O bV O (kK 5 O Di (fun W hW => kQ aZ O ((Kp.h hW)).get.2 O) (oV 6 O (zx O func173 (AV ZV.f5.f5 hBn hLn)) ?_)))))))
   rintro u19 w19 ⟨adR, acv, EO⟩
   obtain ⟨es1, rfl⟩ : ∃ q, q = adR := ⟨_, rfl⟩
   have hes1 := acv
   have Wq := V.kp (EO.f8.f8.f8.f8.f8.f8.f8.f8)
   refine eU Wq (fun W hW => (Kp.h hW).right.right.f6.f3.f3.f6.f6.f6) ?_
   refine oV 7 O (kH (vs := [_]) EO bH bV lS O O O (by decide) (bf (by first | rfl | exact Rd.one ((EO).aY)) bP)) ?_
   rintro l20 w20 Qd
   have D9 := V.kp (Qd.f9.f9.f9.f9.f9.f9.f9.f9.f9)
   refine eU D9 (fun W hW => (Kp.h hW).right.f8.f8.f8.f8.f8.f8.f8.f8) ?_
   refine oV 8 O (gZ (Qd.jk none) bH FD O O O ((Qd).aY) (bf (by first | rfl | exact Rd.one ((Qd.f2).aY)) bP) (by omega) (by omega)) ?_
   rintro l21 w21 Jz
   have Ws := Jz.f2.right
   have Oj := V.kp (Ws.f9.f9.f9.f9.f9.f9.f9.f9.f9)
   refine iD Oj (by kernel_rfl) ?_
   refine gX 9 O (by kernel_rfl) (fQ 0 (l' := [_]) Ws.f9 fJ O O (by first | rfl | exact Rd.one ((Ws).aY)) O O) ?_
   rintro _ w23 JA
   have KC := V.kp (JA.f9.f9.f9.f9.f9.f9.f9.f9.f9)
   refine iD KC (by kernel_rfl) ?_
   have X := V.qF (es := es1) (JA.f6.f6.f9.f9.f9.f6.f7.f9.f9).deep
   have hJn : V w0 w23 (CP b1 G N 0 • dS p (.cells #[BX, zF, .int .i64 op, .int .i64 (jd G N : Nat), .bool true] 235 (0, 0)) • Row 80 1 BX oJ.length (oJ.map (·.1)) • oH oJ • Row 189 3 zF nH.length (nH.flatMap eG.enc) • kW nH • F) :=
    V.Ij (hs := [(u19, es1)]) (by rw [hN, ← uz, ← hes1]; rfl) (V.rY (gs := []) X.Ho.f3.f3.f2).swap
   refine sK ?_
   refine cO (()) ?_ ?_ ?_
   ·exact (Sub.nil _)
   ·exact mW
   ·(try dsimp only)
    first | done | exact hJn
  ·(try simp only [aC] at h2)
   have hN : LU N = [] := if_pos (by rw [← uz, List.eq_nil_of_length_eq_zero (show nH.length = 0 by omega)]; rfl)
   have hJn : V w0 w1 (CP b1 G N 0 • dS p (.cells #[BX, zF, .int .i64 op, .int .i64 (jd G N : Nat), .bool true] 235 (0, 0)) • Row 80 1 BX oJ.length (oJ.map (·.1)) • oH oJ • Row 189 3 zF nH.length (nH.flatMap eG.enc) • kW nH • F) :=
    V.Ij (hs := []) (by rw [hN]; rfl) ((rP.f5.f5.f5.f5.f5.f6).Hr none).swap
   refine bY ?_
   refine cO (()) ?_ ?_ ?_
   ·exact (Sub.nil _)
   ·exact mW
   ·(try dsimp only)
    first | done | exact hJn
theorem Ol (c : Nat) (hB : ∀ g ∈ C9 G N, ∀ e ∈ g, EB e) (hL : ∀ g ∈ C9 G N, g.length ≤ 16384) : Iter prog w0 (.func (.func 176) #[] #[.pointer (some ⟨c, 0, none⟩)]) (CP c G N G.length) (C9 G N).length
  (fun k vs A => ∃ u, ∃ fs : List eG, fs.map eG.says = (C9 G N).getD k [] ∧ vs = [u] ∧ A = Kw u fs) := by
 intro l J X w hy H
 refine ⟨176, [], [.pointer (some ⟨c, 0, none⟩)], _, _, O, func176, O, O, ?_⟩
 obtain ⟨v, hs, V4, hhl, H1⟩ := H.comm.Oi
 have acw := V4
 rw [List.take_of_length_le (by simp), ← YO] at V4
 have hlen : hs.length = (C9 G N).length := by have := congrArg List.length V4; simpa using this
 obtain ⟨a, d, hv, hc1, hc2, _⟩ := (H1.swap.aY).form
 subst hv
 simp only [List.nil_append, List.cons_append]
 refine TG func176 ntmps176 ?_
 dsimp only [vW, Nat.reduceAdd]
 refine gW (gJ bH O (H1).get.2 O (Z (jU ((H1.f2).aY) bH O) (bG O (iy (aV ?_)))))
 refine dJ [(0, _), (5, _), (6, _)] (fun (k : Nat) => [(7, .int .i64 (k : Int))]) (fun (k : Nat) W => k ≤ hs.length ∧ V w0 W (dS c (.cells #[.slice a hs.length d] 226 (0, 0)) • Row 80 1 (.slice a hs.length d) hs.length (hs.map (·.1)) • oH hs • J k)) (fun (k : Nat) => hs.length - k) (0) qC ji ⟨by omega, H1⟩ ?_
 rintro k w1 ⟨hk, HL⟩
 dsimp only [List.cons_append, List.nil_append]
 refine gW (Z (fF O O) (qW (bI O (fun h1 => ?_) (fun h1 => ?_))))
 ·(try simp only [aC] at h1)
  refine fG (aK (aV (gW ?_)))
  obtain ⟨bv, ov, cv, ev⟩ := Rd.nJ ((HL.f2).aY) (by omega)
  cases ev
  refine Z (dh bH bV O O (by omega)) ?_
  refine Z (dH (bT aZ O) O (by first | exact Rd.jo ((HL.f2).aY) (by omega) | exact Rd.qB ((HL.f2).aY) (by omega) | exact Rd.qx ((HL.f2).aY) (by omega))) ?_
  have hkl : k < hs.length := by omega
  rw [show (hs.map (·.1)).getD k undef = (hs.getD k default).1 from by simp [List.getD_eq_getElem?_getD, hkl]]
  obtain ⟨gl, xO, hg⟩ : ∃ gl xO, hs.getD k default = (gl, xO) := ⟨_, _, rfl⟩
  rw [hg]
  have Ho2 := HL.f3
  have YU := Ho2.Gs hkl hg
  have hge : xO.map eG.says = (C9 G N).getD k [] := by
   rw [← V4]
   have h9 : (hs.map (fun g => g.2.map eG.says)).getD k [] = (hs.getD k default).2.map eG.says := by simp [List.getD_eq_getElem?_getD, hkl]
   rw [h9, hg]
  have hgm : (C9 G N).getD k [] ∈ C9 G N := wR (by omega)
  have hBg := Oa hge (hB _ hgm)
  have hLg : xO.length ≤ 16384 := by
   have h7 := congrArg List.length hge
   rw [List.length_map] at h7
   have := hL _ hgm
   omega
  refine fV O (bM O (bG O (dX O func173 (yE YU hBg hLg) ?_)))
  rintro u4 w4 ⟨fs4, adS, H4⟩
  obtain ⟨es2, rfl⟩ : ∃ q, q = fs4 := ⟨_, rfl⟩
  have hes2 := adS
  have Hd5 := H4.f3.right
  refine jL (LP O O (hy k (by omega) _ _ ⟨_, es2, hes2.trans hge, O, O⟩ (oH hs • Row 80 1 (.slice (some ⟨bv, ov, none⟩) hs.length d) hs.length (hs.map (·.1)) • dS c (.cells #[.slice (some ⟨bv, ov, none⟩) hs.length d] 226 (0, 0))) _ (Hd5.of_eq (by unfold Kw; ac_rfl))).bool) ?_
  rintro _ w6 ⟨t, rfl, ht1, ht2⟩
  refine Z (mD O) (gQ O (fun h2 => ?_) (fun h2 => ?_))
  ·(try simp only [aC] at h2)
   have HX := ht2 (by simpa using h2)
   refine mg (aN (ay (ay (aN (we0 results176 ?_)))))
   exact .inr (V.comm (V.Ij (u := .slice (some ⟨bv, ov, none⟩) hs.length d) acw (HX.of_eq (by unfold CZ; ac_rfl))))
  ·(try simp only [aC] at h2)
   have HN : V w0 w6 (dS c (.cells #[.slice (some ⟨bv, ov, none⟩) hs.length d] 226 (0, 0)) • Row 80 1 (.slice (some ⟨bv, ov, none⟩) hs.length d) hs.length (hs.map (·.1)) • oH hs • J (k + 1)) := by
    have h9 := ht1 (by simpa using h2)
    exact h9.of_eq (by ac_rfl)
   refine bY (aG (aW (aA (Z (dP O O (by omega)) (bG O (bD ?_))))))
   refine bZ (k + 1) ?_ ?_ ?_ ?_
   ·exact ji
   ·exact qC
   ·(try dsimp only)
    first | done | exact ⟨by omega, HN.f3.f3.f3⟩
   ·(try dsimp only); omega
 ·(try simp only [aC] at h1)
  refine bQ (aB (aB (aU (mO (.inr O) results176 ?_))))
  obtain rfl : k = hs.length := by omega
  rw [← hlen]
  exact .inl (V.comm (V.Ij (u := .slice a hs.length d) acw (HL.of_eq (by unfold CZ; ac_rfl))))
end
end Go.Proofs.YtpdeedplgmbopaaGreatDoor
end
section
namespace Go.Proofs.YtpdeedplgmbopaaGreatDoor
open Go.RowKit
def FK (P : Int → Nat) (U : Int → List (List jq)) : List Int → HP
  | [] => emp
  | k :: D => jl (P k) (U k) [] 0 • FK P U D
def Om (D : List Int) (P : Int → Nat) : Int → Option Value := fun k => if k ∈ D then some (.pointer (some ⟨P k, 0, none⟩)) else none
theorem sD {P : Int → Nat} {U : Int → List (List jq)} {k : Int} : ∀ {D : List Int}, k ∈ D → FK P U D = (jl (P k) (U k) [] 0 • FK P U (D.erase k))
  | x :: D, h => by
    by_cases e : x = k
    · subst e; rw [List.erase_cons_head]; rfl
    · rw [List.erase_cons_tail (by simpa using e)]
      have hk : k ∈ D := (List.mem_cons.1 h).resolve_left (Ne.symm e)
      show (jl (P x) (U x) [] 0 • FK P U D) = _
      rw [sD hk]
      show (jl (P x) (U x) [] 0 • jl (P k) (U k) [] 0 • FK P U (D.erase k)) = (jl (P k) (U k) [] 0 • (jl (P x) (U x) [] 0 • FK P U (D.erase k)))
      ac_rfl
theorem BL {P P' : Int → Nat} {U U' : Int → List (List jq)} : ∀ {D : List Int}, (∀ k ∈ D, P k = P' k ∧ U k = U' k) → FK P U D = FK P' U' D
  | [], _ => rfl
  | x :: D, h => by
    show (jl (P x) (U x) [] 0 • FK P U D) = (jl (P' x) (U' x) [] 0 • FK P' U' D)
    rw [(h x (by simp)).1, (h x (by simp)).2, BL fun k hk => h k (List.mem_cons_of_mem _ hk)]
def xR (b : Nat) (U : Int → List (List jq)) : HP := uf fun (x : List Int × (Int → Nat)) => fact (x.1.Nodup ∧ ∀ k, k ∉ x.1 → U k = []) • gy rQ b (Om x.1 x.2) • FK x.2 U x.1
def Oo (b : Nat) (U : Int → List (List jq)) (k : Int) (p : Nat) : HP := uf fun (x : List Int × (Int → Nat)) => fact (x.1.Nodup ∧ (∀ k, k ∉ x.1 → U k = []) ∧ k ∈ x.1 ∧ x.2 k = p) • gy rQ b (Om x.1 x.2) • FK x.2 U (x.1.erase k)
section
variable {w0 w : World} {F : HP} {b p : Nat} {k : Int} {U : Int → List (List jq)} {G : List (List jq)}
theorem V.YV (H : V w0 w (xR b U • F)) : ∃ D P, (D : List Int).Nodup ∧ (∀ k, k ∉ D → U k = []) ∧ V w0 w (gy rQ b (Om D P) • FK P U D • F) := by
  obtain ⟨⟨D, P⟩, H⟩ := H.lZ
  obtain ⟨⟨h1, h2⟩, H⟩ := H.flat.fact
  exact ⟨D, P, h1, h2, H.flat⟩
theorem V.BM {D : List Int} {P : Int → Nat} (h1 : D.Nodup) (h2 : ∀ k, k ∉ D → U k = []) (H : V w0 w (gy rQ b (Om D P) • FK P U D • F)) : V w0 w (xR b U • F) :=
  V.iV (D, P) (V.deep (V.kR ⟨h1, h2⟩ H.deep))
theorem V.ZW {D : List Int} {P : Int → Nat} (h1 : D.Nodup) (h2 : ∀ k, k ∉ D → U k = []) (hk : k ∈ D) (H : V w0 w (gy rQ b (Om D P) • FK P U D • F)) : V w0 w (jl (P k) (U k) [] 0 • Oo b U k (P k) • F) := by
  have H1 : V w0 w ((gy rQ b (Om D P) • FK P U (D.erase k)) • jl (P k) (U k) [] 0 • F) := H.of_eq (by rw [sD hk]; ac_rfl)
  have H2 : V w0 w (Oo b U k (P k) • jl (P k) (U k) [] 0 • F) := V.iV (D, P) (V.deep (V.kR ⟨h1, h2, hk, rfl⟩ H1))
  exact H2.swap
theorem V.EP (H : V w0 w (Oo b U k p • jl p G [] 0 • F)) : V w0 w (xR b (xQ U k G) • F) := by
  obtain ⟨⟨D, P⟩, H⟩ := H.lZ
  obtain ⟨⟨h1, h2, hk, hp⟩, H⟩ := H.flat.fact
  dsimp only at h1 h2 hk hp H
  subst hp
  refine V.BM (D := D) (P := P) h1 (fun x hx => ?_) ?_
  · rw [vH _ _ (by rintro rfl; exact hx hk)]; exact h2 x hx
  · rw [sD (U := xQ U k G) hk, oK, BL (P' := P) (U' := U) fun x hx => ⟨rfl, vH _ _ (by rintro rfl; exact (List.Nodup.not_mem_erase h1) hx)⟩]
    exact H.of_eq (by ac_rfl)
end
def tZ (t : Int → Option ByteArray) : Int → Option Value := fun k => (t k).map .string
def QC (pb pr pw pt pm : Nat) (c : mX) : HP := jH pb c.L c.pt c.mark • jc pr c.E c.at_ • dS pw (.cells #[.int .i64 c.place, .map (some pt)] 122 (0, 0)) • gy rQ pt (tZ c.tx) • xR pm c.un
def Oq (pb pr pw pm : Nat) (c : mX) : List Value := [.pointer (some ⟨pb, 0, none⟩), .pointer (some ⟨pr, 0, none⟩), .pointer (some ⟨pw, 0, none⟩), .map (some pm), .int .i64 c.mode, .bool c.over, .int .i64 c.last, .int .i64 c.fr, .int .i64 c.to, .int .i64 c.res, .bool c.run]
def wG (inn : Bool) (c : mX) (u : List Value) : HP := if inn = true then uf fun (x : Nat × Nat × Nat × Nat × Nat) => fact (u = Oq x.1 x.2.1 x.2.2.1 x.2.2.2.2 c) • QC x.1 x.2.1 x.2.2.1 x.2.2.2.1 x.2.2.2.2 c else (fact ((u.all fun x => x.oneCell') = true))
def QD (hl : List qQ) (c : mX) : Prop := 0 ≤ c.place ∧ c.place ≤ hl.length ∧ (∀ k t, c.tx k = some t → t.size ≤ 16384)
def yG (e : jq) : Prop := 0 ≤ e.1 ∧ 0 < e.2.1.length + e.2.2.length ∧ e.2.1.length ≤ 1024 ∧ e.2.2.length ≤ 1024
def mF (s : dN) : Prop := QD s.hl s.c ∧ (s.inn = true → QD s.hl s.was ∧ jd (s.was.un s.was.place) [] ≤ 16384 ∧ ∀ k, ∀ g ∈ s.was.un k, ∀ e ∈ g, yG e) ∧ (-1 ≤ s.arg ∧ s.arg ≤ 1000000) ∧ (∀ e ∈ s.put, yG e) ∧ jd s.here s.put ≤ 16384 ∧ (∀ k, ∀ g ∈ s.c.un k, ∀ e ∈ g, yG e)
structure EdP where
  pb : Nat
  pr : Nat
  pw : Nat
  pt : Nat
  pm : Nat
  ph : Nat
  bl : Nat
  pv : Value
  es : List eG
  u0 : Value
  u1 : Value
  u2 : Value
  u3 : Value
  u4 : Value
  u5 : Value
  u6 : Value
  u7 : Value
  u8 : Value
  u9 : Value
  ua : Value
def EdG (e : Nat) (s : dN) (M : Nat → HP) : HP := uf fun (x : EdP) => fact (mF s ∧ x.es.map eG.says = s.put) •
  dS e (.cells (.pointer (some ⟨x.pb, 0, none⟩) :: .pointer (some ⟨x.pr, 0, none⟩) :: .pointer (some ⟨x.pw, 0, none⟩) :: .map (some x.pm) :: .int .i64 s.c.mode :: .bool s.c.over :: .int .i64 s.c.last :: .int .i64 s.c.fr :: .int .i64 s.c.to :: .int .i64 s.c.res :: .bool s.c.run :: .pointer (some ⟨x.ph, 0, none⟩) :: .pointer (some ⟨x.bl, 0, none⟩) :: .bool s.given :: .bool s.minus :: .int .i64 s.arg :: .bool s.inn :: x.u0 :: x.u1 :: x.u2 :: x.u3 :: x.u4 :: x.u5 :: x.u6 :: x.u7 :: x.u8 :: x.u9 :: x.ua :: .int .i64 s.cls :: .bool s.killed :: .bool s.lT :: .bool s.argues :: .bool s.whole :: x.pv :: []).toArray 82 (0, 0)) •
  jH x.pb s.c.L s.c.pt s.c.mark • jc x.pr s.c.E s.c.at_ • dS x.pw (.cells #[.int .i64 s.c.place, .map (some x.pt)] 122 (0, 0)) • gy rQ x.pt (tZ s.c.tx) • M x.pm •
  iH x.ph s.hl s.base s.most • dS x.bl (.cells #[.int .i64 s.su] 161 (0, 0)) • Row 189 3 x.pv s.put.length (x.es.flatMap eG.enc) • kW x.es • wG s.inn s.was [x.u0, x.u1, x.u2, x.u3, x.u4, x.u5, x.u6, x.u7, x.u8, x.u9, x.ua]
def iC (e : Nat) (s : dN) : HP := EdG e s fun pm => xR pm s.c.un
def adT (e : Nat) (s : dN) (p : Nat) : HP := EdG e s fun pm => Oo pm s.c.un s.c.place p
section
variable {w0 w : World} {F : HP} {e : Nat} {s : dN} {M : Nat → HP}
theorem V.edG (H : V w0 w (EdG e s M • F)) : ∃ pb pr pw pt pm ph bl pv es u0 u1 u2 u3 u4 u5 u6 u7 u8 u9 ua, mF s ∧ es.map eG.says = s.put ∧ es.length = s.put.length ∧ V w0 w (
  dS e (.cells (.pointer (some ⟨pb, 0, none⟩) :: .pointer (some ⟨pr, 0, none⟩) :: .pointer (some ⟨pw, 0, none⟩) :: .map (some pm) :: .int .i64 s.c.mode :: .bool s.c.over :: .int .i64 s.c.last :: .int .i64 s.c.fr :: .int .i64 s.c.to :: .int .i64 s.c.res :: .bool s.c.run :: .pointer (some ⟨ph, 0, none⟩) :: .pointer (some ⟨bl, 0, none⟩) :: .bool s.given :: .bool s.minus :: .int .i64 s.arg :: .bool s.inn :: u0 :: u1 :: u2 :: u3 :: u4 :: u5 :: u6 :: u7 :: u8 :: u9 :: ua :: .int .i64 s.cls :: .bool s.killed :: .bool s.lT :: .bool s.argues :: .bool s.whole :: pv :: []).toArray 82 (0, 0)) •
  jH pb s.c.L s.c.pt s.c.mark • jc pr s.c.E s.c.at_ • dS pw (.cells #[.int .i64 s.c.place, .map (some pt)] 122 (0, 0)) • gy rQ pt (tZ s.c.tx) • M pm •
  iH ph s.hl s.base s.most • dS bl (.cells #[.int .i64 s.su] 161 (0, 0)) • Row 189 3 pv s.put.length (es.flatMap eG.enc) • kW es • wG s.inn s.was [u0, u1, u2, u3, u4, u5, u6, u7, u8, u9, ua] • F) := by
  obtain ⟨⟨pb, pr, pw, pt, pm, ph, bl, pv, es, u0, u1, u2, u3, u4, u5, u6, u7, u8, u9, ua⟩, H⟩ := H.lZ
  obtain ⟨⟨h1, h2⟩, H⟩ := H.flat.fact
  refine ⟨pb, pr, pw, pt, pm, ph, bl, pv, es, u0, u1, u2, u3, u4, u5, u6, u7, u8, u9, ua, h1, h2, ?_, ?_⟩
  · rw [← h2]; simp
  · dsimp only at H
    exact H.of_eq (by simp only [dB])
theorem V.aaP {pb pr pw pt pm ph bl : Nat} {pv : Value} {es : List eG} {u0 u1 u2 u3 u4 u5 u6 u7 u8 u9 ua : Value} (h1 : mF s) (h2 : es.map eG.says = s.put) (H : V w0 w (
  dS e (.cells (.pointer (some ⟨pb, 0, none⟩) :: .pointer (some ⟨pr, 0, none⟩) :: .pointer (some ⟨pw, 0, none⟩) :: .map (some pm) :: .int .i64 s.c.mode :: .bool s.c.over :: .int .i64 s.c.last :: .int .i64 s.c.fr :: .int .i64 s.c.to :: .int .i64 s.c.res :: .bool s.c.run :: .pointer (some ⟨ph, 0, none⟩) :: .pointer (some ⟨bl, 0, none⟩) :: .bool s.given :: .bool s.minus :: .int .i64 s.arg :: .bool s.inn :: u0 :: u1 :: u2 :: u3 :: u4 :: u5 :: u6 :: u7 :: u8 :: u9 :: ua :: .int .i64 s.cls :: .bool s.killed :: .bool s.lT :: .bool s.argues :: .bool s.whole :: pv :: []).toArray 82 (0, 0)) •
  jH pb s.c.L s.c.pt s.c.mark • jc pr s.c.E s.c.at_ • dS pw (.cells #[.int .i64 s.c.place, .map (some pt)] 122 (0, 0)) • gy rQ pt (tZ s.c.tx) • M pm •
  iH ph s.hl s.base s.most • dS bl (.cells #[.int .i64 s.su] 161 (0, 0)) • Row 189 3 pv s.put.length (es.flatMap eG.enc) • kW es • wG s.inn s.was [u0, u1, u2, u3, u4, u5, u6, u7, u8, u9, ua] • F)) : V w0 w (EdG e s M • F) :=
  V.iV ⟨pb, pr, pw, pt, pm, ph, bl, pv, es, u0, u1, u2, u3, u4, u5, u6, u7, u8, u9, ua⟩ (V.deep (V.kR ⟨h1, h2⟩ (H.of_eq (by simp only [dB]))))
theorem V.je {pb pr pw pt pm ph bl : Nat} {pv : Value} {es : List eG} {u0 u1 u2 u3 u4 u5 u6 u7 u8 u9 ua : Value} (h1 : mF s) (h2 : es.map eG.says = s.put) (H : V w0 w (
  dS e (.cells (.pointer (some ⟨pb, 0, none⟩) :: .pointer (some ⟨pr, 0, none⟩) :: .pointer (some ⟨pw, 0, none⟩) :: .map (some pm) :: .int .i64 s.c.mode :: .bool s.c.over :: .int .i64 s.c.last :: .int .i64 s.c.fr :: .int .i64 s.c.to :: .int .i64 s.c.res :: .bool s.c.run :: .pointer (some ⟨ph, 0, none⟩) :: .pointer (some ⟨bl, 0, none⟩) :: .bool s.given :: .bool s.minus :: .int .i64 s.arg :: .bool s.inn :: u0 :: u1 :: u2 :: u3 :: u4 :: u5 :: u6 :: u7 :: u8 :: u9 :: ua :: .int .i64 s.cls :: .bool s.killed :: .bool s.lT :: .bool s.argues :: .bool s.whole :: pv :: []).toArray 82 (0, 0)) •
  jH pb s.c.L s.c.pt s.c.mark • jc pr s.c.E s.c.at_ • dS pw (.cells #[.int .i64 s.c.place, .map (some pt)] 122 (0, 0)) • gy rQ pt (tZ s.c.tx) • xR pm s.c.un •
  iH ph s.hl s.base s.most • dS bl (.cells #[.int .i64 s.su] 161 (0, 0)) • Row 189 3 pv s.put.length (es.flatMap eG.enc) • kW es • wG s.inn s.was [u0, u1, u2, u3, u4, u5, u6, u7, u8, u9, ua] • F)) : V w0 w (iC e s • F) := V.aaP (M := fun pm => xR pm s.c.un) h1 h2 H
theorem V.Ik (H : V w0 w (iC e s • F)) : ∃ pb pr pw pt pm ph bl pv es u0 u1 u2 u3 u4 u5 u6 u7 u8 u9 ua, mF s ∧ es.map eG.says = s.put ∧ es.length = s.put.length ∧ V w0 w (
  dS e (.cells (.pointer (some ⟨pb, 0, none⟩) :: .pointer (some ⟨pr, 0, none⟩) :: .pointer (some ⟨pw, 0, none⟩) :: .map (some pm) :: .int .i64 s.c.mode :: .bool s.c.over :: .int .i64 s.c.last :: .int .i64 s.c.fr :: .int .i64 s.c.to :: .int .i64 s.c.res :: .bool s.c.run :: .pointer (some ⟨ph, 0, none⟩) :: .pointer (some ⟨bl, 0, none⟩) :: .bool s.given :: .bool s.minus :: .int .i64 s.arg :: .bool s.inn :: u0 :: u1 :: u2 :: u3 :: u4 :: u5 :: u6 :: u7 :: u8 :: u9 :: ua :: .int .i64 s.cls :: .bool s.killed :: .bool s.lT :: .bool s.argues :: .bool s.whole :: pv :: []).toArray 82 (0, 0)) •
  jH pb s.c.L s.c.pt s.c.mark • jc pr s.c.E s.c.at_ • dS pw (.cells #[.int .i64 s.c.place, .map (some pt)] 122 (0, 0)) • gy rQ pt (tZ s.c.tx) • xR pm s.c.un •
  iH ph s.hl s.base s.most • dS bl (.cells #[.int .i64 s.su] 161 (0, 0)) • Row 189 3 pv s.put.length (es.flatMap eG.enc) • kW es • wG s.inn s.was [u0, u1, u2, u3, u4, u5, u6, u7, u8, u9, ua] • F) := H.edG
end
end Go.Proofs.YtpdeedplgmbopaaGreatDoor
end
section
namespace Go.Proofs.YtpdeedplgmbopaaGreatDoor
open Go.RowKit
open _root_.Go.Proofs.Tryz
def L8 {β : Type} (f : Int → Option β) (S : List Int) : Int → Option β := fun k => if k ∈ S then f k else none
theorem Ot {β : Type} (f : Int → Option β) : L8 f [] = fun _ => none := by funext k; simp [L8]
theorem KD {β : Type} {f : Int → Option β} {S : List Int} {a : Int} {u : β} (h : f a = some u) : L8 f (S ++ [a]) = upd (L8 f S) a u := by
  funext k
  unfold L8 upd
  by_cases hk : k = a
  · subst hk; simp [h]
  · simp [hk]
theorem Ou {β : Type} {f : Int → Option β} {S : List Int} (h : ∀ a u, f a = some u → a ∈ S) : L8 f S = f := by
  funext k
  unfold L8
  split
  · rfl
  · rename_i hk
    cases hf : f k with
    | none => rfl
    | some u => exact absurd (h k u hf) hk
theorem SA (P : Int → Nat) : Om [] P = fun _ => none := by funext k; simp [Om]
theorem Wu {D : List Int} {P : Int → Nat} {a : Int} {u : Value} (h : Om D P a = some u) : a ∈ D ∧ u = .pointer (some ⟨P a, 0, none⟩) := by
  unfold Om at h
  split at h
  · rename_i hm; exact ⟨hm, by cases h; rfl⟩
  · cases h
theorem Ov {S : List Int} {P : Int → Nat} {a : Int} {q : Nat} (h : a ∉ S) : Om (S ++ [a]) (xQ P a q) = upd (Om S P) a (.pointer (some ⟨q, 0, none⟩)) := by
  funext k
  unfold Om upd xQ
  by_cases hk : k = a
  · subst hk; simp
  · simp [hk]
theorem Il {P : Int → Nat} {U : Int → List (List jq)} {a : Int} : ∀ {S : List Int}, FK P U (S ++ [a]) = (FK P U S • jl (P a) (U a) [] 0)
  | [] => by show (jl (P a) (U a) [] 0 • emp) = (emp • jl (P a) (U a) [] 0); rw [wH, og]
  | x :: S => by
    show (jl (P x) (U x) [] 0 • FK P U (S ++ [a])) = ((jl (P x) (U x) [] 0 • FK P U S) • jl (P a) (U a) [] 0)
    rw [Il, dB]
theorem ER {α : Type} {o : Option α} (h : ¬ o.isSome = true) : o = none := by cases o <;> simp_all
theorem Io {S : List Int} {a : Int} (h : S.Nodup) (ha : a ∉ S) : (S ++ [a]).Nodup := by
  rw [List.nodup_append]
  exact ⟨h, by simp, by intro x hx y hy; rw [List.mem_singleton.1 hy]; rintro rfl; exact ha hx⟩
section
variable {w0 w : World} {F : HP} {pb pr pw pt pm : Nat} {c : mX}
theorem Ox (H : V w0 w (jH pb c.L c.pt c.mark • jc pr c.E c.at_ • dS pw (.cells #[.int .i64 c.place, .map (some pt)] 122 (0, 0)) • gy rQ pt (tZ c.tx) • xR pm c.un • F)) :
  ig prog 80 #[.agg #[.pointer (some ⟨pb, 0, none⟩), .pointer (some ⟨pr, 0, none⟩), .pointer (some ⟨pw, 0, none⟩), .map (some pm), .int .i64 c.mode, .bool c.over, .int .i64 c.last, .int .i64 c.fr, .int .i64 c.to, .int .i64 c.res, .bool c.run]] w fun v w' =>
   ∃ qb qr qw qt qm, v = .agg #[.pointer (some ⟨qb, 0, none⟩), .pointer (some ⟨qr, 0, none⟩), .pointer (some ⟨qw, 0, none⟩), .map (some qm), .int .i64 c.mode, .bool c.over, .int .i64 c.last, .int .i64 c.fr, .int .i64 c.to, .int .i64 c.res, .bool c.run] ∧
    V w0 w' (jH qb c.L c.pt c.mark • jc qr c.E c.at_ • dS qw (.cells #[.int .i64 c.place, .map (some qt)] 122 (0, 0)) • gy rQ qt (tZ c.tx) • xR qm c.un •
     jH pb c.L c.pt c.mark • jc pr c.E c.at_ • dS pw (.cells #[.int .i64 c.place, .map (some pt)] 122 (0, 0)) • gy rQ pt (tZ c.tx) • xR pm c.un • F) := by
 refine iK func80 ntmps80 ?_
 refine gW (jL (jf (l := [_, _, _, _, _, _, _, _, _, _, _]) H O O) ?_)
 rintro _ w1 ⟨b1, rfl, H1⟩
 refine jL (gK (l := [_, _, _, _, _, _, _, _, _, _, _]) H1 lU O) ?_
 rintro _ w2 ⟨b2, rfl, H2⟩
 refine qW ?_
 have VE := H2.drew
 have y7 := V.kp (VE.f7.f7.f7.f7.f7.f7.f7)
 refine yY [1, 4] y7 O (iJ 0 O y7 0 aJ O wS O (kK 1 O y7 (fun W hW => kQ rE O ((Kp.h hW).f2).get.2 O) (iJ 3 O y7 1 aJ O sizeOf73 O (kK 4 O y7 (fun W hW => kQ uX O ((Kp.h hW).f2).get.2 O) (oV 2 O (zx O func129 (Jv VE.f3)) ?_)))))
 rintro _ w3 ⟨q3, rfl, H3⟩
 have zD := V.kp (H3.f8.f8.f8.f8.f8.f8.f8.f8)
 refine eU zD (fun W hW => (Kp.h hW).right.f7.f7.f7.f7.f5.f7.f7) ?_
 refine iJ 6 O zD 0 aJ O wS O (oV 5 O (zx O func85 (AA H3.f5)) ?_)
 rintro _ w4 ⟨pc4, rfl, H4⟩
 have nK := V.kp (H4.f9.f9.f9.f9.f9.f9.f9.f9.f9)
 refine iD nK (by kernel_rfl) ?_
 refine gX 7 O (by kernel_rfl) (fQ 0 (l' := [_, _, _, _, _, _, _, _, _, _, _]) H4.f6 wS O O (by first | rfl | assumption) O O) ?_
 rintro _ w5 H5
 have AQ := V.kp (H5.f9.f9.f9.f9.f9.f9.f9.f9.f9)
 refine iD AQ (by kernel_rfl) ?_
 refine iJ 8 O AQ 1 aJ O sizeOf73 O ?_
 refine gX 9 O (by kernel_rfl) (fQ 1 (l' := [_, _, _, _, _, _, _, _, _, _, _]) H5 sizeOf73 O O (by first | rfl | assumption) O O) ?_
 rintro _ w6 H6
 have Dj := V.kp (H6.f9.f9.f9.f9.f9.f9.f9.f9.f9)
 refine iD Dj (by kernel_rfl) ?_
 refine sK (aW (gW (bK 2 aJ O sizeOf74 O (gJ kS O (H6).get.2 O (dQ O (bK 0 fK O aF O (gJ aP O (H6.f7).get.2 O (jL (jX (xB .i64) H6) ?_))))))))
 rintro _ w7 ⟨b7, rfl, H7⟩
 refine Z (qO (pl := #[(0, 1), (1, 1)]) (#[_, _]) fK nN (fun w => by kernel_rfl) O (O)) (jL (jf (l := [_, _]) H7 O O) ?_)
 rintro _ w8 ⟨b8, rfl, H8⟩
 refine tX O (gW (bK 2 aJ O sizeOf74 O (gJ kS O (H8.f3).get.2 O (dQ O (bK 1 fK O sizeOf120 O (gJ underlying120 O (H8.f9).get.2 O (jL (AZ H8.f10 underlying120 O) ?_)))))))
 rintro _ w9 ⟨it9, mi, rfl, H9⟩
 refine iy (aV ?_)
 obtain ⟨R10, adU, adV⟩ := V.Gz (H9.f2.f3.f3)
 have HX0 := adV
 rw [← Ot (tZ c.tx)] at HX0
 refine dJ [(1, _), (2, _), (3, _), (30, _)] (fun (⟨S, n⟩ : List Int × Nat) => []) (fun (⟨S, n⟩ : List Int × Nat) W => V w0 W (CO rQ pt it9 (tZ c.tx) S n • gy rQ b7 (L8 (tZ c.tx) S) • dS b8 (.cells #[.int .i64 c.place, .map (some b7)] 122 (0, 0)) • R10)) (fun (⟨S, n⟩ : List Int × Nat) => n) (([], _)) BI (Sub.nil _) HX0 ?_
 rintro ⟨S, n⟩ ED HL
 dsimp only [List.cons_append, List.nil_append]
 refine gW (jL (Dh HL O) ?_)
 rintro _ w12 ⟨ox, Sx, mx, rfl, ZX, vX⟩
 refine Z (Wn O) (qW (bI O (fun h1 => ?_) (fun h1 => ?_)))
 ·(try simp only [aC] at h1)
  obtain ⟨⟨a, u⟩, rfl⟩ := Option.isSome_iff_exists.1 h1
  obtain ⟨ha, hns, hlt, rfl⟩ := ZX
  refine fG (aV (gW ?_))
  refine Z (L6 (vX) (by assumption) O) ?_
  refine rW O O (rW O O (dL O (fV O (aA (nZ O O (bK 1 fK O sizeOf120 O (gJ underlying120 O (vX.f3).get.2 O (jr O O (aO (vI vX.f2 underlying120 aP O O O) ?_)))))))))
  rintro _ PO xM
  refine bD (aG ?_)
  have hres := KD (S := S) ha
  refine bZ ((S ++ [a], mx)) ?_ ?_ ?_ ?_
  ·exact (Sub.nil _)
  ·exact BI
  ·(try dsimp only)
   first | done | exact (by rw [hres]; exact xM.f3.f2.f3)
  ·(try dsimp only); omega
 ·(try simp only [aC] at h1)
  obtain rfl := ER (o := ox) (by simp [h1])
  obtain ⟨rfl, rfl, hall⟩ := ZX
  refine bQ (aB ?_)
  have HX := vX.f3.f2.f3
  rw [Ou hall] at HX
  have aaQ := HX.f2
  have aaR := aaQ.EN
  subst adU
  refine aB (aU (aW (bM O (bK 2 aJ O sizeOf74 O (aO (fQ 2 (l' := [_, _, _, _, _, _, _, _, _, _, _]) aaR.f4 sizeOf74 O O (by first | rfl | assumption) O O) ?_)))))
  rintro _ w16 zB
  refine Yh (jL (jX (xB .i64) zB) ?_)
  rintro _ ZY ⟨b17, rfl, Jo⟩
  refine tX O (aK ?_)
  obtain ⟨D, P, hD1, hD2, HU⟩ := (Jo.f12).YV
  refine aA (bK 3 aJ O sizeOf75 O (gJ kT O (HU.f4).get.2 O (jL (AZ HU kT O) ?_)))
  rintro _ YE ⟨adW, mi, rfl, DT⟩
  refine iy (aV ?_)
  obtain ⟨R19, adX, adY⟩ := V.Gz (DT.f3.f3.f3)
  have HX0 := adY
  rw [← SA P] at HX0
  refine dJ [(1, _), (2, _), (6, _), (47, _)] (fun (⟨S, n, P2⟩ : List Int × Nat × (Int → Nat)) => []) (fun (⟨S, n, P2⟩ : List Int × Nat × (Int → Nat)) W => S.Nodup ∧ V w0 W (CO rQ pm adW (Om D P) S n • FK P c.un D • gy rQ b17 (Om S P2) • FK P2 c.un S • R19)) (fun (⟨S, n, P2⟩ : List Int × Nat × (Int → Nat)) => n) (([], _, P)) BI (Sub.nil _) ⟨List.nodup_nil, (HX0).of_eq (by show _ = (_ • _ • _ • emp • _); rw [og])⟩ ?_
  rintro ⟨S, n, P2⟩ w20 ⟨hS, HL⟩
  dsimp only [List.cons_append, List.nil_append]
  refine gW (jL (Dh HL O) ?_)
  rintro _ w21 ⟨ox, Sx, mx, rfl, ZX, Jz⟩
  refine Z (Wn O) (qW (bI O (fun h2 => ?_) (fun h2 => ?_)))
  ·(try simp only [aC] at h2)
   obtain ⟨⟨a, u⟩, rfl⟩ := Option.isSome_iff_exists.1 h2
   obtain ⟨ha, hns, hlt, rfl⟩ := ZX
   obtain ⟨hmem, rfl⟩ := Wu ha
   have HF := Jz.f2
   rw [sD hmem] at HF
   have HF2 := HF.flat
   refine fG (aV (gW ?_))
   refine Z (L6 (HF2.f3) (by assumption) O) ?_
   refine rW O O (rW O O (dL O (fV O (aA (jr O O (bG O (dX O func130 (Ie HF2) ?_)))))))
   rintro _ w22 ⟨q22, rfl, Qe⟩
   refine aO (vI Qe.f5 kT aP O O O) ?_
   rintro _ w23 JA
   refine bD (aG ?_)
   have HQ := JA.f2.f6.f3.f5.f5.f6
   have hu1 : FK (xQ P2 a q22) c.un (S ++ [a]) = (FK P2 c.un S • jl q22 (c.un a) [] 0) := by
    rw [Il, oK, BL (P' := P2) (U' := c.un) fun x hx => ⟨vH _ _ (by rintro rfl; exact hns hx), rfl⟩]
   refine bZ ((S ++ [a], mx, xQ P2 a q22)) ?_ ?_ ?_ ?_
   ·exact (Sub.nil _)
   ·exact BI
   ·(try dsimp only)
    first | done | exact ⟨Io hS hns, HQ.of_eq (by rw [sD hmem, hu1, Ov hns]; ac_rfl)⟩
   ·(try dsimp only); omega
  ·(try simp only [aC] at h2)
   obtain rfl := ER (o := ox) (by simp [h2])
   obtain ⟨rfl, rfl, hall⟩ := ZX
   refine bQ (aB ?_)
   have adZ := Jz
   have ad0 := adZ.EN
   subst adX
   have ad1 := ad0.f2.f2
   have ad2 := V.BM hD1 hD2 ad1
   have hnS : ∀ k, k ∉ Sx → c.un k = [] := fun k hk => hD2 k fun hkD => hk (hall k _ (if_pos hkD))
   have aaS := ad2.f3.f3
   have Uf := V.BM hS hnS aaS
   refine aB (aU (aW (bM O (bK 3 aJ O sizeOf75 O (aO (fQ 3 (l' := [_, _, _, _, _, _, _, _, _, _, _]) Uf.f3 sizeOf75 O O (by first | rfl | assumption) O O) ?_)))))
   rintro _ w30 Wv
   refine Yh (Z (fP aJ O aX O O (Wv).get.2) (aO (dw 0 (l' := [_, _, _, _, _, _, _, _, _, _, _]) (us := [_, _, _, _, _, _, _, _, _, _, _]) Wv.f11 aX O O O (aH (aH (aH (aH (aH (aH (aH (aH (aH (aH (aH bP))))))))))) O O) ?_))
   rintro _ w31 Ug
   refine ZH ?_
   refine qY (.inl O) (Lh results80 O aJ O (by rw [acx]; rfl) (Ug).get.2) ?_
   exact ⟨_, _, _, _, _, O, Ug.right.right.f2.f3.f10.f8.f10.f6.f7.f8.f9.f10⟩
end
end Go.Proofs.YtpdeedplgmbopaaGreatDoor
end
section
namespace Go.Proofs.YtpdeedplgmbopaaGreatDoor
open Go.RowKit
section
variable {P : Program} {L : List (Nat × Value)} {w0 w : World} {F : HP} {ty : TypeId} {α : Type} {K : Key α} {f : α → Option Value} {a : α} {b : Nat} {x y z : Operand}
theorem zi [DecidableEq α] {t kt et : TypeId} {v : Value} (H : V w0 w (gy K b f • F)) (ht : P.underlying t = some (.map kt et)) (hk : P.underlying kt = some K.d)
    (hx : ev L x = some (.map (some b))) (hy : ev L y = some (K.mk a)) (hz : ev L z = some v) : uZ P L (.insert t x y z) ty w fun _ w' => V w0 w' (gy K b (upd f a v) • F) := vI (ty := ty) (y := y) (z := z) H ht hk hx hy hz
theorem Uh {t t' kt et : TypeId} {a : Option Nat} (ht : P.underlying t = some (.map kt et)) (hx : ev L x = some (.map a)) (hy : ev L y = some (.map none)) : Val P L (.binOp .eql t x y t') ty w (.bool a.isNone) w := fun ρ hρ _ _ _ _ => by
  simp only [execOp, hρ _ _ hx, hρ _ _ hy]
  have h1 : (eqGuard .eql t x y (.map a) (.map none)).run P w = .ok () w := by unfold eqGuard; rfl
  have h2 : (Op.equal t (.map a) (.map none)).run P w = .ok a.isNone w := BD fun d => by cases a <;> simp [Op.equalIn, run_underlying ht]
  have h3 : binOp .eql t (.map a) (.map none) = (do pure (.bool (← Op.equal t (.map a) (.map none)))) := by rfl
  simp only [Sem.run_bind, h1, Result.andThen, h3, h2]
  simp
end
end Go.Proofs.YtpdeedplgmbopaaGreatDoor
end
section
namespace Go.Proofs.YtpdeedplgmbopaaGreatDoor
open Go.RowKit
open _root_.Go.Proofs.Tryz
def ends (T : List (Int × Int)) : List Int := T.flatMap fun x => [x.1, x.2]
theorem Wx (T : List (Int × Int)) : (ends T).length = T.length * 2 := by
  induction T with
  | nil => rfl
  | cons x r ih => simp only [ends, List.flatMap_cons, List.length_append] at *; simp [ih]; omega
theorem SB (T : List (Int × Int)) (k : Nat) (h : k < T.length) : (ends T).getD (k * 2) 0 = (T.getD k (0, 0)).1 ∧ (ends T).getD (k * 2 + 1) 0 = (T.getD k (0, 0)).2 := by
  induction T generalizing k with
  | nil => simp at h
  | cons x r ih =>
    cases k with
    | zero => exact ⟨rfl, rfl⟩
    | succ k =>
      have := ih k (by simpa using h)
      rw [show (k + 1) * 2 = k * 2 + 2 from by omega, show k * 2 + 2 + 1 = (k * 2 + 1) + 2 from by omega]
      simpa [ends, List.getD_eq_getElem?_getD] using this
section
variable {w0 w : World} {F : HP} {r : Int}
theorem F6 : ig prog 148 #[.int .i32 r] w fun v w' => v = .bool (fU r) ∧ w = w' := by
  refine iK func148 ntmps148 ?_
  refine jy O (bM O (Z (jw O O) (iZ O (fun h1 => ?_) (fun h1 => ?_))))
  · (try simp only [aC] at h1)
    try (exfalso; first | contradiction | omega)
    all_goals
      refine bg (bG O (bg (Z (fF O O) (iM O O (iZ O (fun h2 => ?_) (fun h2 => ?_))))))
      · (try simp only [aC] at h2)
        try (exfalso; first | contradiction | omega)
        all_goals
          refine bn (bn (bn (mV (mV (bn (iM O O (dU O (dF results148 O ?_))))))))
          refine ⟨?_, O⟩; congr 1; first | (symm; rw [fU, decide_eq_true_eq]; omega) | (symm; rw [fU, decide_eq_false_iff_not]; omega) | (rw [fU, decide_eq_decide]; omega)
      · (try simp only [aC] at h2)
        try (exfalso; first | contradiction | omega)
        all_goals
          refine bg (bG O (bg (Z (jw O O) (bg (iZ O (fun h3 => ?_) (fun h3 => ?_))))))
          · (try simp only [aC] at h3)
            try (exfalso; first | contradiction | omega)
            all_goals
              refine bg (bG O (bg (Z (oC O O) (bg (iM O O (gI O O (dU O (dF results148 O ?_))))))))
              refine ⟨?_, O⟩; congr 1; first | (symm; rw [fU, decide_eq_true_eq]; omega) | (symm; rw [fU, decide_eq_false_iff_not]; omega) | (rw [fU, decide_eq_decide]; omega)
          · (try simp only [aC] at h3)
            try (exfalso; first | contradiction | omega)
            all_goals
              refine bn (bn (bg (gI O O (gI O O (dU O (dF results148 O ?_))))))
              refine ⟨?_, O⟩; congr 1; first | (symm; rw [fU, decide_eq_true_eq]; omega) | (symm; rw [fU, decide_eq_false_iff_not]; omega) | (rw [fU, decide_eq_decide]; omega)
  · (try simp only [aC] at h1)
    try (exfalso; first | contradiction | omega)
    all_goals
      refine bn (bn (gI O O (bG O (bg (bG O (bg (Z (jw O O) (bg (iZ O (fun h4 => ?_) (fun h4 => ?_))))))))))
      · (try simp only [aC] at h4)
        try (exfalso; first | contradiction | omega)
        all_goals
          refine bg (bG O (bg (Z (oC O O) (bg (iM O O (gI O O (dU O (dF results148 O ?_))))))))
          refine ⟨?_, O⟩; congr 1; first | (symm; rw [fU, decide_eq_true_eq]; omega) | (symm; rw [fU, decide_eq_false_iff_not]; omega) | (rw [fU, decide_eq_decide]; omega)
      · (try simp only [aC] at h4)
        try (exfalso; first | contradiction | omega)
        all_goals
          refine bn (bn (bg (gI O O (gI O O (dU O (dF results148 O ?_))))))
          refine ⟨?_, O⟩; congr 1; first | (symm; rw [fU, decide_eq_true_eq]; omega) | (symm; rw [fU, decide_eq_false_iff_not]; omega) | (rw [fU, decide_eq_decide]; omega)
theorem Ea : ig prog 106 #[.int .i32 r] w fun v w' => v = .bool (iE r) ∧ w = w' := by
  refine iK func106 ntmps106 ?_
  refine jy O (bM O (Z (jw O O) (iZ O (fun h1 => ?_) (fun h1 => ?_))))
  · (try simp only [aC] at h1)
    try (exfalso; first | contradiction | omega)
    all_goals
      refine bg (bG O (bg (Z (fF O O) (iM O O (iZ O (fun h2 => ?_) (fun h2 => ?_))))))
      · (try simp only [aC] at h2)
        try (exfalso; first | contradiction | omega)
        all_goals
          refine bn (bn (bn (mV (mV (bn (iM O O (dU O (dF results106 O ?_))))))))
          refine ⟨?_, O⟩; congr 1; first | (symm; rw [iE, decide_eq_true_eq]; omega) | (symm; rw [iE, decide_eq_false_iff_not]; omega) | (rw [iE, decide_eq_decide]; omega)
      · (try simp only [aC] at h2)
        try (exfalso; first | contradiction | omega)
        all_goals
          refine bg (bG O (bg (Z (iw O O) (bg (iZ O (fun h3 => ?_) (fun h3 => ?_))))))
          · (try simp only [aC] at h3)
            try (exfalso; first | contradiction | omega)
            all_goals
              refine bg (bG O (bg (Z (oC O O) (bg (iM O O (gI O O (dU O (dF results106 O ?_))))))))
              refine ⟨?_, O⟩; congr 1; first | (symm; rw [iE, decide_eq_true_eq]; omega) | (symm; rw [iE, decide_eq_false_iff_not]; omega) | (rw [iE, decide_eq_decide]; omega)
          · (try simp only [aC] at h3)
            try (exfalso; first | contradiction | omega)
            all_goals
              refine bn (bn (bg (gI O O (gI O O (dU O (dF results106 O ?_))))))
              refine ⟨?_, O⟩; congr 1; first | (symm; rw [iE, decide_eq_true_eq]; omega) | (symm; rw [iE, decide_eq_false_iff_not]; omega) | (rw [iE, decide_eq_decide]; omega)
  · (try simp only [aC] at h1)
    try (exfalso; first | contradiction | omega)
    all_goals
      refine bn (bn (gI O O (bG O (bg (bG O (bg (Z (iw O O) (bg (iZ O (fun h4 => ?_) (fun h4 => ?_))))))))))
      · (try simp only [aC] at h4)
        try (exfalso; first | contradiction | omega)
        all_goals
          refine bg (bG O (bg (Z (oC O O) (bg (iM O O (gI O O (dU O (dF results106 O ?_))))))))
          refine ⟨?_, O⟩; congr 1; first | (symm; rw [iE, decide_eq_true_eq]; omega) | (symm; rw [iE, decide_eq_false_iff_not]; omega) | (rw [iE, decide_eq_decide]; omega)
      · (try simp only [aC] at h4)
        try (exfalso; first | contradiction | omega)
        all_goals
          refine bn (bn (bg (gI O O (gI O O (dU O (dF results106 O ?_))))))
          refine ⟨?_, O⟩; congr 1; first | (symm; rw [iE, decide_eq_true_eq]; omega) | (symm; rw [iE, decide_eq_false_iff_not]; omega) | (rw [iE, decide_eq_decide]; omega)
theorem zN {v : Value} {T : List (Int × Int)} (hr : dR w .i32 v (ends T)) (hT : T.length < 1000000) :
  ig prog 105 #[.int .i32 r, v] w fun v w' => v = .bool (within r T) ∧ w = w' := by
 have hel := Wx T
 obtain ⟨a, c, rfl, hc1, hc2, hcell⟩ := hr.open
 refine nC func105 ntmps105 ?_
 refine jy O (aK (jy O (aV ?_)))
 refine dJ [(0, _), (1, _)] (fun (k : Nat) => [(5, .int .i64 ((k : Int) * 2))]) (fun (k : Nat) W => k ≤ T.length ∧ within r (T.take k) = false ∧ w = W) (fun (k : Nat) => T.length - k) (0) mW ji ⟨by omega, O, O⟩ ?_
 rintro k w1 ⟨hk, hno, rfl⟩
 dsimp only [List.cons_append, List.nil_append]
 refine aK (bM O (Z (dP O O (by omega)) (bG O (Z (jZ aj O) (Z (fF O O) (gQ O (fun h1 => ?_) (fun h1 => ?_)))))))
 ·(try simp only [aC] at h1)
  try (exfalso; first | contradiction | omega)
  all_goals
   refine fG (aK (aV (aK ?_)))
   have hk1 : k < T.length := by omega
   obtain ⟨b0, o, rfl, hq⟩ := hcell (by omega)
   have hq0 := hq (k * 2) (by omega)
   have hq1 := hq (k * 2 + 1) (by omega)
   rw [(SB T k hk1).1] at hq0
   rw [(SB T k hk1).2] at hq1
   refine aA (jr O O (bG O (Z (dh aj bF O O (by omega)) ?_)))
   refine Z (dH (bT aQ O) O (by rw [show ((k : Int) * 2).toNat * 1 = k * 2 from by omega]; exact hq0)) ?_
   refine Z (jw O O) (iZ O (fun h2 => ?_) (fun h2 => ?_))
   ·(try simp only [aC] at h2)
    try (exfalso; first | contradiction | omega)
    all_goals
     refine bg (bG O (bg (bG O (bg (bG O (bg (Z (dP O O (by omega)) (bg (Z (dh aj bF O O (by omega)) (bg ?_))))))))))
     refine Z (dH (bT aQ O) O (by rw [show ((k : Int) * 2 + 1).toNat * 1 = k * 2 + 1 from by omega]; exact hq1)) ?_
     refine bg (Z (oC O O) (iM O O (gQ O (fun h3 => ?_) (fun h3 => ?_))))
     ·(try simp only [aC] at h3)
      try (exfalso; first | contradiction | omega)
      all_goals
       refine jB O (aN (ay (ay (aN (ay (dF results105 O ?_))))))
       exact ⟨by rw [G6 hk1 (by omega)], O⟩
     ·(try simp only [aC] at h3)
      try (exfalso; first | contradiction | omega)
      all_goals
       refine bY (aG (aW (aA (bG O (Z (dP O O (by omega)) (dL O (bD ?_)))))))
       refine bZ (k + 1) ?_ ?_ ?_ ?_
       ·exact (Sub.eP O (by rw [show ((k + 1 : Nat) : Int) * 2 = (k : Int) * 2 + 2 from by omega]) (Sub.nil _))
       ·exact mW
       ·(try dsimp only)
        first | done | exact ⟨by omega, by rw [yg hk1, hno, Bool.false_or, decide_eq_false_iff_not]; omega, rfl⟩
       ·(try dsimp only); omega
   ·(try simp only [aC] at h2)
    try (exfalso; first | contradiction | omega)
    all_goals
     refine bn (bn (bn (bn (bn (bn (bn (gI O O (iy (oD (bY (aG (aW (aA (bG O (Z (dP O O (by omega)) (dL O (bD ?_)))))))))))))))))
     refine bZ (k + 1) ?_ ?_ ?_ ?_
     ·exact (Sub.eP O (by rw [show ((k + 1 : Nat) : Int) * 2 = (k : Int) * 2 + 2 from by omega]) (Sub.nil _))
     ·exact mW
     ·(try dsimp only)
      first | done | exact ⟨by omega, by rw [yg hk1, hno, Bool.false_or, decide_eq_false_iff_not]; omega, rfl⟩
     ·(try dsimp only); omega
 ·(try simp only [aC] at h1)
  try (exfalso; first | contradiction | omega)
  all_goals
   refine bQ (aB (aB (aU (aW (jB O (dF results105 O ?_))))))
   exact ⟨by rw [← hno, List.take_of_length_le (by omega)], O⟩
theorem JB (H : V w0 w F) : ig prog 107 #[.int .i32 r] w fun v w' => v = .int .i64 (qZ r) ∧ V w0 w' F := by
  refine iK func107 ntmps107 ?_
  refine jy O (aK (bM O (dX O func106 (Ea) ?_)))
  rintro _ _ ⟨rfl, rfl⟩
  refine Z (mD O) (iZ O (fun h1 => ?_) (fun h1 => ?_))
  · (try simp only [aC] at h1)
    try (exfalso; first | contradiction | omega)
    all_goals
      refine bn (bn (iM O O (iy (DC (jB O (ay (dF results107 O ?_)))))))
      exact ⟨by unfold qZ; simp [*], H⟩
  · (try simp only [aC] at h1)
    try (exfalso; first | contradiction | omega)
    all_goals
      refine bg (bG O (bg (dX O func148 (F6) ?_)))
      rintro _ _ ⟨rfl, rfl⟩
      refine gI O O (gQ O (fun h2 => ?_) (fun h2 => ?_))
      · (try simp only [aC] at h2)
        try (exfalso; first | contradiction | omega)
        all_goals
          refine jB O (ay (dF results107 O ?_))
          exact ⟨by unfold qZ; simp [*], H⟩
      · (try simp only [aC] at h2)
        try (exfalso; first | contradiction | omega)
        all_goals
          refine fG (aK (bM O (jL (Ko (vs := (ends GX).map (Value.int .i32)) H aj bF nG O O O (by decide) (yZ _ _)) ?_)))
          rintro _ w3 ⟨ba, rfl, H3⟩
          refine dX O func105 (zN (T := GX) (Gm (k := .i32) (ends GX) (by decide) _ H3) (by decide)) ?_
          rintro _ _ ⟨rfl, rfl⟩
          refine gQ O (fun h3 => ?_) (fun h3 => ?_)
          · (try simp only [aC] at h3)
            try (exfalso; first | contradiction | omega)
            all_goals
              refine jB O (ay (dF results107 O ?_))
              exact ⟨by unfold qZ; simp [*], H3.right⟩
          · (try simp only [aC] at h3)
            try (exfalso; first | contradiction | omega)
            all_goals
              refine fG (aK (bM O (jL (Ko (vs := (ends GY).map (Value.int .i32)) H3 aj bF nG O O O (by decide) (yZ _ _)) ?_)))
              rintro _ w5 ⟨bb, rfl, H5⟩
              refine dX O func105 (zN (T := GY) (Gm (k := .i32) (ends GY) (by decide) _ H5) (by decide)) ?_
              rintro _ _ ⟨rfl, rfl⟩
              refine gQ O (fun h4 => ?_) (fun h4 => ?_)
              · (try simp only [aC] at h4)
                try (exfalso; first | contradiction | omega)
                all_goals
                  refine jB O (ay (dF results107 O ?_))
                  exact ⟨by unfold qZ; simp [*], H5.right.right⟩
              · (try simp only [aC] at h4)
                try (exfalso; first | contradiction | omega)
                all_goals
                  refine fG (jB O (dF results107 O ?_))
                  exact ⟨by unfold qZ; simp [*], H5.right.right⟩
abbrev Ip : List (Int × Int) := [(48, 57), (65, 90), (97, 122)]
abbrev Wy : List (Int × Int) := [(215, 215), (247, 247), (8192, 8303), (12288, 12351), (65280, 65295), (65533, 65533)]
theorem WA : within r Ip = decide (48 ≤ r ∧ r ≤ 57 ∨ 65 ≤ r ∧ r ≤ 90 ∨ 97 ≤ r ∧ r ≤ 122) := by simp [within, Ip]
theorem aaT : within r Wy = decide (r = 215 ∨ r = 247 ∨ r = 65533 ∨ 8192 ≤ r ∧ r ≤ 8303 ∨ 12288 ≤ r ∧ r ≤ 12351 ∨ 65280 ≤ r ∧ r ≤ 65295) := by
  simp only [within, Wy, List.any_cons, List.any_nil, Bool.or_false]
  rw [Bool.eq_iff_iff]
  simp only [Bool.or_eq_true, decide_eq_true_eq]
  omega
theorem WB (r : Int) : 0 ≤ qZ r := by unfold qZ; split <;> (try split) <;> omega
theorem Iq (H : V w0 w F) : ig prog 48 #[.int .i32 r] w fun v w' => v = .bool (dO r) ∧ V w0 w' F := by
  have hwb := WB r
  refine iK func48 ntmps48 ?_
  refine jy O (aK (bM O (jL (Ko (vs := (ends Ip).map (Value.int .i32)) H aj bF nG O O O (by decide) (yZ _ _)) ?_)))
  rintro _ w1 ⟨ba, rfl, H1⟩
  refine dX O func105 (zN (T := Ip) (Gm (k := .i32) (ends Ip) (by decide) _ H1) (by decide)) ?_
  rintro _ _ ⟨rfl, rfl⟩
  rw [WA]
  refine gQ O (fun h1 => ?_) (fun h1 => ?_)
  · (try simp only [aC] at h1)
    try (exfalso; first | contradiction | omega)
    all_goals
      refine jB O (ay (dF results48 O ?_))
      refine ⟨?_, H1.right⟩; congr 1; symm; rw [dO, if_pos (by omega), decide_eq_true_eq]; omega
  · (try simp only [aC] at h1)
    try (exfalso; first | contradiction | omega)
    all_goals
      refine fG (aK (bM O (Z (fF O O) (iZ O (fun h2 => ?_) (fun h2 => ?_)))))
      · (try simp only [aC] at h2)
        try (exfalso; first | contradiction | omega)
        all_goals
          refine bn (bn (bn (iM O O (bG O (bn (bn (bn (iM O O (iy (DC (jB O (ay (dF results48 O ?_)))))))))))))
          refine ⟨?_, H1.right⟩
          congr 1; symm; unfold dO
          split
          · rw [decide_eq_false_iff_not]; omega
          · first
              | (exfalso; omega)
              | (split; rfl; first | (exfalso; omega) | simp [*])
      · (try simp only [aC] at h2)
        try (exfalso; first | contradiction | omega)
        all_goals
          refine bg (bG O (bg (dX O func106 (Ea) ?_)))
          rintro _ _ ⟨rfl, rfl⟩
          refine bg (Z (mD O) (gI O O (iZ O (fun h3 => ?_) (fun h3 => ?_))))
          · (try simp only [aC] at h3)
            try (exfalso; first | contradiction | omega)
            all_goals
              refine bn (bn (bn (iM O O (iy (DC (jB O (ay (dF results48 O ?_))))))))
              refine ⟨?_, H1.right⟩
              congr 1; symm; unfold dO
              split
              · rw [decide_eq_false_iff_not]; omega
              · first
                  | (exfalso; omega)
                  | (split; rfl; first | (exfalso; omega) | simp [*])
          · (try simp only [aC] at h3)
            try (exfalso; first | contradiction | omega)
            all_goals
              refine bg (bG O (bg (dX O func107 (JB H1) ?_)))
              rintro _ w4 ⟨rfl, H4⟩
              refine bg (Z (cZ O O) (gI O O (gQ O (fun h4 => ?_) (fun h4 => ?_))))
              · (try simp only [aC] at h4)
                try (exfalso; first | contradiction | omega)
                all_goals
                  refine jB O (ay (dF results48 O ?_))
                  refine ⟨?_, H4.right⟩
                  congr 1; symm; unfold dO
                  split
                  · rw [decide_eq_false_iff_not]; omega
                  · first
                      | (exfalso; omega)
                      | (split; rfl; first | (exfalso; omega) | simp [*])
              · (try simp only [aC] at h4)
                try (exfalso; first | contradiction | omega)
                all_goals
                  refine fG (bM O (jL (Ko (vs := (ends Wy).map (Value.int .i32)) H4 aj bF nG O O O (by decide) (yZ _ _)) ?_))
                  rintro _ w5 ⟨bb, rfl, H5⟩
                  refine dX O func105 (zN (T := Wy) (Gm (k := .i32) (ends Wy) (by decide) _ H5) (by decide)) ?_
                  rintro _ _ ⟨rfl, rfl⟩
                  rw [aaT]
                  refine Z (mD O) (dU O (dF results48 O ?_))
                  refine ⟨?_, H5.right.right⟩
                  congr 1
                  rw [dO, if_neg (by omega)]
                  by_cases ho : r = 215 ∨ r = 247 ∨ r = 65533 ∨ 8192 ≤ r ∧ r ≤ 8303 ∨ 12288 ≤ r ∧ r ≤ 12351 ∨ 65280 ≤ r ∧ r ≤ 65295
                  · rw [if_pos ho, decide_eq_true ho]; rfl
                  · rw [if_neg ho, decide_eq_false ho, show iE r = true from by assumption, Bool.true_and, Bool.not_false]
                    symm; rw [decide_eq_true_eq]; omega
end
end Go.Proofs.YtpdeedplgmbopaaGreatDoor
end
