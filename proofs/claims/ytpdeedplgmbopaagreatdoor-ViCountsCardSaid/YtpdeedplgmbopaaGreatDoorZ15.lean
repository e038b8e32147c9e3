import Derived.Test.YtpdeedplgmbopaaGreatDoorZ4
import Derived.Test.YtpdeedplgmbopaaGreatDoorZ14
set_option linter.unusedSimpArgs false
set_option linter.unusedVariables false
/- Texts of mine, joined, their names in short: EdF. -/
section
namespace Go.Proofs.YtpdeedplgmbopaaGreatDoor
open Go.RowKit
open _root_.Go.Proofs.Tryz
theorem aa8 : (prog.info? 189).map (fun i => (i.zero, i.size, i.bytes)) = some (some (.agg #[.int .i64 0, .slice none 0 0, .slice none 0 0]), 3, 56) := by kernel_rfl
def VX (c : Nat) (g : List jl) : HP := uZ fun (x : Value × List eF) => fact (x.2.map eF.says = g) • dW c (.cells #[x.1] 80 (0, 0)) • Row 189 3 x.1 x.2.length (x.2.flatMap eF.enc) • lU x.2
section
variable {w0 w : World} {F : HP} {e p c n m : Nat} {s : bC} {i j x : Int} {on : Bool} {v : Value} {g : List jl} {Ar es : List eF} {xs : List Value}
theorem CP (H : V w0 w F) (hr : Wy w0 F 3 v n xs) (hon : ∀ u ∈ xs, u.oneCell' = true) (hb : n ≤ 1099511627776) :
    iI prog 122 #[v] w fun v' w' => V w0 w' (Row 189 3 v' n xs • F) := by
  obtain ⟨hlen, a, c, rfl, h2, h3, h4⟩ := hr w H
  refine jr func122 ntmps122 ?_
  refine jR O (aO (bT O (Z (CX aV O O) ?_)))
  refine jL O (fun h1 => ?_) (fun h1 => ?_)
  · (try simp only [aA] at h1)
    refine jP O (aB (dK results122 O ?_))
    obtain rfl : a = none := by simpa using h1
    obtain rfl : n = 0 := by
      rcases Nat.eq_zero_or_pos n with h | h
      · exact h
      · obtain ⟨b, o, e, _⟩ := h4 h; cases e
    obtain rfl : xs = [] := List.eq_nil_of_length_eq_zero (by omega)
    exact H.jw none
  · (try simp only [aA] at h1)
    refine gQ (iV (jV (KD H aV cO dQ) ?_))
    rintro _ w1 H1
    refine bP O (jV (iw H1 aV aa8 O O O (hr.under _ H1) hon (by omega) (by omega)) ?_)
    rintro _ w2 H2
    refine fC O (dK results122 O ?_)
    exact H2.of_eq (by rw [Nat.zero_add, List.nil_append])
theorem V.old (H : V w0 w (VX c g • F)) : ∃ v es, es.map eF.says = g ∧ V w0 w (dW c (.cells #[v] 80 (0, 0)) • Row 189 3 v es.length (es.flatMap eF.enc) • lU es • F) := by
  obtain ⟨⟨v, es⟩, H⟩ := H.nN
  obtain ⟨h, H⟩ := H.flat.fact
  exact ⟨v, es, h, H.of_eq (by simp only [dD])⟩
theorem V.ZC (h : es.map eF.says = g) (H : V w0 w (dW c (.cells #[v] 80 (0, 0)) • Row 189 3 v es.length (es.flatMap eF.enc) • lU es • F)) : V w0 w (VX c g • F) :=
  V.jv (v, es) (V.deep (V.lJ h (H.of_eq (by simp only [dD]))))
theorem V.aa9 (hg : g = []) (H : V w0 w (dW c (.cells #[.slice none 0 0] 80 (0, 0)) • F)) : V w0 w (VX c g • F) :=
  V.ZC (v := .slice none 0 0) (es := []) hg.symm ((H.tY none).of_eq (by unfold LX; ac_rfl))
theorem V.JE (hm : m = es.length) (H : V w0 w (Row 189 3 v (Ar.length + m) (Ar.flatMap eF.enc ++ es.flatMap eF.enc) • lU Ar • lU es • F)) : V w0 w (Row 189 3 v (Ar ++ es).length ((Ar ++ es).flatMap eF.enc) • lU (Ar ++ es) • F) := by
  subst hm
  have h1 : V w0 w (lU Ar • lU es • Row 189 3 v (Ar.length + es.length) (Ar.flatMap eF.enc ++ es.flatMap eF.enc) • F) := H.of_eq (by ac_rfl)
  have h2 : V w0 w (lU (Ar ++ es) • Row 189 3 v (Ar.length + es.length) (Ar.flatMap eF.enc ++ es.flatMap eF.enc) • F) := h1.FV (rJ (fun I h g => h.app g) _)
  exact h2.swap.of_eq (by rw [List.length_append, List.flatMap_append])
def ZE (s : bC) (on : Bool) (Ar : List eF) (G1 : List (List jl)) : Prop := gG G1 [] + Ar.length = gG s.here [] ∧ (∀ e ∈ Ar, zq e.says) ∧ s.jf on = G1 ++ [Ar.map eF.says ++ s.put]
theorem Xt (hp : s.put ≠ []) (hn : on = false) : ZE s on [] s.here := by
  subst hn
  refine ⟨by simp, by simp, ?_⟩
  unfold bC.jf
  rw [if_neg hp, if_neg (by decide)]
  rfl
theorem Gz : ∀ {G : List (List jl)}, G ≠ [] → (G.dropLast.map List.length).sum + (G.getLastD []).length = (G.map List.length).sum := by
  intro G hG
  have h := List.dropLast_concat_getLast hG
  have h2 : G.getLastD [] = G.getLast hG := by rw [List.getLastD_eq_getLast?, List.getLast?_eq_some_getLast hG]; rfl
  rw [h2]
  conv => rhs; rw [← h]
  simp
theorem Rx (hp : s.put ≠ []) (hn : on = true) (hO : ∀ g ∈ s.here, ∀ e ∈ g, zq e) (h : Ar.map eF.says = s.here.getLastD []) : ZE s on Ar s.here.dropLast := by
  subst hn
  have hlen : Ar.length = (s.here.getLastD []).length := by rw [← h]; simp
  have hm : ∀ e ∈ Ar, e.says ∈ s.here.getLastD [] := fun e he => by rw [← h]; exact List.mem_map.2 ⟨e, he, rfl⟩
  unfold ZE bC.jf
  rw [if_neg hp, if_pos rfl]
  by_cases h0 : s.here = []
  · rw [h0] at h hlen hm
    have : Ar = [] := List.eq_nil_of_length_eq_zero (by simpa using hlen)
    subst this
    rw [h0]
    exact ⟨by simp, by simp, rfl⟩
  · have h2 : s.here.getLastD [] = s.here.getLast h0 := by rw [List.getLastD_eq_getLast?, List.getLast?_eq_some_getLast h0]; rfl
    refine ⟨?_, fun e he => hO _ (List.getLast_mem h0) _ (h2 ▸ hm e he), ?_⟩
    · have := Gz h0
      show (s.here.dropLast.map List.length).sum + 0 + Ar.length = (s.here.map List.length).sum + 0
      rw [hlen]; omega
    · rw [List.getLast?_eq_some_getLast h0, h, h2]
theorem Le (G : List (List jl)) : Fp G [] = G.reverse := by unfold Fp og; rw [if_pos rfl]
theorem Uz (G : List (List jl)) : (Fp G []).getD 0 [] = G.getLastD [] := by
  rw [Le, List.getD_eq_getElem?_getD, List.getLastD_eq_getLast?]
  congr 1
  cases G.eq_nil_or_concat with
  | inl h => subst h; rfl
  | inr h => obtain ⟨L, b, rfl⟩ := h; simp
theorem ZF {G : List (List jl)} (h : UOk G [] 0) : (∀ g ∈ Fp G [], ∀ e ∈ g, EB e) ∧ ∀ g ∈ Fp G [], g.length ≤ 16384 := by
  rw [Le]
  refine ⟨fun g hg => h.2.2.2.2.1 g (List.mem_reverse.1 hg), fun g hg => ?_⟩
  have h1 := JB (List.mem_reverse.1 hg)
  have h2 := h.2.1
  unfold gG at h2
  simp at h2; omega
theorem PD (G : List (List jl)) (N : List jl) : acC G N (0 + 1) = og G N ∧ acD N (0 + 1) = [] ∧ aaQ (0 + 1) = 0 := ⟨if_pos rfl, if_pos rfl, by unfold aaQ; rw [if_neg (by decide)]; rfl⟩
theorem Oa (G : List (List jl)) : Vu G [] = G.dropLast ∧ Vw G [] = [] ∧ Vx G [] 0 = 0 := by
  unfold Vu Vw Vx og
  by_cases h : G.length + ([] : List jl).length = 0
  · have : G = [] := List.eq_nil_of_length_eq_zero (by simpa using h)
    subst this
    simp
  · rw [if_neg h, if_neg h, if_neg h, if_pos rfl]; simp
theorem BM {s : bC} (h : s.put = []) : s.fM on = s := by unfold bC.fM; rw [if_pos h]
theorem nJ {s : bC} (h : s.put ≠ []) : s.fM on = { s.mJ (s.jf on) with put := [] } := by unfold bC.fM; rw [if_neg h]
theorem GH (G : List (List jl)) (g : List jl) : gG (G ++ [g]) [] = gG G [] + g.length := by unfold gG; simp
theorem Lh (h : lI s) {G1 : List (List jl)} (hF : ZE s on Ar G1) (hp : s.put ≠ []) (hG : ∀ g ∈ G1, ∀ e ∈ g, zq e) : lI (s.fM on) := by
  rw [nJ hp]
  obtain ⟨h1, h2, h3, h4, h5, h6⟩ := h
  obtain ⟨f1, f2, f3⟩ := hF
  refine ⟨h1, h2, h3, by simp, ?_, ?_⟩
  · show gG (vS s.c.un s.c.place (s.jf on) s.c.place) [] ≤ 16384
    rw [iE, f3, GH]
    have := oU s.here s.put
    simp; omega
  · intro k g hg e he
    have hg' : g ∈ vS s.c.un s.c.place (s.jf on) k := hg
    by_cases hk : k = s.c.place
    · subst hk
      rw [iE, f3] at hg'
      rcases List.mem_append.1 hg' with hg' | hg'
      · exact hG g hg' e he
      · rw [List.mem_singleton.1 hg'] at he
        rcases List.mem_append.1 he with he | he
        · obtain ⟨q, hq, rfl⟩ := List.mem_map.1 he; exact f2 q hq
        · exact h4 e he
    · rw [tC _ _ hk] at hg'; exact h6 k g hg' e he
theorem Iy {es : List eF} {k : Nat} (hk : k < es.length) : (es.take (k + 1)).map eF.says = (es.take k).map eF.says ++ [(es.getD k default).says] := by
  rw [List.take_succ_eq_append_getElem hk, List.map_append, List.getD_eq_getElem?_getD, List.getElem?_eq_getElem hk]; rfl
theorem sF (H : V w0 w (fF e s • F)) : iI prog 84 #[.pointer (some ⟨e, 0, none⟩), .bool on] w fun _ w' => V w0 w' (fF e (s.fM on) • F) := by
  refine oN func84 ntmps84 ?_
  refine aO (aO ?_)
  obtain ⟨yG, yH, yI, yJ, yK, yL, yM, yN, wu, uK, uM, uN, uO, uP, uQ, uS, uT, uU, uV, uX, iD, dG, kW, iO⟩ := (H).Ii
  have hput : gG s.here s.put ≤ 16384 := iD.2.2.2.2.1
  have hsp := oU s.here s.put
  have hO : ∀ g ∈ s.here, ∀ x ∈ g, zq x := iD.2.2.2.2.2 s.c.place
  have hPO : ∀ x ∈ wu, zq x.says := fun x hx => iD.2.2.2.1 _ (by rw [← dG]; exact List.mem_map.2 ⟨x, hx, rfl⟩)
  have ahc := (iO.f10).Du
  refine aC (nK O O (bJ 33 ah O bM O (fV aV O (iO).get.2 O (Z (kH ((iO.f9).aQ) aV O) (Z (dX O O) (jL O (fun h1 => ?_) (fun h1 => ?_)))))))
  · (try simp only [aA] at h1)
    refine nO (aB (we0 results84 ?_))
    rw [BM (List.eq_nil_of_length_eq_zero (by omega))]
    exact V.iF iD dG iO.f11.f11.f11.f11.f11.f11.f11.f11.f11.f11.f11
  · (try simp only [aA] at h1)
    have hp : s.put ≠ [] := by rintro hz; rw [hz] at h1; simp at h1
    refine gQ (bT O (dS O func134 (DJ iO.f6.f5.f3) ?_))
    rintro _ w2 ⟨lp2, rfl, H2⟩
    refine fP O (iV (jV (iy (l := [_]) H2 ny O) ?_))
    rintro _ w3 ⟨b3, rfl, H3⟩
    refine qR (aO ?_)
    obtain ⟨R4, hR4, HR4⟩ := V.adL (H3.f2.f2)
    refine aC (bP O (jL O (fun h2 => ?_) (fun h2 => ?_)))
    · (try simp only [aA] at h2)
      have hn : on = true := h2
      refine aO (bT O (dS O func135 (Jq HR4.f2) ?_))
      rintro _ w5 ⟨bG5, rfl, H5⟩
      refine iL (aY ?_)
      obtain ⟨_, _, _, _, k1, _⟩ := (H5.f2).zh
      obtain ⟨hB, hL⟩ := ZF k1
      have HF0 := V.lJ (q := (0 : Nat) = 0) rfl H5
      obtain ⟨R6, hR6, HR6⟩ := V.JJ (HF0.f4.f2.f3)
      refine BA O (QT bG5 hB hL) (fun j => fact (j = 0) • dW b3 (.cells #[.slice none 0 0] 80 (0, 0)) • R6) (fact False) (fun id => if id = 0 then VX b3 (s.here.getLastD []) • R6 else fact False) (HR6.f3.f3.f3.f3.f3.f3.comm) (by rfl) ?_ ?_ ?_ ?_
      · rintro l7 j acA vs7 A7 ⟨u1, fs1, aeF, rfl, rfl⟩ G7 w7 H7
        try simp only [dD, pz, yw] at H7
        refine ⟨O, ?_⟩
        dsimp only [TV]
        have HQ := (H7).edL
        obtain rfl : j = 0 := (HQ.f3).fact.1
        have hon := (HQ.f2).Du
        have hlen1 : fs1.length ≤ 16384 := by
          have h9 := hL _ (yU (d := []) acA)
          rw [← aeF] at h9
          simpa using h9
        refine aC (iJ O (bY ?_))
        refine TU (HQ.g5) ?_
        intro G8 w8 H8
        try simp only [dD] at H8
        refine aY (bT O (dS O func122 (CP H8 (fun W HW => (HW).aQ) hon (by omega)) ?_))
        rintro u9 w9 H9
        refine aI (fU 0 (l' := [_]) H9.f5 bM O O (by first | rfl | exact Rd.one ((H9).aQ)) O O) ?_
        rintro _ w10 pW
        refine iL (dO ?_)
        refine EF (by decide) ?_
        refine YG ?_
        rw [if_pos rfl]
        exact (V.ZC (aeF.trans (Uz _)) pW.f3.right.f4.right.f3.f3.f3).deep
      · rintro D11 FX sW
        have Yq := sW.ed
        try simp only [dD, pz, yw] at Yq
        have aeG := Yq.Va
        have hz := (aeG.f3).fact.1
        rw [Le, List.length_reverse] at hz
        have hg0 : s.here.getLastD [] = [] := by show (s.c.un s.c.place).getLastD [] = []; rw [List.eq_nil_of_length_eq_zero hz]; rfl
        have Ph := aeG.f4
        have Pj := V.aa9 hg0 Ph
        have abb := Pj.f4.right
        subst hR6
        subst hR4
        refine aK (aW (aC (bP O (dS O func136 (EK abb.f4) ?_))))
        rintro _ Qu ⟨u15, ahG, rfl, ahd, zI⟩
        have af9 := zI.right
        have TT := af9.right
        have ZA := TT.f4.right
        obtain ⟨h9a, h9b, h9c⟩ := Oa (s.c.un s.c.place)
        have HX := ZA
        rw [h9a, h9b, h9c] at HX
        obtain ⟨ov, Ar, ac8, HO⟩ := (HX.f2).old
        have hF := Rx hp hn hO ac8
        have hG1 : ∀ g ∈ s.here.dropLast, ∀ x ∈ g, zq x := fun g hg => hO g (List.dropLast_subset _ hg)
        obtain ⟨G1, ac9⟩ : ∃ q, q = (s.c.un s.c.place).dropLast := ⟨_, rfl⟩
        rw [show s.here.dropLast = (s.c.un s.c.place).dropLast from rfl] at hF hG1
        have Xu := HO
        rw [← ac9] at hF hG1 Xu
        refine qR ?_
        obtain ⟨hF1, hF2, hF3⟩ := hF
        have hl1 : Ar.length ≤ 16384 := by omega
        have hl2 : s.put.length ≤ 16384 := by omega
        refine aC (bP O (dS O func137 (zi Xu.f4 (by omega)) ?_))
        rintro _ w19 ⟨rfl, Dl⟩
        refine qR (aO ?_)
        have N9 := Dl.drew
        have um := V.kp (N9.f16.f16.f16.f16.f16.f16.f16.f16.f16.f16.f16.f16.f16.f16.f16.f16)
        refine y9 [0, 4] um O (jQ 0 O um (fun W hW => kF aV O ((Kp.h hW).f2).get.2 O) (iU 1 O um O (jY 2 O um O (iq 3 O um 33 ah O bM O (jQ 4 O um (fun W hW => kF aV O ((Kp.h hW).f7).get.2 O) (iU 7 O um O (nD 5 O (iw N9.f3 aV Ak O O O ((N9.f14).aQ) (by assumption) (by omega) (by omega)) ?_)))))))
        rintro l20 w20 Di
        have zU := V.kp (Di.f16.f16.f16.f16.f16.f16.f16.f16.f16.f16.f16.f16.f16.f16.f16.f16)
        refine gU zU (by kernel_rfl) ?_
        have ada := Di.f15.f5.f3
        have adb := V.JE kW.symm ada
        obtain ⟨AE, VY⟩ : ∃ q, q = Ar ++ wu := ⟨_, rfl⟩
        have HA := adb
        rw [← VY] at HA
        have hAl : AE.length = Ar.length + s.put.length := by rw [VY, List.length_append, kW]
        have hAs : AE.map eF.says = Ar.map eF.says ++ s.put := by rw [VY, List.map_append, dG]
        have hAO : ∀ x ∈ AE, zq x.says := fun x hx => by
          rw [VY] at hx
          rcases List.mem_append.1 hx with hx | hx
          · exact hF2 x hx
          · exact hPO x hx
        refine jB 6 O zU (fun _ => kH ((HA).aQ) aV O) (ru (aW (aY ?_)))
        obtain ⟨R23, aga, agb⟩ := V.JJ (HA.f2.f2.f3)
        refine gV [(0, _), (4, _), (32, _), (33, _)] (fun (i : Nat) => [(34, .int .i64 (i : Int))]) (fun (i : Nat) W => i ≤ AE.length ∧ V w0 W (jm lp2 G1 ((AE.take i).map eF.says) (0 + 1) • Row 189 3 l20 AE.length (AE.flatMap eF.enc) • lU AE • R23)) (fun (i : Nat) => AE.length - i) (0) OB mG ⟨by omega, agb⟩ ?_
        rintro i w24 ⟨hi, HL⟩
        dsimp only [List.cons_append, List.nil_append]
        refine iV (Z (gB O O) (qR (bH O (fun h3 => ?_) (fun h3 => ?_))))
        · (try simp only [aA] at h3)
          refine gQ (aO (aY (iV ?_)))
          obtain ⟨ahH, ahI, ahJ, agc⟩ := Rd.rG ((HL.f2).aQ) (by omega)
          cases agc
          refine Z (dP aV cO O O (by omega)) (Z (uy (ys := [_, _, _]) ((HL.f2).aQ) (by omega) bf O cO O (wO eF.Gl (by omega) default) O) ?_)
          have hkl : i < AE.length := by omega
          have hx : zq (AE.getD i default).says := hAO _ (by rw [List.getD_eq_getElem?_getD, List.getElem?_eq_getElem hkl]; exact List.getElem_mem hkl)
          have hx1 : (AE.getD i default).dl.length ≤ 1024 := hx.2.2.1
          have hx2 : (AE.getD i default).il.length ≤ 1024 := hx.2.2.2
          refine jV (iy (l := [_, _, _]) HL dQ O) ?_
          rintro _ w25 ⟨b25, rfl, TJ⟩
          refine aI (dw 0 (l' := [_, _, _]) (us := [_, _, _]) TJ cO O O O (aG (aX (by first | rfl | exact Rd.one (((TJ.f4).qV hkl).1)) (aX (by first | rfl | exact Rd.one (((TJ.f4).qV hkl).2)) bQ))) O O) ?_
          rintro _ w26 Vo
          refine iL (aC (bP O (Z (dM bf O cO O O (Vo).get.2) (dS O func138 (Bz Vo.f2 (fun W HW => ((HW.f3).qV hkl).1) (fun W HW => ((HW.f3).qV hkl).2) (by omega) (by omega)) ?_))))
          rintro _ w27 ⟨rfl, IW⟩
          have hadd : xP G1 ((AE.take i).map eF.says) (AE.getD i default).a (AE.getD i default).dl (AE.getD i default).il = 0 := by
            have hx3 : 0 < (AE.getD i default).dl.length + (AE.getD i default).il.length := hx.2.1
            have hx4 : 0 ≤ (AE.getD i default).a := hx.1
            have hx5 := oU G1 ((AE.take i).map eF.says)
            rw [List.length_map, List.length_take] at hx5
            unfold xP
            rw [if_neg (by omega), if_neg (by omega)]
          have HA2 := IW
          rw [Jy hadd (by decide), Jz hadd (by decide)] at HA2
          refine bY (aK (aW (aC (Z (fO O O (by omega)) (bP O (bY ?_))))))
          refine dU (i + 1) ?_ ?_ ?_ ?_
          · exact mG
          · exact OB
          · (try dsimp only)
            first | done | exact ⟨by omega, by rw [Iy hkl]; exact HA2.f2.right.f3.f3.f3⟩
          · (try dsimp only); omega
        · (try simp only [aA] at h3)
          refine dO (aN ?_)
          have hil : i = AE.length := by omega
          have HB := HL
          rw [hil, List.take_length] at HB
          subst aga
          refine aN (bn (aW (bT O (dS O func139 (BD HB) ?_))))
          rintro _ w28 ⟨rfl, H28⟩
          obtain ⟨h8a, h8b, h8c⟩ := PD G1 (AE.map eF.says)
          have HC := H28
          rw [h8a, h8b, h8c, hAs, uD (by intro hz; exact hp (List.append_eq_nil_iff.1 hz).2), ← hF3] at HC
          have acM := HC.f6
          have acN := V.AY acM
          refine iL (aC (nK O O (bJ 33 ah O bM O (aI (eU 33 acN.f6 bM) ?_))))
          rintro _ w31 SV
          refine bY ?_
          refine Jv (.inr O) (SV.f6) (fun w32 NH => ?_)
          refine ⟨_, acj results84, ?_⟩
          rw [nJ hp]
          exact V.KL (s := { s.mJ (s.jf on) with put := [] }) (nJ hp ▸ Lh iD ⟨hF1, hF2, hF3⟩ hp hG1) O NH.f3.right.f3.right.f3.right.f9.right.f9.f9.f9.f5.f9.f7.f9.f9.f9
      · rintro D w H; exact absurd H.swap.fact.1 id
      · rintro id D33 w33 WI
        refine Decidable.byCases (fun hid : id = 0 => ?_) (fun hid => by rw [if_neg hid] at WI; exact absurd WI.swap.fact.1 fun h => h)
        subst hid
        rw [if_pos rfl] at WI
        have aeH := WI.ed
        try simp only [dD, pz, yw] at aeH
        have agd := aeH.Va
        subst hR6
        subst hR4
        refine bn (aW (aC (bP O (dS O func136 (EK agd.f4) ?_))))
        rintro _ w34 ⟨u34, ahK, rfl, ahe, Y9⟩
        have age := Y9.right
        have agf := age.right
        have ade := agf.f3.right
        obtain ⟨h9a, h9b, h9c⟩ := Oa (s.c.un s.c.place)
        have HX := ade
        rw [h9a, h9b, h9c] at HX
        obtain ⟨ov, Ar, ac8, HO⟩ := (HX.f3).old
        have hF := Rx hp hn hO ac8
        have hG1 : ∀ g ∈ s.here.dropLast, ∀ x ∈ g, zq x := fun g hg => hO g (List.dropLast_subset _ hg)
        obtain ⟨G1, ac9⟩ : ∃ q, q = (s.c.un s.c.place).dropLast := ⟨_, rfl⟩
        rw [show s.here.dropLast = (s.c.un s.c.place).dropLast from rfl] at hF hG1
        have Xu := HO
        rw [← ac9] at hF hG1 Xu
        refine qR ?_
        obtain ⟨hF1, hF2, hF3⟩ := hF
        have hl1 : Ar.length ≤ 16384 := by omega
        have hl2 : s.put.length ≤ 16384 := by omega
        refine aC (bP O (dS O func137 (zi Xu.f4 (by omega)) ?_))
        rintro _ w38 ⟨rfl, Um⟩
        refine qR (aO ?_)
        have ZG := Um.drew
        have FN := V.kp (ZG.f16.f16.f16.f16.f16.f16.f16.f16.f16.f16.f16.f16.f16.f16.f16.f16)
        refine y9 [0, 4] FN O (jQ 0 O FN (fun W hW => kF aV O ((Kp.h hW).f2).get.2 O) (iU 1 O FN O (jY 2 O FN O (iq 3 O FN 33 ah O bM O (jQ 4 O FN (fun W hW => kF aV O ((Kp.h hW).f7).get.2 O) (iU 7 O FN O (nD 5 O (iw ZG.f3 aV Ak O O O ((ZG.f14).aQ) (by assumption) (by omega) (by omega)) ?_)))))))
        rintro l39 w39 H39
        have Ry := V.kp (H39.f16.f16.f16.f16.f16.f16.f16.f16.f16.f16.f16.f16.f16.f16.f16.f16)
        refine gU Ry (by kernel_rfl) ?_
        have agh := H39.f15.f5.f3
        have agi := V.JE kW.symm agh
        obtain ⟨AE, VY⟩ : ∃ q, q = Ar ++ wu := ⟨_, rfl⟩
        have HA := agi
        rw [← VY] at HA
        have hAl : AE.length = Ar.length + s.put.length := by rw [VY, List.length_append, kW]
        have hAs : AE.map eF.says = Ar.map eF.says ++ s.put := by rw [VY, List.map_append, dG]
        have hAO : ∀ x ∈ AE, zq x.says := fun x hx => by
          rw [VY] at hx
          rcases List.mem_append.1 hx with hx | hx
          · exact hF2 x hx
          · exact hPO x hx
        refine jB 6 O Ry (fun _ => kH ((HA).aQ) aV O) (ru (aW (aY ?_)))
        obtain ⟨R42, agj, agk⟩ := V.JJ (HA.f2.f2.f3)
        refine gV [(0, _), (4, _), (32, _), (33, _)] (fun (i : Nat) => [(34, .int .i64 (i : Int))]) (fun (i : Nat) W => i ≤ AE.length ∧ V w0 W (jm lp2 G1 ((AE.take i).map eF.says) (0 + 1) • Row 189 3 l39 AE.length (AE.flatMap eF.enc) • lU AE • R42)) (fun (i : Nat) => AE.length - i) (0) OB mG ⟨by omega, agk⟩ ?_
        rintro i w43 ⟨hi, HL⟩
        dsimp only [List.cons_append, List.nil_append]
        refine iV (Z (gB O O) (qR (bH O (fun h4 => ?_) (fun h4 => ?_))))
        · (try simp only [aA] at h4)
          refine gQ (aO (aY (iV ?_)))
          obtain ⟨ahL, ahM, ahN, agl⟩ := Rd.rG ((HL.f2).aQ) (by omega)
          cases agl
          refine Z (dP aV cO O O (by omega)) (Z (uy (ys := [_, _, _]) ((HL.f2).aQ) (by omega) bf O cO O (wO eF.Gl (by omega) default) O) ?_)
          have hkl : i < AE.length := by omega
          have hx : zq (AE.getD i default).says := hAO _ (by rw [List.getD_eq_getElem?_getD, List.getElem?_eq_getElem hkl]; exact List.getElem_mem hkl)
          have hx1 : (AE.getD i default).dl.length ≤ 1024 := hx.2.2.1
          have hx2 : (AE.getD i default).il.length ≤ 1024 := hx.2.2.2
          refine jV (iy (l := [_, _, _]) HL dQ O) ?_
          rintro _ w44 ⟨b44, rfl, H44⟩
          refine aI (dw 0 (l' := [_, _, _]) (us := [_, _, _]) H44 cO O O O (aG (aX (by first | rfl | exact Rd.one (((H44.f4).qV hkl).1)) (aX (by first | rfl | exact Rd.one (((H44.f4).qV hkl).2)) bQ))) O O) ?_
          rintro _ w45 SX
          refine iL (aC (bP O (Z (dM bf O cO O O (SX).get.2) (dS O func138 (Bz SX.f2 (fun W HW => ((HW.f3).qV hkl).1) (fun W HW => ((HW.f3).qV hkl).2) (by omega) (by omega)) ?_))))
          rintro _ w46 ⟨rfl, H46⟩
          have hadd : xP G1 ((AE.take i).map eF.says) (AE.getD i default).a (AE.getD i default).dl (AE.getD i default).il = 0 := by
            have hx3 : 0 < (AE.getD i default).dl.length + (AE.getD i default).il.length := hx.2.1
            have hx4 : 0 ≤ (AE.getD i default).a := hx.1
            have hx5 := oU G1 ((AE.take i).map eF.says)
            rw [List.length_map, List.length_take] at hx5
            unfold xP
            rw [if_neg (by omega), if_neg (by omega)]
          have HA2 := H46
          rw [Jy hadd (by decide), Jz hadd (by decide)] at HA2
          refine bY (aK (aW (aC (Z (fO O O (by omega)) (bP O (bY ?_))))))
          refine dU (i + 1) ?_ ?_ ?_ ?_
          · exact mG
          · exact OB
          · (try dsimp only)
            first | done | exact ⟨by omega, by rw [Iy hkl]; exact HA2.f2.right.f3.f3.f3⟩
          · (try dsimp only); omega
        · (try simp only [aA] at h4)
          refine dO (aN ?_)
          have hil : i = AE.length := by omega
          have HB := HL
          rw [hil, List.take_length] at HB
          subst agj
          refine aN (bn (aW (bT O (dS O func139 (BD HB) ?_))))
          rintro _ w47 ⟨rfl, H47⟩
          obtain ⟨h8a, h8b, h8c⟩ := PD G1 (AE.map eF.says)
          have HC := H47
          rw [h8a, h8b, h8c, hAs, uD (by intro hz; exact hp (List.append_eq_nil_iff.1 hz).2), ← hF3] at HC
          have agm := HC.f6
          have agn := V.AY agm
          refine iL (aC (nK O O (bJ 33 ah O bM O (aI (eU 33 agn.f6 bM) ?_))))
          rintro _ w50 H50
          refine bY ?_
          refine Jv (.inr O) (H50.f6) (fun w51 H51 => ?_)
          refine ⟨_, acj results84, ?_⟩
          rw [nJ hp]
          exact V.KL (s := { s.mJ (s.jf on) with put := [] }) (nJ hp ▸ Lh iD ⟨hF1, hF2, hF3⟩ hp hG1) O H51.f3.right.f3.right.f3.right.f9.right.f9.f9.f9.f5.f9.f7.f9.f9.f9
    · (try simp only [aA] at h2)
      have hn : on = false := h2
      obtain ⟨ov, Ar, G1, hF, hG1, HF⟩ : ∃ ov Ar G1, ZE s on Ar G1 ∧ (∀ g ∈ G1, ∀ x ∈ g, zq x) ∧ V w0 w3 (dW b3 (.cells #[ov] 80 (0, 0)) • Row 189 3 ov Ar.length (Ar.flatMap eF.enc) • lU Ar • jm lp2 G1 [] 0 • R4) :=
        ⟨.slice none 0 0, [], s.here, Xt hp hn, hO, (V.tY HR4.f2.f2 none).of_eq (by unfold LX; ac_rfl)⟩
      subst hR4
      refine gQ (aO ?_)
      obtain ⟨hF1, hF2, hF3⟩ := hF
      have hl1 : Ar.length ≤ 16384 := by omega
      have hl2 : s.put.length ≤ 16384 := by omega
      refine aC (bP O (dS O func137 (zi HF.f4 (by omega)) ?_))
      rintro _ w52 ⟨rfl, H52⟩
      refine qR (aO ?_)
      have ZH := H52.drew
      have FP := V.kp (ZH.f15.f15.f15.f15.f15.f15.f15.f15.f15.f15.f15.f15.f15.f15.f15)
      refine y9 [0, 4] FP O (jQ 0 O FP (fun W hW => kF aV O ((Kp.h hW).f2).get.2 O) (iU 1 O FP O (jY 2 O FP O (iq 3 O FP 33 ah O bM O (jQ 4 O FP (fun W hW => kF aV O ((Kp.h hW).f6).get.2 O) (iU 7 O FP O (nD 5 O (iw ZH.f3 aV Ak O O O ((ZH.f13).aQ) (by assumption) (by omega) (by omega)) ?_)))))))
      rintro l53 w53 H53
      have ab6 := V.kp (H53.f15.f15.f15.f15.f15.f15.f15.f15.f15.f15.f15.f15.f15.f15.f15)
      refine gU ab6 (by kernel_rfl) ?_
      have agp := H53.f14.f5.f3
      have agq := V.JE kW.symm agp
      obtain ⟨AE, VY⟩ : ∃ q, q = Ar ++ wu := ⟨_, rfl⟩
      have HA := agq
      rw [← VY] at HA
      have hAl : AE.length = Ar.length + s.put.length := by rw [VY, List.length_append, kW]
      have hAs : AE.map eF.says = Ar.map eF.says ++ s.put := by rw [VY, List.map_append, dG]
      have hAO : ∀ x ∈ AE, zq x.says := fun x hx => by
        rw [VY] at hx
        rcases List.mem_append.1 hx with hx | hx
        · exact hF2 x hx
        · exact hPO x hx
      refine jB 6 O ab6 (fun _ => kH ((HA).aQ) aV O) (ru (aW (aY ?_)))
      obtain ⟨R56, agr, ags⟩ := V.JJ (HA.f2.f2.f3)
      refine gV [(0, _), (4, _), (32, _), (33, _)] (fun (i : Nat) => [(34, .int .i64 (i : Int))]) (fun (i : Nat) W => i ≤ AE.length ∧ V w0 W (jm lp2 G1 ((AE.take i).map eF.says) (0 + 1) • Row 189 3 l53 AE.length (AE.flatMap eF.enc) • lU AE • R56)) (fun (i : Nat) => AE.length - i) (0) OB mG ⟨by omega, ags⟩ ?_
      rintro i w57 ⟨hi, HL⟩
      dsimp only [List.cons_append, List.nil_append]
      refine iV (Z (gB O O) (qR (bH O (fun h5 => ?_) (fun h5 => ?_))))
      · (try simp only [aA] at h5)
        refine gQ (aO (aY (iV ?_)))
        obtain ⟨ahO, ahP, ahQ, agt⟩ := Rd.rG ((HL.f2).aQ) (by omega)
        cases agt
        refine Z (dP aV cO O O (by omega)) (Z (uy (ys := [_, _, _]) ((HL.f2).aQ) (by omega) bf O cO O (wO eF.Gl (by omega) default) O) ?_)
        have hkl : i < AE.length := by omega
        have hx : zq (AE.getD i default).says := hAO _ (by rw [List.getD_eq_getElem?_getD, List.getElem?_eq_getElem hkl]; exact List.getElem_mem hkl)
        have hx1 : (AE.getD i default).dl.length ≤ 1024 := hx.2.2.1
        have hx2 : (AE.getD i default).il.length ≤ 1024 := hx.2.2.2
        refine jV (iy (l := [_, _, _]) HL dQ O) ?_
        rintro _ w58 ⟨b58, rfl, H58⟩
        refine aI (dw 0 (l' := [_, _, _]) (us := [_, _, _]) H58 cO O O O (aG (aX (by first | rfl | exact Rd.one (((H58.f4).qV hkl).1)) (aX (by first | rfl | exact Rd.one (((H58.f4).qV hkl).2)) bQ))) O O) ?_
        rintro _ w59 H59
        refine iL (aC (bP O (Z (dM bf O cO O O (H59).get.2) (dS O func138 (Bz H59.f2 (fun W HW => ((HW.f3).qV hkl).1) (fun W HW => ((HW.f3).qV hkl).2) (by omega) (by omega)) ?_))))
        rintro _ w60 ⟨rfl, H60⟩
        have hadd : xP G1 ((AE.take i).map eF.says) (AE.getD i default).a (AE.getD i default).dl (AE.getD i default).il = 0 := by
          have hx3 : 0 < (AE.getD i default).dl.length + (AE.getD i default).il.length := hx.2.1
          have hx4 : 0 ≤ (AE.getD i default).a := hx.1
          have hx5 := oU G1 ((AE.take i).map eF.says)
          rw [List.length_map, List.length_take] at hx5
          unfold xP
          rw [if_neg (by omega), if_neg (by omega)]
        have HA2 := H60
        rw [Jy hadd (by decide), Jz hadd (by decide)] at HA2
        refine bY (aK (aW (aC (Z (fO O O (by omega)) (bP O (bY ?_))))))
        refine dU (i + 1) ?_ ?_ ?_ ?_
        · exact mG
        · exact OB
        · (try dsimp only)
          first | done | exact ⟨by omega, by rw [Iy hkl]; exact HA2.f2.right.f3.f3.f3⟩
        · (try dsimp only); omega
      · (try simp only [aA] at h5)
        refine dO (aN ?_)
        have hil : i = AE.length := by omega
        have HB := HL
        rw [hil, List.take_length] at HB
        subst agr
        refine aN (bn (aW (bT O (dS O func139 (BD HB) ?_))))
        rintro _ w61 ⟨rfl, H61⟩
        obtain ⟨h8a, h8b, h8c⟩ := PD G1 (AE.map eF.says)
        have HC := H61
        rw [h8a, h8b, h8c, hAs, uD (by intro hz; exact hp (List.append_eq_nil_iff.1 hz).2), ← hF3] at HC
        have agu := HC.f5
        have agv := V.AY agu
        refine iL (aC (nK O O (bJ 33 ah O bM O (aI (eU 33 agv.f5 bM) ?_))))
        rintro _ w64 H64
        refine bY (lK (.inr O) results84 ?_)
        rw [nJ hp]
        exact V.KL (s := { s.mJ (s.jf on) with put := [] }) (nJ hp ▸ Lh iD ⟨hF1, hF2, hF3⟩ hp hG1) O H64.f3.right.f3.right.f3.right.f9.right.f9.f9.f9.f5.f9.f7.f9.f9.f9
end
end Go.Proofs.YtpdeedplgmbopaaGreatDoor
end
