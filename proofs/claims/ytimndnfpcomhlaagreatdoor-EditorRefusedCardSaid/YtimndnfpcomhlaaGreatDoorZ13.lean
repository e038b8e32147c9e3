import Derived.Test.YtimndnfpcomhlaaGreatDoorZ4
import Derived.Test.YtimndnfpcomhlaaGreatDoorZ12
set_option linter.unusedSimpArgs false
set_option linter.unusedVariables false
/- Texts of mine, joined, their names in short: EdF. -/
section
namespace Go.Proofs.YtimndnfpcomhlaaGreatDoor
open Go.RowKit
open _root_.Go.Proofs.Tryz
theorem X8 : (prog.info? 124).map (fun i => (i.zero, i.size, i.bytes)) = some (some (.agg #[.int .i64 0, .slice none 0 0, .slice none 0 0]), 3, 56) := by kernel_rfl
def Rx (c : Nat) (g : List gV) : HP := wR fun (x : Value × List fD) => fact (x.2.map fD.says = g) • dR c (.cells #[x.1] 67 (0, 0)) • Row 124 3 x.1 x.2.length (x.2.flatMap fD.enc) • nC x.2
section
variable {w0 w : World} {F : HP} {e p c n m : Nat} {s : aY} {i j x : Int} {on : Bool} {v : Value} {g : List gV} {yh es : List fD} {xs : List Value}
theorem FZ (H : V w0 w F) (hr : Bl w0 F 3 v n xs) (hon : ∀ u ∈ xs, u.oneCell' = true) (hb : n ≤ 1099511627776) :
    iU prog 74 #[v] w fun v' w' => V w0 w' (Row 124 3 v' n xs • F) := by
  obtain ⟨hlen, a, c, rfl, h2, h3, h4⟩ := hr w H
  refine ji func74 ntmps74 ?_
  refine lZ O (aO (bM O (aV (Aj aU O O) ?_)))
  refine kK O (fun h1 => ?_) (fun h1 => ?_)
  · (try simp only [aH] at h1)
    refine lF O (aK (fB results74 O ?_))
    obtain rfl : a = none := by simpa using h1
    obtain rfl : n = 0 := by
      rcases Nat.eq_zero_or_pos n with h | h
      · exact h
      · obtain ⟨b, o, e, _⟩ := h4 h; cases e
    obtain rfl : xs = [] := List.eq_nil_of_length_eq_zero (by omega)
    exact H.jH none
  · (try simp only [aH] at h1)
    refine iq (jg (jL (Ig H aU bG dB) ?_))
    rintro _ w1 H1
    refine cZ O (jL (iQ H1 aU X8 O O O (hr.under _ H1) hon (by omega) (by omega)) ?_)
    rintro _ w2 H2
    refine iW O (fB results74 O ?_)
    exact H2.of_eq (by rw [Nat.zero_add, List.nil_append])
theorem V.old (H : V w0 w (Rx c g • F)) : ∃ v es, es.map fD.says = g ∧ V w0 w (dR c (.cells #[v] 67 (0, 0)) • Row 124 3 v es.length (es.flatMap fD.enc) • nC es • F) := by
  obtain ⟨⟨v, es⟩, H⟩ := H.qP
  obtain ⟨h, H⟩ := H.flat.fact
  exact ⟨v, es, h, H.of_eq (by simp only [dI])⟩
theorem V.VU (h : es.map fD.says = g) (H : V w0 w (dR c (.cells #[v] 67 (0, 0)) • Row 124 3 v es.length (es.flatMap fD.enc) • nC es • F)) : V w0 w (Rx c g • F) :=
  V.jQ (v, es) (V.deep (V.nH h (H.of_eq (by simp only [dI]))))
theorem V.X9 (hg : g = []) (H : V w0 w (dR c (.cells #[.slice none 0 0] 67 (0, 0)) • F)) : V w0 w (Rx c g • F) :=
  V.VU (v := .slice none 0 0) (es := []) hg.symm ((H.uS none).of_eq (by unfold Jt; ac_rfl))
theorem V.LW (hm : m = es.length) (H : V w0 w (Row 124 3 v (yh.length + m) (yh.flatMap fD.enc ++ es.flatMap fD.enc) • nC yh • nC es • F)) : V w0 w (Row 124 3 v (yh ++ es).length ((yh ++ es).flatMap fD.enc) • nC (yh ++ es) • F) := by
  subst hm
  have h1 : V w0 w (nC yh • nC es • Row 124 3 v (yh.length + es.length) (yh.flatMap fD.enc ++ es.flatMap fD.enc) • F) := H.of_eq (by ac_rfl)
  have h2 : V w0 w (nC (yh ++ es) • Row 124 3 v (yh.length + es.length) (yh.flatMap fD.enc ++ es.flatMap fD.enc) • F) := h1.F7 (uX (fun I h g => h.app g) _)
  exact h2.swap.of_eq (by rw [List.length_append, List.flatMap_append])
def VW (s : aY) (on : Bool) (yh : List fD) (G1 : List (List gV)) : Prop := gI G1 [] + yh.length = gI s.here [] ∧ (∀ e ∈ yh, zA e.says) ∧ s.jw on = G1 ++ [yh.map fD.says ++ s.put]
theorem TK (hp : s.put ≠ []) (hn : on = false) : VW s on [] s.here := by
  subst hn
  refine ⟨by simp, by simp, ?_⟩
  unfold aY.jw
  rw [if_neg hp, if_neg (by decide)]
  rfl
theorem zC : ∀ {G : List (List gV)}, G ≠ [] → (G.dropLast.map List.length).sum + (G.getLastD []).length = (G.map List.length).sum := by
  intro G hG
  have h := List.dropLast_concat_getLast hG
  have h2 : G.getLastD [] = G.getLast hG := by rw [List.getLastD_eq_getLast?, List.getLast?_eq_some_getLast hG]; rfl
  rw [h2]
  conv => rhs; rw [← h]
  simp
theorem Oq (hp : s.put ≠ []) (hn : on = true) (hO : ∀ g ∈ s.here, ∀ e ∈ g, zA e) (h : yh.map fD.says = s.here.getLastD []) : VW s on yh s.here.dropLast := by
  subst hn
  have hlen : yh.length = (s.here.getLastD []).length := by rw [← h]; simp
  have hm : ∀ e ∈ yh, e.says ∈ s.here.getLastD [] := fun e he => by rw [← h]; exact List.mem_map.2 ⟨e, he, rfl⟩
  unfold VW aY.jw
  rw [if_neg hp, if_pos rfl]
  by_cases h0 : s.here = []
  · rw [h0] at h hlen hm
    have : yh = [] := List.eq_nil_of_length_eq_zero (by simpa using hlen)
    subst this
    rw [h0]
    exact ⟨by simp, by simp, rfl⟩
  · have h2 : s.here.getLastD [] = s.here.getLast h0 := by rw [List.getLastD_eq_getLast?, List.getLast?_eq_some_getLast h0]; rfl
    refine ⟨?_, fun e he => hO _ (List.getLast_mem h0) _ (h2 ▸ hm e he), ?_⟩
    · have := zC h0
      show (s.here.dropLast.map List.length).sum + 0 + yh.length = (s.here.map List.length).sum + 0
      rw [hlen]; omega
    · rw [List.getLast?_eq_some_getLast h0, h, h2]
theorem IC (G : List (List gV)) : Dj G [] = G.reverse := by unfold Dj mW; rw [if_pos rfl]
theorem Qp (G : List (List gV)) : (Dj G []).getD 0 [] = G.getLastD [] := by
  rw [IC, List.getD_eq_getElem?_getD, List.getLastD_eq_getLast?]
  congr 1
  cases G.eq_nil_or_concat with
  | inl h => subst h; rfl
  | inr h => obtain ⟨L, b, rfl⟩ := h; simp
theorem VX {G : List (List gV)} (h : XO G [] 0) : (∀ g ∈ Dj G [], ∀ e ∈ g, EB e) ∧ ∀ g ∈ Dj G [], g.length ≤ 16384 := by
  rw [IC]
  refine ⟨fun g hg => h.2.2.2.2.1 g (List.mem_reverse.1 hg), fun g hg => ?_⟩
  have h1 := LJ (List.mem_reverse.1 hg)
  have h2 := h.2.1
  unfold gI at h2
  simp at h2; omega
theorem LX (G : List (List gV)) (N : List gV) : Zt G N (0 + 1) = mW G N ∧ Zu N (0 + 1) = [] ∧ XP (0 + 1) = 0 := ⟨if_pos rfl, if_pos rfl, by unfold XP; rw [if_neg (by decide)]; rfl⟩
theorem EP (G : List (List gV)) : QX G [] = G.dropLast ∧ QY G [] = [] ∧ QZ G [] 0 = 0 := by
  unfold QX QY QZ mW
  by_cases h : G.length + ([] : List gV).length = 0
  · have : G = [] := List.eq_nil_of_length_eq_zero (by simpa using h)
    subst this
    simp
  · rw [if_neg h, if_neg h, if_neg h, if_pos rfl]; simp
theorem Qq {s : aY} (h : s.put = []) : s.cO on = s := by unfold aY.cO; rw [if_pos h]
theorem qB {s : aY} (h : s.put ≠ []) : s.cO on = { s.kT (s.jw on) with put := [] } := by unfold aY.cO; rw [if_neg h]
theorem VY (G : List (List gV)) (g : List gV) : gI (G ++ [g]) [] = gI G [] + g.length := by unfold gI; simp
theorem IE (h : oV s) {G1 : List (List gV)} (hF : VW s on yh G1) (hp : s.put ≠ []) (hG : ∀ g ∈ G1, ∀ e ∈ g, zA e) : oV (s.cO on) := by
  rw [qB hp]
  obtain ⟨h1, h2, h3, h4, h5, h6⟩ := h
  obtain ⟨f1, f2, f3⟩ := hF
  refine ⟨h1, h2, h3, by simp, ?_, ?_⟩
  · show gI (vF s.c.un s.c.place (s.jw on) s.c.place) [] ≤ 16384
    rw [gZ, f3, VY]
    have := uI s.here s.put
    simp; omega
  · intro k g hg e he
    have hg' : g ∈ vF s.c.un s.c.place (s.jw on) k := hg
    by_cases hk : k = s.c.place
    · subst hk
      rw [gZ, f3] at hg'
      rcases List.mem_append.1 hg' with hg' | hg'
      · exact hG g hg' e he
      · rw [List.mem_singleton.1 hg'] at he
        rcases List.mem_append.1 he with he | he
        · obtain ⟨q, hq, rfl⟩ := List.mem_map.1 he; exact f2 q hq
        · exact h4 e he
    · rw [vG _ _ hk] at hg'; exact h6 k g hg' e he
theorem BL {es : List fD} {k : Nat} (hk : k < es.length) : (es.take (k + 1)).map fD.says = (es.take k).map fD.says ++ [(es.getD k default).says] := by
  rw [List.take_succ_eq_append_getElem hk, List.map_append, List.getD_eq_getElem?_getD, List.getElem?_eq_getElem hk]; rfl
theorem nP (H : V w0 w (eH e s • F)) : iU prog 34 #[.pointer (some ⟨e, 0, none⟩), .bool on] w fun _ w' => V w0 w' (eH e (s.cO on) • F) := by
  refine oP func34 ntmps34 ?_
  refine aO (aO ?_)
  obtain ⟨qV, rC, rD, rZ, rE, rF, rG, rH, qA, oZ, o7, o8, o9, pq, pz, pF, pG, pI, pJ, pK, dV, bP, jh, dY⟩ := (H).Dy
  have hput : gI s.here s.put ≤ 16384 := dV.2.2.2.2.1
  have hsp := uI s.here s.put
  have hO : ∀ g ∈ s.here, ∀ x ∈ g, zA x := dV.2.2.2.2.2 s.c.place
  have hPO : ∀ x ∈ qA, zA x.says := fun x hx => dV.2.2.2.1 _ (by rw [← bP]; exact List.mem_map.2 ⟨x, hx, rfl⟩)
  have ada := (dY.f10).Ny
  refine aC (ny O O (bf 33 ah O bV O (dQ aU O (dY).get.2 O (aV (iE ((dY.f9).aP) aU O) (aV (ig O O) (kK O (fun h1 => ?_) (fun h1 => ?_)))))))
  · (try simp only [aH] at h1)
    refine rV (aK (we0 results34 ?_))
    rw [Qq (List.eq_nil_of_length_eq_zero (by omega))]
    exact V.eY dV bP dY.f11.f11.f11.f11.f11.f11.f11.f11.f11.f11.f11
  · (try simp only [aH] at h1)
    have hp : s.put ≠ [] := by rintro hz; rw [hz] at h1; simp at h1
    refine iq (bM O (dZ O func55 (xH dY.f6.f5.f3) ?_))
    rintro _ w2 ⟨lp2, rfl, H2⟩
    refine gY O (jg (jL (fE (l := [_]) H2 zeroValue67 O) ?_))
    rintro _ w3 ⟨b3, rfl, H3⟩
    refine qj (aO ?_)
    obtain ⟨R4, hR4, HR4⟩ := V.aas (H3.f2.f2)
    refine aC (cZ O (kK O (fun h2 => ?_) (fun h2 => ?_)))
    · (try simp only [aH] at h2)
      have hn : on = true := h2
      refine aO (bM O (dZ O func73 (FY HR4.f2) ?_))
      rintro _ w5 ⟨bG5, rfl, H5⟩
      refine iT (bn ?_)
      obtain ⟨_, _, _, _, k1, _⟩ := (H5.f2).wB
      obtain ⟨hB, hL⟩ := VX k1
      have HF0 := V.nH (q := (0 : Nat) = 0) rfl H5
      obtain ⟨R6, hR6, HR6⟩ := V.JD (HF0.f4.f2.f3)
      refine zk O (NY bG5 hB hL) (fun j => fact (j = 0) • dR b3 (.cells #[.slice none 0 0] 67 (0, 0)) • R6) (fact False) (fun id => if id = 0 then Rx b3 (s.here.getLastD []) • R6 else fact False) (HR6.f3.f3.f3.f3.f3.f3.comm) (by rfl) ?_ ?_ ?_ ?_
      · rintro l7 j Zo vs7 A7 ⟨u1, fs1, aa7, rfl, rfl⟩ G7 w7 H7
        try simp only [dI, oh, wF] at H7
        refine ⟨O, ?_⟩
        dsimp only [P7]
        have HQ := (H7).edL
        obtain rfl : j = 0 := (HQ.f3).fact.1
        have hon := (HQ.f2).Ny
        have hlen1 : fs1.length ≤ 16384 := by
          have h9 := hL _ (yK (d := []) Zo)
          rw [← aa7] at h9
          simpa using h9
        refine aC (lU O (bY ?_))
        refine P6 (HQ.g5) ?_
        intro G8 w8 H8
        try simp only [dI] at H8
        refine bn (bM O (dZ O func74 (FZ H8 (fun W HW => (HW).aP) hon (by omega)) ?_))
        rintro u9 w9 H9
        refine aI (fM 0 (l' := [_]) H9.f5 bV O O (by first | rfl | exact Rd.one ((H9).aP)) O O) ?_
        rintro _ w10 sV
        refine iT (iJ ?_)
        refine BX (by decide) ?_
        refine Vh ?_
        rw [if_pos rfl]
        exact (V.VU (aa7.trans (Qp _)) sV.f3.right.f4.right.f3.f3.f3).deep
      · rintro D11 I9 yt
        have UY := yt.ed
        try simp only [dI, oh, wF] at UY
        have aa8 := UY.QH
        have hz := (aa8.f3).fact.1
        rw [IC, List.length_reverse] at hz
        have hg0 : s.here.getLastD [] = [] := by show (s.c.un s.c.place).getLastD [] = []; rw [List.eq_nil_of_length_eq_zero hz]; rfl
        have Qi := aa8.f4
        have Qj := V.X9 hg0 Qi
        have acm := Qj.f4.right
        subst hR6
        subst hR4
        refine aN (bg (aC (cZ O (dZ O func65 (xY acm.f4) ?_))))
        rintro _ SX ⟨u15, adw, rfl, adb, BA⟩
        have acn := BA.right
        have Vf := acn.right
        have VQ := Vf.f4.right
        obtain ⟨h9a, h9b, h9c⟩ := EP (s.c.un s.c.place)
        have HX := VQ
        rw [h9a, h9b, h9c] at HX
        obtain ⟨ov, yh, ZR, HO⟩ := (HX.f2).old
        have hF := Oq hp hn hO ZR
        have hG1 : ∀ g ∈ s.here.dropLast, ∀ x ∈ g, zA x := fun g hg => hO g (List.dropLast_subset _ hg)
        obtain ⟨G1, ZT⟩ : ∃ q, q = (s.c.un s.c.place).dropLast := ⟨_, rfl⟩
        rw [show s.here.dropLast = (s.c.un s.c.place).dropLast from rfl] at hF hG1
        have HX2 := HO
        rw [← ZT] at hF hG1 HX2
        refine qj ?_
        obtain ⟨hF1, hF2, hF3⟩ := hF
        have hl1 : yh.length ≤ 16384 := by omega
        have hl2 : s.put.length ≤ 16384 := by omega
        refine aC (cZ O (dZ O func75 (xk HX2.f4 (by omega)) ?_))
        rintro _ Xf ⟨rfl, zO⟩
        refine qj (aO ?_)
        have Kq := zO.drew
        have su := V.kp (Kq.f16.f16.f16.f16.f16.f16.f16.f16.f16.f16.f16.f16.f16.f16.f16.f16)
        refine xP [0, 4] su O (jq 0 O su (fun W hW => jV aU O ((Kp.h hW).f2).get.2 O) (jc 1 O su O (kN 2 O su O (fV 3 O su 33 ah O bV O (jq 4 O su (fun W hW => jV aU O ((Kp.h hW).f7).get.2 O) (jc 7 O su O (mP 5 O (iQ Kq.f3 aU AB O O O ((Kq.f14).aP) (by assumption) (by omega) (by omega)) ?_)))))))
        rintro l20 XJ BD
        have Ec := V.kp (BD.f16.f16.f16.f16.f16.f16.f16.f16.f16.f16.f16.f16.f16.f16.f16.f16)
        refine iC Ec (by kernel_rfl) ?_
        have aco := BD.f15.f5.f3
        have acp := V.LW jh.symm aco
        obtain ⟨AE, Ry⟩ : ∃ q, q = yh ++ qA := ⟨_, rfl⟩
        have HA := acp
        rw [← Ry] at HA
        have hAl : AE.length = yh.length + s.put.length := by rw [Ry, List.length_append, jh]
        have hAs : AE.map fD.says = yh.map fD.says ++ s.put := by rw [Ry, List.map_append, bP]
        have hAO : ∀ x ∈ AE, zA x.says := fun x hx => by
          rw [Ry] at hx
          rcases List.mem_append.1 hx with hx | hx
          · exact hF2 x hx
          · exact hPO x hx
        refine jW 6 O Ec (fun _ => iE ((HA).aP) aU O) (qp (bg (bn ?_)))
        obtain ⟨R23, acq, acr⟩ := V.JD (HA.f2.f2.f3)
        refine iR [(0, _), (4, _), (32, _), (33, _)] (fun (i : Nat) => [(34, .int .i64 (i : Int))]) (fun (i : Nat) W => i ≤ AE.length ∧ V w0 W (iL lp2 G1 ((AE.take i).map fD.says) (0 + 1) • Row 124 3 l20 AE.length (AE.flatMap fD.enc) • nC AE • R23)) (fun (i : Nat) => AE.length - i) (0) SC sJ ⟨by omega, acr⟩ ?_
        rintro i w24 ⟨hi, HL⟩
        dsimp only [List.cons_append, List.nil_append]
        refine jg (aV (fJ O O) (qj (bI O (fun h3 => ?_) (fun h3 => ?_))))
        · (try simp only [aH] at h3)
          refine iq (aO (bn (jg ?_)))
          obtain ⟨adx, ady, adz, acs⟩ := Rd.vS ((HL.f2).aP) (by omega)
          cases acs
          refine aV (gU aU bG O O (by omega)) (aV (jC (ys := [_, _, _]) ((HL.f2).aP) (by omega) aS O bG O (kH fD.tY (by omega) default) O) ?_)
          have hkl : i < AE.length := by omega
          have hx : zA (AE.getD i default).says := hAO _ (by rw [List.getD_eq_getElem?_getD, List.getElem?_eq_getElem hkl]; exact List.getElem_mem hkl)
          have hx1 : (AE.getD i default).dl.length ≤ 1024 := hx.2.2.1
          have hx2 : (AE.getD i default).il.length ≤ 1024 := hx.2.2.2
          refine jL (fE (l := [_, _, _]) HL dB O) ?_
          rintro _ w25 ⟨b25, rfl, JX⟩
          refine aI (dh 0 (l' := [_, _, _]) (us := [_, _, _]) JX bG O O O (aF (aZ (by first | rfl | exact Rd.one (((JX.f4).mZ hkl).1)) (aZ (by first | rfl | exact Rd.one (((JX.f4).mZ hkl).2)) bK))) O O) ?_
          rintro _ w26 Nk
          refine iT (aC (cZ O (aV (dG aS O bG O O (Nk).get.2) (dZ O func76 (zi Nk.f2 (fun W HW => ((HW.f3).mZ hkl).1) (fun W HW => ((HW.f3).mZ hkl).2) (by omega) (by omega)) ?_))))
          rintro _ w27 ⟨rfl, Jh⟩
          have hadd : vU G1 ((AE.take i).map fD.says) (AE.getD i default).a (AE.getD i default).dl (AE.getD i default).il = 0 := by
            have hx3 : 0 < (AE.getD i default).dl.length + (AE.getD i default).il.length := hx.2.1
            have hx4 : 0 ≤ (AE.getD i default).a := hx.1
            have hx5 := uI G1 ((AE.take i).map fD.says)
            rw [List.length_map, List.length_take] at hx5
            unfold vU
            rw [if_neg (by omega), if_neg (by omega)]
          have HA2 := Jh
          rw [Gj hadd (by decide), Gl hadd (by decide)] at HA2
          refine bY (aN (bg (aC (aV (gX O O (by omega)) (cZ O (bY ?_))))))
          refine fG (i + 1) ?_ ?_ ?_ ?_
          · exact sJ
          · exact SC
          · (try dsimp only)
            first | done | exact ⟨by omega, by rw [BL hkl]; exact HA2.f2.right.f3.f3.f3⟩
          · (try dsimp only); omega
        · (try simp only [aH] at h3)
          refine iJ (aX ?_)
          have hil : i = AE.length := by omega
          have HB := HL
          rw [hil, List.take_length] at HB
          subst acq
          refine aX (dA (bg (bM O (dZ O func77 (zo HB) ?_))))
          rintro _ w28 ⟨rfl, U0⟩
          obtain ⟨h8a, h8b, h8c⟩ := LX G1 (AE.map fD.says)
          have HC := U0
          rw [h8a, h8b, h8c, hAs, sN (by intro hz; exact hp (List.append_eq_nil_iff.1 hz).2), ← hF3] at HC
          have ZH := HC.f6
          have ZI := V.wO ZH
          refine iT (aC (ny O O (bf 33 ah O bV O (aI (dN 33 ZI.f6 bV) ?_))))
          rintro _ w31 KZ
          refine bY ?_
          refine F8 (.inr O) (KZ.f6) (fun Zg Ja => ?_)
          refine ⟨_, Y3 results34, ?_⟩
          rw [qB hp]
          exact V.Iy (s := { s.kT (s.jw on) with put := [] }) (qB hp ▸ IE dV ⟨hF1, hF2, hF3⟩ hp hG1) O Ja.f3.right.f3.right.f3.right.f9.right.f9.f9.f9.f5.f9.f7.f9.f9.f9
      · rintro D w H; exact absurd H.swap.fact.1 id
      · rintro id D33 w33 SY
        refine Decidable.byCases (fun hid : id = 0 => ?_) (fun hid => by rw [if_neg hid] at SY; exact absurd SY.swap.fact.1 fun h => h)
        subst hid
        rw [if_pos rfl] at SY
        have aa9 := SY.ed
        try simp only [dI, oh, wF] at aa9
        have acu := aa9.QH
        subst hR6
        subst hR4
        refine dA (bg (aC (cZ O (dZ O func65 (xY acu.f4) ?_))))
        rintro _ w34 ⟨u34, adA, rfl, ade, VH⟩
        have acv := VH.right
        have acw := acv.right
        have ZU := acw.f3.right
        obtain ⟨h9a, h9b, h9c⟩ := EP (s.c.un s.c.place)
        have HX := ZU
        rw [h9a, h9b, h9c] at HX
        obtain ⟨ov, yh, ZR, HO⟩ := (HX.f3).old
        have hF := Oq hp hn hO ZR
        have hG1 : ∀ g ∈ s.here.dropLast, ∀ x ∈ g, zA x := fun g hg => hO g (List.dropLast_subset _ hg)
        obtain ⟨G1, ZT⟩ : ∃ q, q = (s.c.un s.c.place).dropLast := ⟨_, rfl⟩
        rw [show s.here.dropLast = (s.c.un s.c.place).dropLast from rfl] at hF hG1
        have HX2 := HO
        rw [← ZT] at hF hG1 HX2
        refine qj ?_
        obtain ⟨hF1, hF2, hF3⟩ := hF
        have hl1 : yh.length ≤ 16384 := by omega
        have hl2 : s.put.length ≤ 16384 := by omega
        refine aC (cZ O (dZ O func75 (xk HX2.f4 (by omega)) ?_))
        rintro _ w38 ⟨rfl, Qk⟩
        refine qj (aO ?_)
        have VZ := Qk.drew
        have Dp := V.kp (VZ.f16.f16.f16.f16.f16.f16.f16.f16.f16.f16.f16.f16.f16.f16.f16.f16)
        refine xP [0, 4] Dp O (jq 0 O Dp (fun W hW => jV aU O ((Kp.h hW).f2).get.2 O) (jc 1 O Dp O (kN 2 O Dp O (fV 3 O Dp 33 ah O bV O (jq 4 O Dp (fun W hW => jV aU O ((Kp.h hW).f7).get.2 O) (jc 7 O Dp O (mP 5 O (iQ VZ.f3 aU AB O O O ((VZ.f14).aP) (by assumption) (by omega) (by omega)) ?_)))))))
        rintro l39 w39 H39
        have Ot := V.kp (H39.f16.f16.f16.f16.f16.f16.f16.f16.f16.f16.f16.f16.f16.f16.f16.f16)
        refine iC Ot (by kernel_rfl) ?_
        have acx := H39.f15.f5.f3
        have acy := V.LW jh.symm acx
        obtain ⟨AE, Ry⟩ : ∃ q, q = yh ++ qA := ⟨_, rfl⟩
        have HA := acy
        rw [← Ry] at HA
        have hAl : AE.length = yh.length + s.put.length := by rw [Ry, List.length_append, jh]
        have hAs : AE.map fD.says = yh.map fD.says ++ s.put := by rw [Ry, List.map_append, bP]
        have hAO : ∀ x ∈ AE, zA x.says := fun x hx => by
          rw [Ry] at hx
          rcases List.mem_append.1 hx with hx | hx
          · exact hF2 x hx
          · exact hPO x hx
        refine jW 6 O Ot (fun _ => iE ((HA).aP) aU O) (qp (bg (bn ?_)))
        obtain ⟨R42, acz, acA⟩ := V.JD (HA.f2.f2.f3)
        refine iR [(0, _), (4, _), (32, _), (33, _)] (fun (i : Nat) => [(34, .int .i64 (i : Int))]) (fun (i : Nat) W => i ≤ AE.length ∧ V w0 W (iL lp2 G1 ((AE.take i).map fD.says) (0 + 1) • Row 124 3 l39 AE.length (AE.flatMap fD.enc) • nC AE • R42)) (fun (i : Nat) => AE.length - i) (0) SC sJ ⟨by omega, acA⟩ ?_
        rintro i w43 ⟨hi, HL⟩
        dsimp only [List.cons_append, List.nil_append]
        refine jg (aV (fJ O O) (qj (bI O (fun h4 => ?_) (fun h4 => ?_))))
        · (try simp only [aH] at h4)
          refine iq (aO (bn (jg ?_)))
          obtain ⟨adB, adC, adD, acB⟩ := Rd.vS ((HL.f2).aP) (by omega)
          cases acB
          refine aV (gU aU bG O O (by omega)) (aV (jC (ys := [_, _, _]) ((HL.f2).aP) (by omega) aS O bG O (kH fD.tY (by omega) default) O) ?_)
          have hkl : i < AE.length := by omega
          have hx : zA (AE.getD i default).says := hAO _ (by rw [List.getD_eq_getElem?_getD, List.getElem?_eq_getElem hkl]; exact List.getElem_mem hkl)
          have hx1 : (AE.getD i default).dl.length ≤ 1024 := hx.2.2.1
          have hx2 : (AE.getD i default).il.length ≤ 1024 := hx.2.2.2
          refine jL (fE (l := [_, _, _]) HL dB O) ?_
          rintro _ w44 ⟨b44, rfl, YI⟩
          refine aI (dh 0 (l' := [_, _, _]) (us := [_, _, _]) YI bG O O O (aF (aZ (by first | rfl | exact Rd.one (((YI.f4).mZ hkl).1)) (aZ (by first | rfl | exact Rd.one (((YI.f4).mZ hkl).2)) bK))) O O) ?_
          rintro _ w45 O9
          refine iT (aC (cZ O (aV (dG aS O bG O O (O9).get.2) (dZ O func76 (zi O9.f2 (fun W HW => ((HW.f3).mZ hkl).1) (fun W HW => ((HW.f3).mZ hkl).2) (by omega) (by omega)) ?_))))
          rintro _ w46 ⟨rfl, H46⟩
          have hadd : vU G1 ((AE.take i).map fD.says) (AE.getD i default).a (AE.getD i default).dl (AE.getD i default).il = 0 := by
            have hx3 : 0 < (AE.getD i default).dl.length + (AE.getD i default).il.length := hx.2.1
            have hx4 : 0 ≤ (AE.getD i default).a := hx.1
            have hx5 := uI G1 ((AE.take i).map fD.says)
            rw [List.length_map, List.length_take] at hx5
            unfold vU
            rw [if_neg (by omega), if_neg (by omega)]
          have HA2 := H46
          rw [Gj hadd (by decide), Gl hadd (by decide)] at HA2
          refine bY (aN (bg (aC (aV (gX O O (by omega)) (cZ O (bY ?_))))))
          refine fG (i + 1) ?_ ?_ ?_ ?_
          · exact sJ
          · exact SC
          · (try dsimp only)
            first | done | exact ⟨by omega, by rw [BL hkl]; exact HA2.f2.right.f3.f3.f3⟩
          · (try dsimp only); omega
        · (try simp only [aH] at h4)
          refine iJ (aX ?_)
          have hil : i = AE.length := by omega
          have HB := HL
          rw [hil, List.take_length] at HB
          subst acz
          refine aX (dA (bg (bM O (dZ O func77 (zo HB) ?_))))
          rintro _ w47 ⟨rfl, ZV⟩
          obtain ⟨h8a, h8b, h8c⟩ := LX G1 (AE.map fD.says)
          have HC := ZV
          rw [h8a, h8b, h8c, hAs, sN (by intro hz; exact hp (List.append_eq_nil_iff.1 hz).2), ← hF3] at HC
          have acC := HC.f6
          have acD := V.wO acC
          refine iT (aC (ny O O (bf 33 ah O bV O (aI (dN 33 acD.f6 bV) ?_))))
          rintro _ w50 H50
          refine bY ?_
          refine F8 (.inr O) (H50.f6) (fun w51 ZM => ?_)
          refine ⟨_, Y3 results34, ?_⟩
          rw [qB hp]
          exact V.Iy (s := { s.kT (s.jw on) with put := [] }) (qB hp ▸ IE dV ⟨hF1, hF2, hF3⟩ hp hG1) O ZM.f3.right.f3.right.f3.right.f9.right.f9.f9.f9.f5.f9.f7.f9.f9.f9
    · (try simp only [aH] at h2)
      have hn : on = false := h2
      obtain ⟨ov, yh, G1, hF, hG1, HF⟩ : ∃ ov yh G1, VW s on yh G1 ∧ (∀ g ∈ G1, ∀ x ∈ g, zA x) ∧ V w0 w3 (dR b3 (.cells #[ov] 67 (0, 0)) • Row 124 3 ov yh.length (yh.flatMap fD.enc) • nC yh • iL lp2 G1 [] 0 • R4) :=
        ⟨.slice none 0 0, [], s.here, TK hp hn, hO, (V.uS HR4.f2.f2 none).of_eq (by unfold Jt; ac_rfl)⟩
      subst hR4
      refine iq (aO ?_)
      obtain ⟨hF1, hF2, hF3⟩ := hF
      have hl1 : yh.length ≤ 16384 := by omega
      have hl2 : s.put.length ≤ 16384 := by omega
      refine aC (cZ O (dZ O func75 (xk HF.f4 (by omega)) ?_))
      rintro _ w52 ⟨rfl, YK⟩
      refine qj (aO ?_)
      have V3 := YK.drew
      have Dq := V.kp (V3.f15.f15.f15.f15.f15.f15.f15.f15.f15.f15.f15.f15.f15.f15.f15)
      refine xP [0, 4] Dq O (jq 0 O Dq (fun W hW => jV aU O ((Kp.h hW).f2).get.2 O) (jc 1 O Dq O (kN 2 O Dq O (fV 3 O Dq 33 ah O bV O (jq 4 O Dq (fun W hW => jV aU O ((Kp.h hW).f6).get.2 O) (jc 7 O Dq O (mP 5 O (iQ V3.f3 aU AB O O O ((V3.f13).aP) (by assumption) (by omega) (by omega)) ?_)))))))
      rintro l53 w53 H53
      have YQ := V.kp (H53.f15.f15.f15.f15.f15.f15.f15.f15.f15.f15.f15.f15.f15.f15.f15)
      refine iC YQ (by kernel_rfl) ?_
      have acE := H53.f14.f5.f3
      have acF := V.LW jh.symm acE
      obtain ⟨AE, Ry⟩ : ∃ q, q = yh ++ qA := ⟨_, rfl⟩
      have HA := acF
      rw [← Ry] at HA
      have hAl : AE.length = yh.length + s.put.length := by rw [Ry, List.length_append, jh]
      have hAs : AE.map fD.says = yh.map fD.says ++ s.put := by rw [Ry, List.map_append, bP]
      have hAO : ∀ x ∈ AE, zA x.says := fun x hx => by
        rw [Ry] at hx
        rcases List.mem_append.1 hx with hx | hx
        · exact hF2 x hx
        · exact hPO x hx
      refine jW 6 O YQ (fun _ => iE ((HA).aP) aU O) (qp (bg (bn ?_)))
      obtain ⟨R56, acG, acH⟩ := V.JD (HA.f2.f2.f3)
      refine iR [(0, _), (4, _), (32, _), (33, _)] (fun (i : Nat) => [(34, .int .i64 (i : Int))]) (fun (i : Nat) W => i ≤ AE.length ∧ V w0 W (iL lp2 G1 ((AE.take i).map fD.says) (0 + 1) • Row 124 3 l53 AE.length (AE.flatMap fD.enc) • nC AE • R56)) (fun (i : Nat) => AE.length - i) (0) SC sJ ⟨by omega, acH⟩ ?_
      rintro i w57 ⟨hi, HL⟩
      dsimp only [List.cons_append, List.nil_append]
      refine jg (aV (fJ O O) (qj (bI O (fun h5 => ?_) (fun h5 => ?_))))
      · (try simp only [aH] at h5)
        refine iq (aO (bn (jg ?_)))
        obtain ⟨adE, adF, adG, acI⟩ := Rd.vS ((HL.f2).aP) (by omega)
        cases acI
        refine aV (gU aU bG O O (by omega)) (aV (jC (ys := [_, _, _]) ((HL.f2).aP) (by omega) aS O bG O (kH fD.tY (by omega) default) O) ?_)
        have hkl : i < AE.length := by omega
        have hx : zA (AE.getD i default).says := hAO _ (by rw [List.getD_eq_getElem?_getD, List.getElem?_eq_getElem hkl]; exact List.getElem_mem hkl)
        have hx1 : (AE.getD i default).dl.length ≤ 1024 := hx.2.2.1
        have hx2 : (AE.getD i default).il.length ≤ 1024 := hx.2.2.2
        refine jL (fE (l := [_, _, _]) HL dB O) ?_
        rintro _ w58 ⟨b58, rfl, X3⟩
        refine aI (dh 0 (l' := [_, _, _]) (us := [_, _, _]) X3 bG O O O (aF (aZ (by first | rfl | exact Rd.one (((X3.f4).mZ hkl).1)) (aZ (by first | rfl | exact Rd.one (((X3.f4).mZ hkl).2)) bK))) O O) ?_
        rintro _ w59 H59
        refine iT (aC (cZ O (aV (dG aS O bG O O (H59).get.2) (dZ O func76 (zi H59.f2 (fun W HW => ((HW.f3).mZ hkl).1) (fun W HW => ((HW.f3).mZ hkl).2) (by omega) (by omega)) ?_))))
        rintro _ w60 ⟨rfl, H60⟩
        have hadd : vU G1 ((AE.take i).map fD.says) (AE.getD i default).a (AE.getD i default).dl (AE.getD i default).il = 0 := by
          have hx3 : 0 < (AE.getD i default).dl.length + (AE.getD i default).il.length := hx.2.1
          have hx4 : 0 ≤ (AE.getD i default).a := hx.1
          have hx5 := uI G1 ((AE.take i).map fD.says)
          rw [List.length_map, List.length_take] at hx5
          unfold vU
          rw [if_neg (by omega), if_neg (by omega)]
        have HA2 := H60
        rw [Gj hadd (by decide), Gl hadd (by decide)] at HA2
        refine bY (aN (bg (aC (aV (gX O O (by omega)) (cZ O (bY ?_))))))
        refine fG (i + 1) ?_ ?_ ?_ ?_
        · exact sJ
        · exact SC
        · (try dsimp only)
          first | done | exact ⟨by omega, by rw [BL hkl]; exact HA2.f2.right.f3.f3.f3⟩
        · (try dsimp only); omega
      · (try simp only [aH] at h5)
        refine iJ (aX ?_)
        have hil : i = AE.length := by omega
        have HB := HL
        rw [hil, List.take_length] at HB
        subst acG
        refine aX (dA (bg (bM O (dZ O func77 (zo HB) ?_))))
        rintro _ w61 ⟨rfl, H61⟩
        obtain ⟨h8a, h8b, h8c⟩ := LX G1 (AE.map fD.says)
        have HC := H61
        rw [h8a, h8b, h8c, hAs, sN (by intro hz; exact hp (List.append_eq_nil_iff.1 hz).2), ← hF3] at HC
        have acJ := HC.f5
        have acK := V.wO acJ
        refine iT (aC (ny O O (bf 33 ah O bV O (aI (dN 33 acK.f5 bV) ?_))))
        rintro _ w64 H64
        refine bY (gQ (.inr O) results34 ?_)
        rw [qB hp]
        exact V.Iy (s := { s.kT (s.jw on) with put := [] }) (qB hp ▸ IE dV ⟨hF1, hF2, hF3⟩ hp hG1) O H64.f3.right.f3.right.f3.right.f9.right.f9.f9.f9.f5.f9.f7.f9.f9.f9
end
end Go.Proofs.YtimndnfpcomhlaaGreatDoor
end
