import Derived.Test.YtgndbccogcofjaaGreatDoorZ2
import Derived.Test.YtgndbccogcofjaaGreatDoorZ14
set_option linter.unusedSimpArgs false
set_option linter.unusedVariables false
/- Texts of mine, joined, their names in short: EdF EdCl EmW. -/
section
namespace Go.Proofs.YtgndbccogcofjaaGreatDoor
open Go.RowKit
open _root_.Go.Proofs.Tryz
theorem Ri : (prog.info? 101).map (fun i => (i.zero, i.size, i.bytes)) = some (some (.agg #[.int .i64 0, .slice none 0 0, .slice none 0 0]), 3, 56) := by kernel_rfl
def LM (c : Nat) (g : List dX) : HP := rD fun (x : Value × List cO) => fact (x.2.map cO.says = g) • dB c (.cells #[x.1] 35 (0, 0)) • Row 101 3 x.1 x.2.length (x.2.flatMap cO.enc) • je x.2
section
variable {w0 w : World} {F : HP} {e p c n m : Nat} {s : bg} {i j x : Int} {on : Bool} {v : Value} {g : List dX} {rM es : List cO} {xs : List Value}
theorem uV (H : aB w0 w F) (hr : Jk w0 F 3 v n xs) (hon : ∀ u ∈ xs, u.oneCell' = true) (hb : n ≤ 1099511627776) :
    fO prog 46 #[v] w fun v' w' => aB w0 w' (Row 101 3 v' n xs • F) := by
  obtain ⟨hlen, a, c, rfl, h2, h3, h4⟩ := hr w H
  refine gB func46 ntmps46 ?_
  dsimp only [bf, Nat.reduceAdd]
  refine ay (ah (aV rfl (aA (aj (ay (ay (ah (aN rfl (aX (vC underlying35 rfl rfl) (aA (aj (aO rfl (fun h1 => ?_) (fun h1 => ?_)))))))))))))
  · (try simp only [aH] at h1)
    try (exfalso; first | contradiction | omega)
    all_goals
      refine ay (ah (aV rfl (aA (aj (aJ (aK (aI (.inl rfl) results46 rfl ?_)))))))
      obtain rfl : a = none := by simpa using h1
      obtain rfl : n = 0 := by
        rcases Nat.eq_zero_or_pos n with h | h
        · exact h
        · obtain ⟨b, o, e, _⟩ := h4 h; cases e
      obtain rfl : xs = [] := List.eq_nil_of_length_eq_zero (by omega)
      exact H.jo none
  · (try simp only [aH] at h1)
    try (exfalso; first | contradiction | omega)
    all_goals
      refine aP (aj (ay (ah (jh (Dk H underlying35 sizeOf101 zeroValue101) ?_))))
      rintro _ w1 H1
      refine aN rfl (jh (iC H1 underlying35 Ri rfl rfl rfl (hr.under _ H1) hon (by omega) (by omega)) ?_)
      rintro _ w2 H2
      refine aV rfl (aA (aj (aJ (aI (.inl rfl) results46 rfl ?_))))
      exact H2.of_eq (by rw [Nat.zero_add, List.nil_append])
theorem aB.old (H : aB w0 w (LM c g • F)) : ∃ v es, es.map cO.says = g ∧ aB w0 w (dB c (.cells #[v] 35 (0, 0)) • Row 101 3 v es.length (es.flatMap cO.enc) • je es • F) := by
  obtain ⟨⟨v, es⟩, H⟩ := H.lK
  obtain ⟨h, H⟩ := H.flat.fact
  exact ⟨v, es, h, H.of_eq (by simp only [bT])⟩
theorem aB.Pv (h : es.map cO.says = g) (H : aB w0 w (dB c (.cells #[v] 35 (0, 0)) • Row 101 3 v es.length (es.flatMap cO.enc) • je es • F)) : aB w0 w (LM c g • F) :=
  aB.gY (v, es) (aB.deep (aB.jF h (H.of_eq (by simp only [bT]))))
theorem aB.Rj (hg : g = []) (H : aB w0 w (dB c (.cells #[.slice none 0 0] 35 (0, 0)) • F)) : aB w0 w (LM c g • F) :=
  aB.Pv (v := .slice none 0 0) (es := []) hg.symm ((H.oJ none).of_eq (by unfold Eh; ac_rfl))
theorem aB.Gw (hm : m = es.length) (H : aB w0 w (Row 101 3 v (rM.length + m) (rM.flatMap cO.enc ++ es.flatMap cO.enc) • je rM • je es • F)) : aB w0 w (Row 101 3 v (rM ++ es).length ((rM ++ es).flatMap cO.enc) • je (rM ++ es) • F) := by
  subst hm
  have h1 : aB w0 w (je rM • je es • Row 101 3 v (rM.length + es.length) (rM.flatMap cO.enc ++ es.flatMap cO.enc) • F) := H.of_eq (by ac_rfl)
  have h2 : aB w0 w (je (rM ++ es) • Row 101 3 v (rM.length + es.length) (rM.flatMap cO.enc ++ es.flatMap cO.enc) • F) := h1.DX (oK (fun I h g => h.app g) _)
  exact h2.swap.of_eq (by rw [List.length_append, List.flatMap_append])
def Px (s : bg) (on : Bool) (rM : List cO) (G1 : List (List dX)) : Prop := dS G1 [] + rM.length = dS s.here [] ∧ (∀ e ∈ rM, uD e.says) ∧ s.iO on = G1 ++ [rM.map cO.says ++ s.put]
theorem Ny (hp : s.put ≠ []) (hn : on = false) : Px s on [] s.here := by
  subst hn
  refine ⟨by simp, by simp, ?_⟩
  unfold bg.iO
  rw [if_neg hp, if_neg (by decide)]
  rfl
theorem Gx : ∀ {G : List (List dX)}, G ≠ [] → (G.dropLast.map List.length).sum + (G.getLastD []).length = (G.map List.length).sum := by
  intro G hG
  have h := List.dropLast_concat_getLast hG
  have h2 : G.getLastD [] = G.getLast hG := by rw [List.getLastD_eq_getLast?, List.getLast?_eq_some_getLast hG]; rfl
  rw [h2]
  conv => rhs; rw [← h]
  simp
theorem I8 (hp : s.put ≠ []) (hn : on = true) (hO : ∀ g ∈ s.here, ∀ e ∈ g, uD e) (h : rM.map cO.says = s.here.getLastD []) : Px s on rM s.here.dropLast := by
  subst hn
  have hlen : rM.length = (s.here.getLastD []).length := by rw [← h]; simp
  have hm : ∀ e ∈ rM, e.says ∈ s.here.getLastD [] := fun e he => by rw [← h]; exact List.mem_map.2 ⟨e, he, rfl⟩
  unfold Px bg.iO
  rw [if_neg hp, if_pos rfl]
  by_cases h0 : s.here = []
  · rw [h0] at h hlen hm
    have : rM = [] := List.eq_nil_of_length_eq_zero (by simpa using hlen)
    subst this
    rw [h0]
    exact ⟨by simp, by simp, rfl⟩
  · have h2 : s.here.getLastD [] = s.here.getLast h0 := by rw [List.getLastD_eq_getLast?, List.getLast?_eq_some_getLast h0]; rfl
    refine ⟨?_, fun e he => hO _ (List.getLast_mem h0) _ (h2 ▸ hm e he), ?_⟩
    · have := Gx h0
      show (s.here.dropLast.map List.length).sum + 0 + rM.length = (s.here.map List.length).sum + 0
      rw [hlen]; omega
    · rw [List.getLast?_eq_some_getLast h0, h, h2]
theorem DC (G : List (List dX)) : xJ G [] = G.reverse := by unfold xJ jc; rw [if_pos rfl]
theorem Ku (G : List (List dX)) : (xJ G []).getD 0 [] = G.getLastD [] := by
  rw [DC, List.getD_eq_getElem?_getD, List.getLastD_eq_getLast?]
  congr 1
  cases G.eq_nil_or_concat with
  | inl h => subst h; rfl
  | inr h => obtain ⟨L, b, rfl⟩ := h; simp
theorem Py {G : List (List dX)} (h : QT G [] 0) : (∀ g ∈ xJ G [], ∀ e ∈ g, EB e) ∧ ∀ g ∈ xJ G [], g.length ≤ 16384 := by
  rw [DC]
  refine ⟨fun g hg => h.2.2.2.2.1 g (List.mem_reverse.1 hg), fun g hg => ?_⟩
  have h1 := Gl (List.mem_reverse.1 hg)
  have h2 := h.2.1
  unfold dS at h2
  simp at h2; omega
theorem Gy (G : List (List dX)) (N : List dX) : Ua G N (0 + 1) = jc G N ∧ Ub N (0 + 1) = [] ∧ QU (0 + 1) = 0 := ⟨if_pos rfl, if_pos rfl, by unfold QU; rw [if_neg (by decide)]; rfl⟩
theorem EZ (G : List (List dX)) : Ld G [] = G.dropLast ∧ Le G [] = [] ∧ Lh G [] 0 = 0 := by
  unfold Ld Le Lh jc
  by_cases h : G.length + ([] : List dX).length = 0
  · have : G = [] := List.eq_nil_of_length_eq_zero (by simpa using h)
    subst this
    simp
  · rw [if_neg h, if_neg h, if_neg h, if_pos rfl]; simp
theorem Kv {s : bg} (h : s.put = []) : s.dJ on = s := by unfold bg.dJ; rw [if_pos h]
theorem kM {s : bg} (h : s.put ≠ []) : s.dJ on = { s.jU (s.iO on) with put := [] } := by unfold bg.dJ; rw [if_neg h]
theorem Pz (G : List (List dX)) (g : List dX) : dS (G ++ [g]) [] = dS G [] + g.length := by unfold dS; simp
theorem DF (h : jV s) {G1 : List (List dX)} (hF : Px s on rM G1) (hp : s.put ≠ []) (hG : ∀ g ∈ G1, ∀ e ∈ g, uD e) : jV (s.dJ on) := by
  rw [kM hp]
  obtain ⟨h1, h2, h3, h4, h5, h6⟩ := h
  obtain ⟨f1, f2, f3⟩ := hF
  refine ⟨h1, h2, h3, by simp, ?_, ?_⟩
  · show dS (wS s.c.un s.c.place (s.iO on) s.c.place) [] ≤ 16384
    rw [fD, f3, Pz]
    have := oh s.here s.put
    simp; omega
  · intro k g hg e he
    have hg' : g ∈ wS s.c.un s.c.place (s.iO on) k := hg
    by_cases hk : k = s.c.place
    · subst hk
      rw [fD, f3] at hg'
      rcases List.mem_append.1 hg' with hg' | hg'
      · exact hG g hg' e he
      · rw [List.mem_singleton.1 hg'] at he
        rcases List.mem_append.1 he with he | he
        · obtain ⟨q, hq, rfl⟩ := List.mem_map.1 he; exact f2 q hq
        · exact h4 e he
    · rw [sS _ _ hk] at hg'; exact h6 k g hg' e he
theorem zH {es : List cO} {k : Nat} (hk : k < es.length) : (es.take (k + 1)).map cO.says = (es.take k).map cO.says ++ [(es.getD k default).says] := by
  rw [List.take_succ_eq_append_getElem hk, List.map_append, List.getD_eq_getElem?_getD, List.getElem?_eq_getElem hk]; rfl
theorem kU (H : aB w0 w (dw e s • F)) : fO prog 96 #[.pointer (some ⟨e, 0, none⟩), .bool on] w fun _ w' => aB w0 w' (dw e (s.dJ on) • F) := by
  refine gB func96 ntmps96 ?_
  dsimp only [bf, Nat.reduceAdd]
  refine ay (ay ?_)
  obtain ⟨qG, qH, qI, qJ, qK, qL, qM, qN, oU, mZ, ng, ni, ny, nC, nD, nG, nH, nI, nJ, nK, dF, bG, gK, dH⟩ := (H).Bf
  have hput : dS s.here s.put ≤ 16384 := dF.2.2.2.2.1
  have hsp := oh s.here s.put
  have hO : ∀ g ∈ s.here, ∀ x ∈ g, uD x := dF.2.2.2.2.2 s.c.place
  have Y4 : ∀ x ∈ oU, uD x.says := fun x hx => dF.2.2.2.1 _ (by rw [← bG]; exact List.mem_map.2 ⟨x, hx, rfl⟩)
  have aap := (dH.f10).CS
  refine ah (aN rfl (bP rfl (bF 33 underlying37 rfl sizeOf35 rfl (dV underlying35 rfl (dH).get.2 rfl (aX (iM ((dH.f9).aT) underlying35 rfl) (aX (dO rfl rfl) (aA (aj (aO rfl (fun h1 => ?_) (fun h1 => ?_))))))))))
  · (try simp only [aH] at h1)
    refine aJ (aK (fZ (.inl rfl) results96 ?_))
    rw [Kv (List.eq_nil_of_length_eq_zero (by omega))]
    exact aB.dG dF bG dH.f11.f11.f11.f11.f11.f11.f11.f11.f11.f11.f11
  · (try simp only [aH] at h1)
    have hp : s.put ≠ [] := by rintro hz; rw [hz] at h1; simp at h1
    refine aP (aj (ay (ah (aN rfl (bZ rfl func160 (vW dH.f6.f5.f3) ?_)))))
    rintro _ w2 ⟨lp2, rfl, H2⟩
    refine aV rfl (aA (aj (ay (ah (jh (gJ (l := [_]) H2 zeroValue35 rfl) ?_)))))
    rintro _ w3 ⟨b3, rfl, H3⟩
    refine aA (aj (ay (ay ?_)))
    obtain ⟨R4, Y5, HR4⟩ := aB.U3 (H3.f2.f2)
    refine ah (aN rfl (aA (aj (aO rfl (fun h2 => ?_) (fun h2 => ?_)))))
    · (try simp only [aH] at h2)
      have hn : on = true := h2
      refine ay (ay (ah (aN rfl (bZ rfl func161 (AO HR4.f2) ?_))))
      rintro _ w5 ⟨bG5, rfl, H5⟩
      refine aA (aj (bC ?_))
      obtain ⟨_, _, _, _, k1, _⟩ := (H5.f2).sO
      obtain ⟨hB, hL⟩ := Py k1
      have HF0 := aB.jF (q := (0 : Nat) = 0) rfl H5
      obtain ⟨R6, Xl, Yl⟩ := aB.Es (HF0.f4.f2.f3)
      refine uo rfl (II bG5 hB hL) (fun j => fact (j = 0) • dB b3 (.cells #[.slice none 0 0] 35 (0, 0)) • R6) (fact False) (fun id => if id = 0 then LM b3 (s.here.getLastD []) • R6 else fact False) (Yl.f3.f3.f3.f3.f3.f3.comm) (by rfl) ?_ ?_ ?_ ?_
      · rintro l7 j TU vs7 A7 ⟨u1, fs1, WR, rfl, rfl⟩ G7 w7 H7
        try simp only [bT, jm, pF] at H7
        refine ⟨rfl, ?_⟩
        dsimp only [JO]
        have HQ := (H7).UW
        obtain rfl : j = 0 := (HQ.f3).fact.1
        have hon := (HQ.f2).CS
        have hlen1 : fs1.length ≤ 16384 := by
          have h9 := hL _ (sH (d := []) TU)
          rw [← WR] at h9
          simpa using h9
        refine ah (aV rfl (aA ?_))
        refine JM (HQ.g5) ?_
        intro G8 w8 H8
        try simp only [bT] at H8
        refine bC (ay (ah (aN rfl (bZ rfl func46 (uV H8 (fun W HW => (HW).aT) hon (by omega)) ?_))))
        rintro u9 w9 H9
        refine aG (aS 0 (l' := [_]) H9.f5 sizeOf35 rfl rfl (by first | rfl | exact Rd.one ((H9).aT)) rfl rfl) ?_
        rintro _ w10 nO
        refine aA (aj (eX ?_))
        refine oz (by decide) ?_
        refine OL ?_
        rw [if_pos rfl]
        exact (aB.Pv (WR.trans (Ku _)) nO.f3.right.f4.right.f3.f3.f3).deep
      · rintro D11 Hz vk
        have Ov := vk.ed
        try simp only [bT, jm, pF] at Ov
        have WS := Ov.KF
        have hz := (WS.f3).fact.1
        rw [DC, List.length_reverse] at hz
        have hg0 : s.here.getLastD [] = [] := by show (s.c.un s.c.place).getLastD [] = []; rw [List.eq_nil_of_length_eq_zero hz]; rfl
        have J8 := WS.f4
        have J9 := aB.Rj hg0 J8
        have Rk := J9.f4.right
        subst Xl
        subst Y5
        refine aQ (aj (ah (aN rfl (bZ rfl func162 (xk Rk.f4) ?_))))
        rintro _ MO ⟨u15, aaE, rfl, aaq, uf⟩
        have Y6 := uf.right
        have JL := Y6.right
        have Po := JL.f4.right
        obtain ⟨Y7, Y8, Y9⟩ := EZ (s.c.un s.c.place)
        have HX := Po
        rw [Y7, Y8, Y9] at HX
        obtain ⟨ov, rM, Ut, HO⟩ := (HX.f2).old
        have hF := I8 hp hn hO Ut
        have hG1 : ∀ g ∈ s.here.dropLast, ∀ x ∈ g, uD x := fun g hg => hO g (List.dropLast_subset _ hg)
        obtain ⟨G1, Uu⟩ : ∃ q, q = (s.c.un s.c.place).dropLast := ⟨_, rfl⟩
        rw [show s.here.dropLast = (s.c.un s.c.place).dropLast from rfl] at hF hG1
        have WT := HO
        rw [← Uu] at hF hG1 WT
        refine aA (aj (ay ?_))
        obtain ⟨hF1, hF2, hF3⟩ := hF
        have hl1 : rM.length ≤ 16384 := by omega
        have hl2 : s.put.length ≤ 16384 := by omega
        refine ah (aN rfl (bZ rfl func163 (ql WT.f4 (by omega)) ?_))
        rintro _ Qe ⟨rfl, Au⟩
        refine aA (aj (ay (ay ?_)))
        have EY := Au.drew
        have lN := aB.kp (EY.f16.f16.f16.f16.f16.f16.f16.f16.f16.f16.f16.f16.f16.f16.f16.f16)
        refine yZ [0, 4] lN rfl (jk 0 rfl lN (fun W hW => jP underlying35 rfl ((Kp.h hW).f2).get.2 rfl) (iF 1 rfl lN rfl (jQ 2 rfl lN rfl (gV 3 rfl lN 33 underlying37 rfl sizeOf35 rfl (jk 4 rfl lN (fun W hW => jP underlying35 rfl ((Kp.h hW).f7).get.2 rfl) (iF 7 rfl lN rfl (kE 5 rfl (iC EY.f3 underlying35 (show (prog.info? 101).map (fun i => (i.zero, i.size, i.bytes)) = some (some (.agg #[.int .i64 0, .slice none 0 0, .slice none 0 0]), 3, 56) by kernel_rfl) rfl rfl rfl ((EY.f14).aT) (by assumption) (by omega) (by omega)) ?_)))))))
        rintro Xm Qd uZ
        have Ag := aB.kp (uZ.f16.f16.f16.f16.f16.f16.f16.f16.f16.f16.f16.f16.f16.f16.f16.f16)
        refine fQ Ag (by kernel_rfl) ?_
        have Za := uZ.f15.f5.f3
        have Zb := aB.Gw gK.symm Za
        obtain ⟨AE, LP⟩ : ∃ q, q = rM ++ oU := ⟨_, rfl⟩
        have HA := Zb
        rw [← LP] at HA
        have hAl : AE.length = rM.length + s.put.length := by rw [LP, List.length_append, gK]
        have hAs : AE.map cO.says = rM.map cO.says ++ s.put := by rw [LP, List.map_append, bG]
        have WU : ∀ x ∈ AE, uD x.says := fun x hx => by
          rw [LP] at hx
          rcases List.mem_append.1 hx with hx | hx
          · exact hF2 x hx
          · exact Y4 x hx
        refine jg 6 rfl Ag (fun _ => iM ((HA).aT) underlying35 rfl) (pO (aj (bC ?_)))
        obtain ⟨R23, Zc, Zd⟩ := aB.Es (HA.f2.f2.f3)
        refine iw [(0, _), (4, _), (32, _), (33, _)] (fun (i : Nat) => [(34, .int .i64 (i : Int))]) (fun (i : Nat) W => i ≤ AE.length ∧ aB w0 W (dR lp2 G1 ((AE.take i).map cO.says) (0 + 1) • Row 101 3 Xm AE.length (AE.flatMap cO.enc) • je AE • R23)) (fun (i : Nat) => AE.length - i) (0) (Sub.cons rfl (Sub.cons rfl (Sub.cons rfl (Sub.cons rfl (Sub.nil _))))) (Sub.cons rfl (Sub.nil _)) ⟨by omega, Zd⟩ ?_
        rintro i Vf ⟨hi, HL⟩
        dsimp only [List.cons_append, List.nil_append]
        refine ay (ah (aX (eu rfl rfl) (aA (aj (ay (aO rfl (fun h3 => ?_) (fun h3 => ?_)))))))
        · (try simp only [aH] at h3)
          refine aP (aj (ay (bC (ay (ah ?_)))))
          obtain ⟨aaF, aaG, aaH, Ze⟩ := Rd.BL ((HL.f2).aT) (by omega)
          cases Ze
          refine aX (iV underlying35 sizeOf101 rfl rfl (by omega)) (aX (kJ (ys := [_, _, _]) ((HL.f2).aT) (by omega) underlying101 rfl sizeOf101 rfl (nZ cO.yG (by omega) default) rfl) ?_)
          have hkl : i < AE.length := by omega
          have hx : uD (AE.getD i default).says := WU _ (by rw [List.getD_eq_getElem?_getD, List.getElem?_eq_getElem hkl]; exact List.getElem_mem hkl)
          have hx1 : (AE.getD i default).dl.length ≤ 1024 := hx.2.2.1
          have hx2 : (AE.getD i default).il.length ≤ 1024 := hx.2.2.2
          refine jh (gJ (l := [_, _, _]) HL zeroValue101 rfl) ?_
          rintro _ Vu ⟨b25, rfl, KU⟩
          refine aG (cZ 0 (l' := [_, _, _]) (us := [_, _, _]) KU sizeOf101 rfl rfl rfl (aC (by first | rfl | assumption) (aC (by first | rfl | exact Rd.one (((KU.f4).jZ hkl).1)) (aC (by first | rfl | exact Rd.one (((KU.f4).jZ hkl).2)) bV))) rfl rfl) ?_
          rintro _ Vw MP
          refine aA (aj (ah (aN rfl (aX (bW underlying101 rfl sizeOf101 rfl rfl (MP).get.2) (bZ rfl func164 (um MP.f2 (fun W HW => ((HW.f3).jZ hkl).1) (fun W HW => ((HW.f3).jZ hkl).2) (by omega) (by omega)) ?_)))))
          rintro _ Vx ⟨rfl, Qh⟩
          have hadd : pz G1 ((AE.take i).map cO.says) (AE.getD i default).a (AE.getD i default).dl (AE.getD i default).il = 0 := by
            have hx3 : 0 < (AE.getD i default).dl.length + (AE.getD i default).il.length := hx.2.1
            have hx4 : 0 ≤ (AE.getD i default).a := hx.1
            have hx5 := oh G1 ((AE.take i).map cO.says)
            rw [List.length_map, List.length_take] at hx5
            unfold pz
            rw [if_neg (by omega), if_neg (by omega)]
          have HA2 := Qh
          rw [Ba hadd (by decide), Bc hadd (by decide)] at HA2
          refine aA (aQ (aj (ah (aX (gy rfl rfl (by omega)) (aN rfl (aA ?_))))))
          refine fE (i + 1) ?_ ?_ ?_ ?_
          · exact (Sub.cons rfl (Sub.nil _))
          · exact (Sub.cons rfl (Sub.cons rfl (Sub.cons rfl (Sub.cons rfl (Sub.nil _)))))
          · (try dsimp only)
            first | done | exact ⟨by omega, by rw [zH hkl]; exact HA2.f2.right.f3.f3.f3⟩
          · (try dsimp only); omega
        · (try simp only [aH] at h3)
          refine eX (aY ?_)
          have hil : i = AE.length := by omega
          have HB := HL
          rw [hil, List.take_length] at HB
          subst Zc
          refine aY (bU (aj (ay (ah (aN rfl (bZ rfl func165 (uw HB) ?_))))))
          rintro _ Xd ⟨rfl, Qi⟩
          obtain ⟨WV, WW, WX⟩ := Gy G1 (AE.map cO.says)
          have HC := Qi
          rw [WV, WW, WX, hAs, lT (by intro hz; exact hp (List.append_eq_nil_iff.1 hz).2), ← hF3] at HC
          have Ul := HC.f6
          have Um := aB.sZ Ul
          refine aA (aj (ah (aN rfl (bP rfl (bF 33 underlying37 rfl sizeOf35 rfl (aG (aS 33 (l' := [_, _, _, _, _, _, _, _, _, _, _, _, _, _, _, _, _, _, _, _, _, _, _, _, _, _, _, _, _, _, _, _, _, _]) Um.f6 sizeOf35 rfl rfl (by first | rfl | assumption) rfl rfl) ?_))))))
          rintro _ Vy Jy
          refine aA ?_
          refine AX (.inr rfl) (Jy.f6) (fun w32 NS => ?_)
          refine ⟨_, Td results96, ?_⟩
          rw [kM hp]
          exact aB.Dv (s := { s.jU (s.iO on) with put := [] }) (kM hp ▸ DF dF ⟨hF1, hF2, hF3⟩ hp hG1) rfl NS.f3.right.f3.right.f3.right.f9.right.f9.f9.f9.f5.f9.f7.f9.f9.f9
      · rintro D w H; exact absurd H.swap.fact.1 id
      · rintro id D33 Xf Jz
        refine Decidable.byCases (fun hid : id = 0 => ?_) (fun hid => by rw [if_neg hid] at Jz; exact absurd Jz.swap.fact.1 fun h => h)
        subst hid
        rw [if_pos rfl] at Jz
        have WY := Jz.ed
        try simp only [bT, jm, pF] at WY
        have Zf := WY.KF
        subst Xl
        subst Y5
        refine bU (aj (ah (aN rfl (bZ rfl func162 (xk Zf.f4) ?_))))
        rintro _ XK ⟨u34, aaI, rfl, aar, Qj⟩
        have Zg := Qj.right
        have Zh := Zg.right
        have Uw := Zh.f3.right
        obtain ⟨Y7, Y8, Y9⟩ := EZ (s.c.un s.c.place)
        have HX := Uw
        rw [Y7, Y8, Y9] at HX
        obtain ⟨ov, rM, Ut, HO⟩ := (HX.f3).old
        have hF := I8 hp hn hO Ut
        have hG1 : ∀ g ∈ s.here.dropLast, ∀ x ∈ g, uD x := fun g hg => hO g (List.dropLast_subset _ hg)
        obtain ⟨G1, Uu⟩ : ∃ q, q = (s.c.un s.c.place).dropLast := ⟨_, rfl⟩
        rw [show s.here.dropLast = (s.c.un s.c.place).dropLast from rfl] at hF hG1
        have WT := HO
        rw [← Uu] at hF hG1 WT
        refine aA (aj (ay ?_))
        obtain ⟨hF1, hF2, hF3⟩ := hF
        have hl1 : rM.length ≤ 16384 := by omega
        have hl2 : s.put.length ≤ 16384 := by omega
        refine ah (aN rfl (bZ rfl func163 (ql WT.f4 (by omega)) ?_))
        rintro _ VA ⟨rfl, TK⟩
        refine aA (aj (ay (ay ?_)))
        have PD := TK.drew
        have xQ := aB.kp (PD.f16.f16.f16.f16.f16.f16.f16.f16.f16.f16.f16.f16.f16.f16.f16.f16)
        refine yZ [0, 4] xQ rfl (jk 0 rfl xQ (fun W hW => jP underlying35 rfl ((Kp.h hW).f2).get.2 rfl) (iF 1 rfl xQ rfl (jQ 2 rfl xQ rfl (gV 3 rfl xQ 33 underlying37 rfl sizeOf35 rfl (jk 4 rfl xQ (fun W hW => jP underlying35 rfl ((Kp.h hW).f7).get.2 rfl) (iF 7 rfl xQ rfl (kE 5 rfl (iC PD.f3 underlying35 (show (prog.info? 101).map (fun i => (i.zero, i.size, i.bytes)) = some (some (.agg #[.int .i64 0, .slice none 0 0, .slice none 0 0]), 3, 56) by kernel_rfl) rfl rfl rfl ((PD.f14).aT) (by assumption) (by omega) (by omega)) ?_)))))))
        rintro l39 w39 Xg
        have SN := aB.kp (Xg.f16.f16.f16.f16.f16.f16.f16.f16.f16.f16.f16.f16.f16.f16.f16.f16)
        refine fQ SN (by kernel_rfl) ?_
        have Zi := Xg.f15.f5.f3
        have Zj := aB.Gw gK.symm Zi
        obtain ⟨AE, LP⟩ : ∃ q, q = rM ++ oU := ⟨_, rfl⟩
        have HA := Zj
        rw [← LP] at HA
        have hAl : AE.length = rM.length + s.put.length := by rw [LP, List.length_append, gK]
        have hAs : AE.map cO.says = rM.map cO.says ++ s.put := by rw [LP, List.map_append, bG]
        have WU : ∀ x ∈ AE, uD x.says := fun x hx => by
          rw [LP] at hx
          rcases List.mem_append.1 hx with hx | hx
          · exact hF2 x hx
          · exact Y4 x hx
        refine jg 6 rfl SN (fun _ => iM ((HA).aT) underlying35 rfl) (pO (aj (bC ?_)))
        obtain ⟨R42, Zk, Zl⟩ := aB.Es (HA.f2.f2.f3)
        refine iw [(0, _), (4, _), (32, _), (33, _)] (fun (i : Nat) => [(34, .int .i64 (i : Int))]) (fun (i : Nat) W => i ≤ AE.length ∧ aB w0 W (dR lp2 G1 ((AE.take i).map cO.says) (0 + 1) • Row 101 3 l39 AE.length (AE.flatMap cO.enc) • je AE • R42)) (fun (i : Nat) => AE.length - i) (0) (Sub.cons rfl (Sub.cons rfl (Sub.cons rfl (Sub.cons rfl (Sub.nil _))))) (Sub.cons rfl (Sub.nil _)) ⟨by omega, Zl⟩ ?_
        rintro i XM ⟨hi, HL⟩
        dsimp only [List.cons_append, List.nil_append]
        refine ay (ah (aX (eu rfl rfl) (aA (aj (ay (aO rfl (fun h4 => ?_) (fun h4 => ?_)))))))
        · (try simp only [aH] at h4)
          refine aP (aj (ay (bC (ay (ah ?_)))))
          obtain ⟨aaJ, aaK, aaL, Zm⟩ := Rd.BL ((HL.f2).aT) (by omega)
          cases Zm
          refine aX (iV underlying35 sizeOf101 rfl rfl (by omega)) (aX (kJ (ys := [_, _, _]) ((HL.f2).aT) (by omega) underlying101 rfl sizeOf101 rfl (nZ cO.yG (by omega) default) rfl) ?_)
          have hkl : i < AE.length := by omega
          have hx : uD (AE.getD i default).says := WU _ (by rw [List.getD_eq_getElem?_getD, List.getElem?_eq_getElem hkl]; exact List.getElem_mem hkl)
          have hx1 : (AE.getD i default).dl.length ≤ 1024 := hx.2.2.1
          have hx2 : (AE.getD i default).il.length ≤ 1024 := hx.2.2.2
          refine jh (gJ (l := [_, _, _]) HL zeroValue101 rfl) ?_
          rintro _ w44 ⟨b44, rfl, TL⟩
          refine aG (cZ 0 (l' := [_, _, _]) (us := [_, _, _]) TL sizeOf101 rfl rfl rfl (aC (by first | rfl | assumption) (aC (by first | rfl | exact Rd.one (((TL.f4).jZ hkl).1)) (aC (by first | rfl | exact Rd.one (((TL.f4).jZ hkl).2)) bV))) rfl rfl) ?_
          rintro _ Xi RZ
          refine aA (aj (ah (aN rfl (aX (bW underlying101 rfl sizeOf101 rfl rfl (RZ).get.2) (bZ rfl func164 (um RZ.f2 (fun W HW => ((HW.f3).jZ hkl).1) (fun W HW => ((HW.f3).jZ hkl).2) (by omega) (by omega)) ?_)))))
          rintro _ w46 ⟨rfl, VB⟩
          have hadd : pz G1 ((AE.take i).map cO.says) (AE.getD i default).a (AE.getD i default).dl (AE.getD i default).il = 0 := by
            have hx3 : 0 < (AE.getD i default).dl.length + (AE.getD i default).il.length := hx.2.1
            have hx4 : 0 ≤ (AE.getD i default).a := hx.1
            have hx5 := oh G1 ((AE.take i).map cO.says)
            rw [List.length_map, List.length_take] at hx5
            unfold pz
            rw [if_neg (by omega), if_neg (by omega)]
          have HA2 := VB
          rw [Ba hadd (by decide), Bc hadd (by decide)] at HA2
          refine aA (aQ (aj (ah (aX (gy rfl rfl (by omega)) (aN rfl (aA ?_))))))
          refine fE (i + 1) ?_ ?_ ?_ ?_
          · exact (Sub.cons rfl (Sub.nil _))
          · exact (Sub.cons rfl (Sub.cons rfl (Sub.cons rfl (Sub.cons rfl (Sub.nil _)))))
          · (try dsimp only)
            first | done | exact ⟨by omega, by rw [zH hkl]; exact HA2.f2.right.f3.f3.f3⟩
          · (try dsimp only); omega
        · (try simp only [aH] at h4)
          refine eX (aY ?_)
          have hil : i = AE.length := by omega
          have HB := HL
          rw [hil, List.take_length] at HB
          subst Zk
          refine aY (bU (aj (ay (ah (aN rfl (bZ rfl func165 (uw HB) ?_))))))
          rintro _ w47 ⟨rfl, UO⟩
          obtain ⟨WV, WW, WX⟩ := Gy G1 (AE.map cO.says)
          have HC := UO
          rw [WV, WW, WX, hAs, lT (by intro hz; exact hp (List.append_eq_nil_iff.1 hz).2), ← hF3] at HC
          have Zn := HC.f6
          have Zo := aB.sZ Zn
          refine aA (aj (ah (aN rfl (bP rfl (bF 33 underlying37 rfl sizeOf35 rfl (aG (aS 33 (l' := [_, _, _, _, _, _, _, _, _, _, _, _, _, _, _, _, _, _, _, _, _, _, _, _, _, _, _, _, _, _, _, _, _, _]) Zo.f6 sizeOf35 rfl rfl (by first | rfl | assumption) rfl rfl) ?_))))))
          rintro _ w50 UY
          refine aA ?_
          refine AX (.inr rfl) (UY.f6) (fun w51 Un => ?_)
          refine ⟨_, Td results96, ?_⟩
          rw [kM hp]
          exact aB.Dv (s := { s.jU (s.iO on) with put := [] }) (kM hp ▸ DF dF ⟨hF1, hF2, hF3⟩ hp hG1) rfl Un.f3.right.f3.right.f3.right.f9.right.f9.f9.f9.f5.f9.f7.f9.f9.f9
    · (try simp only [aH] at h2)
      have hn : on = false := h2
      obtain ⟨ov, rM, G1, hF, hG1, HF⟩ : ∃ ov rM G1, Px s on rM G1 ∧ (∀ g ∈ G1, ∀ x ∈ g, uD x) ∧ aB w0 w3 (dB b3 (.cells #[ov] 35 (0, 0)) • Row 101 3 ov rM.length (rM.flatMap cO.enc) • je rM • dR lp2 G1 [] 0 • R4) :=
        ⟨.slice none 0 0, [], s.here, Ny hp hn, hO, (aB.oJ HR4.f2.f2 none).of_eq (by unfold Eh; ac_rfl)⟩
      subst Y5
      refine aP (aj (ay ?_))
      obtain ⟨hF1, hF2, hF3⟩ := hF
      have hl1 : rM.length ≤ 16384 := by omega
      have hl2 : s.put.length ≤ 16384 := by omega
      refine ah (aN rfl (bZ rfl func163 (ql HF.f4 (by omega)) ?_))
      rintro _ w52 ⟨rfl, SG⟩
      refine aA (aj (ay (ay ?_)))
      have PE := SG.drew
      have xR := aB.kp (PE.f15.f15.f15.f15.f15.f15.f15.f15.f15.f15.f15.f15.f15.f15.f15)
      refine yZ [0, 4] xR rfl (jk 0 rfl xR (fun W hW => jP underlying35 rfl ((Kp.h hW).f2).get.2 rfl) (iF 1 rfl xR rfl (jQ 2 rfl xR rfl (gV 3 rfl xR 33 underlying37 rfl sizeOf35 rfl (jk 4 rfl xR (fun W hW => jP underlying35 rfl ((Kp.h hW).f6).get.2 rfl) (iF 7 rfl xR rfl (kE 5 rfl (iC PE.f3 underlying35 (show (prog.info? 101).map (fun i => (i.zero, i.size, i.bytes)) = some (some (.agg #[.int .i64 0, .slice none 0 0, .slice none 0 0]), 3, 56) by kernel_rfl) rfl rfl rfl ((PE.f13).aT) (by assumption) (by omega) (by omega)) ?_)))))))
      rintro l53 w53 UZ
      have SQ := aB.kp (UZ.f15.f15.f15.f15.f15.f15.f15.f15.f15.f15.f15.f15.f15.f15.f15)
      refine fQ SQ (by kernel_rfl) ?_
      have Zp := UZ.f14.f5.f3
      have Zq := aB.Gw gK.symm Zp
      obtain ⟨AE, LP⟩ : ∃ q, q = rM ++ oU := ⟨_, rfl⟩
      have HA := Zq
      rw [← LP] at HA
      have hAl : AE.length = rM.length + s.put.length := by rw [LP, List.length_append, gK]
      have hAs : AE.map cO.says = rM.map cO.says ++ s.put := by rw [LP, List.map_append, bG]
      have WU : ∀ x ∈ AE, uD x.says := fun x hx => by
        rw [LP] at hx
        rcases List.mem_append.1 hx with hx | hx
        · exact hF2 x hx
        · exact Y4 x hx
      refine jg 6 rfl SQ (fun _ => iM ((HA).aT) underlying35 rfl) (pO (aj (bC ?_)))
      obtain ⟨R56, Zr, Zt⟩ := aB.Es (HA.f2.f2.f3)
      refine iw [(0, _), (4, _), (32, _), (33, _)] (fun (i : Nat) => [(34, .int .i64 (i : Int))]) (fun (i : Nat) W => i ≤ AE.length ∧ aB w0 W (dR lp2 G1 ((AE.take i).map cO.says) (0 + 1) • Row 101 3 l53 AE.length (AE.flatMap cO.enc) • je AE • R56)) (fun (i : Nat) => AE.length - i) (0) (Sub.cons rfl (Sub.cons rfl (Sub.cons rfl (Sub.cons rfl (Sub.nil _))))) (Sub.cons rfl (Sub.nil _)) ⟨by omega, Zt⟩ ?_
      rintro i w57 ⟨hi, HL⟩
      dsimp only [List.cons_append, List.nil_append]
      refine ay (ah (aX (eu rfl rfl) (aA (aj (ay (aO rfl (fun h5 => ?_) (fun h5 => ?_)))))))
      · (try simp only [aH] at h5)
        refine aP (aj (ay (bC (ay (ah ?_)))))
        obtain ⟨aaM, aaN, aaO, Zu⟩ := Rd.BL ((HL.f2).aT) (by omega)
        cases Zu
        refine aX (iV underlying35 sizeOf101 rfl rfl (by omega)) (aX (kJ (ys := [_, _, _]) ((HL.f2).aT) (by omega) underlying101 rfl sizeOf101 rfl (nZ cO.yG (by omega) default) rfl) ?_)
        have hkl : i < AE.length := by omega
        have hx : uD (AE.getD i default).says := WU _ (by rw [List.getD_eq_getElem?_getD, List.getElem?_eq_getElem hkl]; exact List.getElem_mem hkl)
        have hx1 : (AE.getD i default).dl.length ≤ 1024 := hx.2.2.1
        have hx2 : (AE.getD i default).il.length ≤ 1024 := hx.2.2.2
        refine jh (gJ (l := [_, _, _]) HL zeroValue101 rfl) ?_
        rintro _ w58 ⟨b58, rfl, Rf⟩
        refine aG (cZ 0 (l' := [_, _, _]) (us := [_, _, _]) Rf sizeOf101 rfl rfl rfl (aC (by first | rfl | assumption) (aC (by first | rfl | exact Rd.one (((Rf.f4).jZ hkl).1)) (aC (by first | rfl | exact Rd.one (((Rf.f4).jZ hkl).2)) bV))) rfl rfl) ?_
        rintro _ w59 WA
        refine aA (aj (ah (aN rfl (aX (bW underlying101 rfl sizeOf101 rfl rfl (WA).get.2) (bZ rfl func164 (um WA.f2 (fun W HW => ((HW.f3).jZ hkl).1) (fun W HW => ((HW.f3).jZ hkl).2) (by omega) (by omega)) ?_)))))
        rintro _ YR ⟨rfl, U0⟩
        have hadd : pz G1 ((AE.take i).map cO.says) (AE.getD i default).a (AE.getD i default).dl (AE.getD i default).il = 0 := by
          have hx3 : 0 < (AE.getD i default).dl.length + (AE.getD i default).il.length := hx.2.1
          have hx4 : 0 ≤ (AE.getD i default).a := hx.1
          have hx5 := oh G1 ((AE.take i).map cO.says)
          rw [List.length_map, List.length_take] at hx5
          unfold pz
          rw [if_neg (by omega), if_neg (by omega)]
        have HA2 := U0
        rw [Ba hadd (by decide), Bc hadd (by decide)] at HA2
        refine aA (aQ (aj (ah (aX (gy rfl rfl (by omega)) (aN rfl (aA ?_))))))
        refine fE (i + 1) ?_ ?_ ?_ ?_
        · exact (Sub.cons rfl (Sub.nil _))
        · exact (Sub.cons rfl (Sub.cons rfl (Sub.cons rfl (Sub.cons rfl (Sub.nil _)))))
        · (try dsimp only)
          first | done | exact ⟨by omega, by rw [zH hkl]; exact HA2.f2.right.f3.f3.f3⟩
        · (try dsimp only); omega
      · (try simp only [aH] at h5)
        refine eX (aY ?_)
        have hil : i = AE.length := by omega
        have HB := HL
        rw [hil, List.take_length] at HB
        subst Zr
        refine aY (bU (aj (ay (ah (aN rfl (bZ rfl func165 (uw HB) ?_))))))
        rintro _ w61 ⟨rfl, Xt⟩
        obtain ⟨WV, WW, WX⟩ := Gy G1 (AE.map cO.says)
        have HC := Xt
        rw [WV, WW, WX, hAs, lT (by intro hz; exact hp (List.append_eq_nil_iff.1 hz).2), ← hF3] at HC
        have Zv := HC.f5
        have Zw := aB.sZ Zv
        refine aA (aj (ah (aN rfl (bP rfl (bF 33 underlying37 rfl sizeOf35 rfl (aG (aS 33 (l' := [_, _, _, _, _, _, _, _, _, _, _, _, _, _, _, _, _, _, _, _, _, _, _, _, _, _, _, _, _, _, _, _, _, _]) Zw.f5 sizeOf35 rfl rfl (by first | rfl | assumption) rfl rfl) ?_))))))
        rintro _ w64 WI
        refine aA (fZ (.inr rfl) results96 ?_)
        rw [kM hp]
        exact aB.Dv (s := { s.jU (s.iO on) with put := [] }) (kM hp ▸ DF dF ⟨hF1, hF2, hF3⟩ hp hG1) rfl WI.f3.right.f3.right.f3.right.f9.right.f9.f9.f9.f5.f9.f7.f9.f9.f9
end
end Go.Proofs.YtgndbccogcofjaaGreatDoor
end
section
namespace Go.Proofs.YtgndbccogcofjaaGreatDoor
open Go.RowKit
open _root_.Go.Proofs.Tryz
section
variable {w0 w : World} {F : HP} {e : Nat} {s : bg}
theorem Em (H : aB w0 w (dw e s • F)) (hi : s.dP = false) : fO prog 24 #[.pointer (some ⟨e, 0, none⟩)] w fun v w' => ∃ q, v = .pointer (some ⟨q, 0, none⟩) ∧ aB w0 w' (dw e s • F) := by
 refine gB func24 ntmps24 ?_
 dsimp only [bf, Nat.reduceAdd]
 refine ay (ah (aV rfl (aA (aj (ay (ay (ah (aN rfl (bZ rfl func32 (kL H) ?_)))))))))
 rintro _ _ ⟨rfl, rfl⟩
 refine aA (aj (nN (aP (aj (ay ?_)))))
 obtain ⟨qG, qH, qI, qJ, qK, qL, qM, qN, oU, mZ, ng, ni, ny, nC, nD, nG, nH, nI, nJ, nK, dF, bG, gK, dH⟩ := (H).Bf
 have hwo := qB (dH.f11)
 simp only [List.all_cons, List.all_nil, Bool.and_true, Bool.and_eq_true] at hwo
 obtain ⟨o0, o1, o2, o3, o4, o5, o6, o7, o8, o9, oa⟩ := hwo
 have hon := (dH.f10).CS
 have hpl : s.put.length ≤ 16384 := by have h9 := dF.2.2.2.2.1; unfold dS at h9; omega
 refine ah (aN rfl (bP rfl (aX (bW underlying37 rfl sizeOf37 rfl rfl (dH).get.2) (jh (gJ (l := [_, _, _, _, _, _, _, _, _, _, _, _, _, _, _, _, _, _, _, _, _, _, _, _, _, _, _, _, _, _, _, _, _, _]) dH zeroValue37 rfl) ?_))))
 rintro _ w3 ⟨b3, rfl, H3⟩
 refine aG (cZ 0 (l' := [_, _, _, _, _, _, _, _, _, _, _, _, _, _, _, _, _, _, _, _, _, _, _, _, _, _, _, _, _, _, _, _, _, _]) (us := [_, _, _, _, _, _, _, _, _, _, _, _, _, _, _, _, _, _, _, _, _, _, _, _, _, _, _, _, _, _, _, _, _, _]) H3 sizeOf37 rfl rfl rfl (aC (by first | rfl | assumption) (aC (by first | rfl | assumption) (aC (by first | rfl | assumption) (aC (by first | rfl | assumption) (aC (by first | rfl | assumption) (aC (by first | rfl | assumption) (aC (by first | rfl | assumption) (aC (by first | rfl | assumption) (aC (by first | rfl | assumption) (aC (by first | rfl | assumption) (aC (by first | rfl | assumption) (aC (by first | rfl | assumption) (aC (by first | rfl | assumption) (aC (by first | rfl | assumption) (aC (by first | rfl | assumption) (aC (by first | rfl | assumption) (aC (by first | rfl | assumption) (aC (by first | rfl | assumption) (aC (by first | rfl | assumption) (aC (by first | rfl | assumption) (aC (by first | rfl | assumption) (aC (by first | rfl | assumption) (aC (by first | rfl | assumption) (aC (by first | rfl | assumption) (aC (by first | rfl | assumption) (aC (by first | rfl | assumption) (aC (by first | rfl | assumption) (aC (by first | rfl | assumption) (aC (by first | rfl | assumption) (aC (by first | rfl | assumption) (aC (by first | rfl | assumption) (aC (by first | rfl | assumption) (aC (by first | rfl | assumption) (aC (by first | rfl | exact Rd.one ((H3.f10).aT)) bV)))))))))))))))))))))))))))))))))) rfl rfl) ?_
 rintro _ w4 H4
 refine aA (aj (ay (ah (aN rfl (bP rfl (bF 0 underlying37 rfl sizeOf32 rfl (aX (qQ 0 (xs := [_, _, _, _, _, _, _, _, _, _, _]) underlying32 rfl sizeOf32 rfl rfl (H4.f2).get.2 rfl) (bZ rfl func44 (IQ H4.f7.f7.f7.f7.f7) ?_))))))))
 rintro _ w5 ⟨qb5, qr5, qw5, qt5, qm5, rfl, H5⟩
 refine bF 0 underlying37 rfl sizeOf32 rfl (aG (cZ 0 (l' := [_, _, _, _, _, _, _, _, _, _, _, _, _, _, _, _, _, _, _, _, _, _, _, _, _, _, _, _, _, _, _, _, _, _]) (us := [_, _, _, _, _, _, _, _, _, _, _]) H5.f11 sizeOf32 rfl rfl rfl (aC (by first | rfl | assumption) (aC (by first | rfl | assumption) (aC (by first | rfl | assumption) (aC (by first | rfl | assumption) (aC (by first | rfl | assumption) (aC (by first | rfl | assumption) (aC (by first | rfl | assumption) (aC (by first | rfl | assumption) (aC (by first | rfl | assumption) (aC (by first | rfl | assumption) (aC (by first | rfl | assumption) bV))))))))))) rfl rfl) ?_)
 rintro _ w6 H6
 have VT := H6.f5.right
 have Hd8 := VT.f2.right
 have Hd9 := Hd8.f2.right
 have Zx := Hd9.f2.right
 have JK := Zx.f2.right
 refine aA (aj (ay (ay (ah (aN rfl (bP rfl (bF 16 underlying37 rfl sizeOf4 rfl (dV underlying4 rfl (JK.f7).get.2 rfl (aA (aj (aO rfl (fun h => by exfalso; (try simp only [aH] at h); rw [hi] at h; simp at h) (fun h1 => ?_))))))))))))
 (try simp only [aH] at h1)
 refine aP (aj (ay (ah (aN rfl (bP rfl (bF 11 underlying37 rfl sizeOf33 rfl (dV underlying33 rfl (JK.f7).get.2 rfl (bZ rfl func45 (mQ JK.f8) ?_))))))))
 rintro _ w12 ⟨q12, rfl, wP⟩
 refine bF 11 underlying37 rfl sizeOf33 rfl (aG (aS 11 (l' := [_, _, _, _, _, _, _, _, _, _, _, _, _, _, _, _, _, _, _, _, _, _, _, _, _, _, _, _, _, _, _, _, _, _]) wP.f3 sizeOf33 rfl rfl (by first | rfl | assumption) rfl rfl) ?_)
 rintro _ MN uO
 have Rk := uO.f2.right
 refine aA (aj (ay (ah (aN rfl (bP rfl (bF 33 underlying37 rfl sizeOf35 rfl (dV underlying35 rfl (Rk.f8).get.2 rfl (bZ rfl func46 (uV Rk (fun W HW => (HW.f10).aT) hon (by omega)) ?_))))))))
 rintro u15 MO uf
 refine bF 33 underlying37 rfl sizeOf35 rfl (aG (aS 33 (l' := [_, _, _, _, _, _, _, _, _, _, _, _, _, _, _, _, _, _, _, _, _, _, _, _, _, _, _, _, _, _, _, _, _, _]) uf.f2 sizeOf35 rfl rfl (by first | rfl | exact Rd.one ((uf).aT)) rfl rfl) ?_)
 rintro _ w16 rZ
 have JL := rZ.f2.right
 refine aA (aj (ay (ah (aX (fF (zl := [.int .i64 0]) (pl := [(0, 0), (0, 0), (0, 1)]) [_] underlying106 zeroValue106 rfl (fun w => by kernel_rfl) rfl (.zero (zs := []) rfl (.zero (zs := []) rfl (.zero (zs := [.int .i64 0]) rfl .nil))) rfl) (jh (iL (l := [_]) JL rfl rfl) ?_)))))
 rintro _ Qc ⟨b18, rfl, zY⟩
 refine bF 12 underlying37 rfl sizeOf34 rfl (aG (aS 12 (l' := [_, _, _, _, _, _, _, _, _, _, _, _, _, _, _, _, _, _, _, _, _, _, _, _, _, _, _, _, _, _, _, _, _, _]) zY.f2 sizeOf34 rfl rfl (by first | rfl | assumption) rfl rfl) ?_)
 rintro _ Qe Au
 refine aA (aj (ay ?_))
 have Gz := Au.drew
 have uF := aB.kp (Gz.f13.f13.f13.f13.f13.f13.f13.f13.f13.f13.f13.f13.f13)
 refine yZ [1, 5] uF rfl (gV 0 rfl uF 12 underlying37 rfl sizeOf34 rfl (jk 1 rfl uF (fun W hW => jP underlying34 rfl ((Kp.h hW)).get.2 rfl) (iF 2 rfl uF rfl (jQ 3 rfl uF rfl (gV 4 rfl uF 12 underlying37 rfl sizeOf34 rfl (jk 5 rfl uF (fun W hW => jP underlying34 rfl ((Kp.h hW).f9).get.2 rfl) (kE 6 rfl (wW rfl func36 (Ei Gz.f10)) ?_)))))))
 rintro _ _ ⟨rfl, rfl⟩
 have Ag := aB.kp (Gz.f13.f13.f13.f13.f13.f13.f13.f13.f13.f13.f13.f13.f13)
 refine dQ Ag (fun W hW => (Kp.h hW).f13.f13.f13.f13.f13.f13.f13.f13.f13.f13.f13.f13.f13) ?_
 refine kE 7 rfl (wW rfl func47 (Dz Gz.f2)) ?_
 rintro _ QC oN
 have WZ := aB.kp (oN.f13.f13.f13.f13.f13.f13.f13.f13.f13.f13.f13.f13.f13)
 refine fQ WZ (by kernel_rfl) ?_
 refine pO (aj (ay (ah (aV rfl (aA (aj (aJ (aI (.inl rfl) results24 rfl ?_))))))))
 have Zy := oN.f13.f13.f13.f13.f7.f12.f12.f12.f12.f12.f13
 have Zz := aB.dG (s := s) dF bG Zy
 exact ⟨_, rfl, Zz.f2.right.f2.right⟩
end
end Go.Proofs.YtgndbccogcofjaaGreatDoor
end
section
namespace Go.Proofs.YtgndbccogcofjaaGreatDoor
open Go.RowKit
open _root_.Go.Proofs.Tryz
namespace bg
variable (s : bg)
def Rl (i j : Int) (b : Bool) : Int := if j ≤ i then 6 else s.ES i j b
def PG (i j : Int) (b : Bool) : bg := if j ≤ i then s else s.nR i j b
def Kw (n : Int) : Int := if n < 0 then s.Rl (qC s.c.L s.c.pt n) s.c.pt true else s.Rl s.c.pt (qC s.c.L s.c.pt n) false
def I9 (n : Int) : bg := if n < 0 then s.PG (qC s.c.L s.c.pt n) s.c.pt true else s.PG s.c.pt (qC s.c.L s.c.pt n) false
end bg
theorem LQ {w0 w : World} {F : HP} {e : Nat} {s : bg} (H : aB w0 w (dw e s • F)) : jV s := by
  obtain ⟨pb, pr, pw, pt, pm, ph, bl, pv, es, u0, u1, u2, u3, u4, u5, u6, u7, u8, u9, ua, h, _⟩ := H.Bf
  exact h
theorem yS {s : bg} (h : jV s) : -1000000 ≤ s.count ∧ s.count ≤ 1000000 := by
  have h := h.2.2.1
  unfold bg.count
  dsimp only
  by_cases h1 : s.given = true <;> by_cases h2 : s.arg < 0 <;> by_cases h3 : s.minus = true <;> simp only [h1, h2, h3, if_true, if_false, Bool.false_eq_true] <;> omega
section
variable {w0 w : World} {F : HP} {c e : Nat} {s : bg} {lv kv : Value} {l keys : List Int} {p m n nn i j : Int} {g back : Bool}
theorem Ja (H : aB w0 w (dB c (.cells #[.pointer (some ⟨e, 0, none⟩), lv, .int .i64 p, .int .i64 m, .int .i64 nn, .bool g, kv] 79 (0, 0)) • iU 21 .i32 lv l • F)) (hT : tZ w0) (h3 : -1000000 ≤ n) (h4 : n ≤ 1000000) : fO prog 121 #[.pointer (some ⟨c, 0, none⟩), .int .i64 n] w fun v w' => v = .int .i64 (qC l p n) ∧ aB w0 w' (dB c (.cells #[.pointer (some ⟨e, 0, none⟩), lv, .int .i64 p, .int .i64 m, .int .i64 nn, .bool g, kv] 79 (0, 0)) • iU 21 .i32 lv l • F) := by
 refine gB func121 ntmps121 ?_
 dsimp only [bf, Nat.reduceAdd]
 refine ay (ah (aV rfl (aA (aj (ay (ay (ah (aN rfl (aX (jS rfl rfl) (aA (aj (aO rfl (fun h1 => ?_) (fun h1 => ?_)))))))))))))
 ·(try simp only [aH] at h1)
  have hc := h1
  refine ay (ah (aN rfl (aN rfl (bP rfl (bF 2 underlying79 rfl sizeOf3 rfl (dV underlying3 rfl (H).get.2 rfl (aN rfl (bZ rfl func125 (Aj H.f2.f2 (Nv hT) (by omega)) ?_))))))))
  rintro _ w1 ⟨rfl, H1⟩
  refine aV rfl (aA (aj (aJ (aK (aI (.inl rfl) results121 rfl ?_)))))
  exact ⟨by unfold qC; rw [if_pos hc], H1⟩
 ·(try simp only [aH] at h1)
  have hc := h1
  refine aP (aj (ay (ah (aN rfl (aN rfl (bP rfl (bF 2 underlying79 rfl sizeOf3 rfl (dV underlying3 rfl (H).get.2 rfl (aN rfl (aX (KI rfl (by omega)) (bZ rfl func125 (Aj H.f2.f2 (I5 hT) (by omega)) ?_)))))))))))
  rintro _ w2 ⟨rfl, H2⟩
  refine aV rfl (aA (aj (aJ (aI (.inl rfl) results121 rfl ?_))))
  exact ⟨by unfold qC; rw [if_neg (by omega)], H2⟩
theorem yT (H : aB w0 w (dB c (.cells #[.pointer (some ⟨e, 0, none⟩), lv, .int .i64 p, .int .i64 m, .int .i64 nn, .bool g, kv] 79 (0, 0)) • dw e s • F)) : fO prog 141 #[.pointer (some ⟨c, 0, none⟩), .int .i64 i, .int .i64 j, .bool back] w fun v w' => v = .int .i64 (s.Rl i j back) ∧ aB w0 w' (dB c (.cells #[.pointer (some ⟨e, 0, none⟩), lv, .int .i64 p, .int .i64 m, .int .i64 nn, .bool g, kv] 79 (0, 0)) • dw e (s.PG i j back) • F) := by
 refine gB func141 ntmps141 ?_
 dsimp only [bf, Nat.reduceAdd]
 refine ay (ah (aV rfl (aA (aj (ay (ay (ah (aN rfl (aN rfl (aX (jS rfl rfl) (aA (aj (aO rfl (fun h1 => ?_) (fun h1 => ?_))))))))))))))
 ·(try simp only [aH] at h1)
  have hc := h1
  refine ay (ah (aV rfl (aA (aj (aJ (aK (aI (.inl rfl) results141 rfl ?_)))))))
  exact ⟨by unfold bg.Rl; rw [if_pos (by omega)], by unfold bg.PG; rw [if_pos (by omega)]; exact H.f2.f2⟩
 ·(try simp only [aH] at h1)
  have hc := h1
  refine aP (aj (ay (ah (aN rfl (bP rfl (bF 0 underlying79 rfl sizeOf26 rfl (dV underlying26 rfl (H).get.2 rfl (aN rfl (aN rfl (aN rfl (bZ rfl func202 (IZ H.f2) ?_)))))))))))
  rintro _ w1 ⟨rfl, H1⟩
  refine aV rfl (aA (aj (aJ (aI (.inl rfl) results141 rfl ?_))))
  exact ⟨by unfold bg.Rl; rw [if_neg (by omega)], by unfold bg.PG; rw [if_neg (by omega)]; exact H1.f2⟩
theorem E5 (H : aB w0 w (dB c (.cells #[.pointer (some ⟨e, 0, none⟩), lv, .int .i64 s.c.pt, .int .i64 m, .int .i64 nn, .bool g, kv] 79 (0, 0)) • iU 21 .i32 lv s.c.L • dw e s • F)) (hT : tZ w0) (h3 : -1000000 ≤ n) (h4 : n ≤ 1000000) : fO prog 142 #[.pointer (some ⟨c, 0, none⟩), .int .i64 n] w fun v w' => v = .int .i64 (s.Kw n) ∧ aB w0 w' (dB c (.cells #[.pointer (some ⟨e, 0, none⟩), lv, .int .i64 s.c.pt, .int .i64 m, .int .i64 nn, .bool g, kv] 79 (0, 0)) • iU 21 .i32 lv s.c.L • dw e (s.I9 n) • F) := by
 refine gB func142 ntmps142 ?_
 dsimp only [bf, Nat.reduceAdd]
 refine ay (ah (aV rfl (aA (aj (ay (ah (aN rfl (aN rfl (bZ rfl func121 (Ja H.f2.f2 hT (by omega) (by omega)) ?_)))))))))
 rintro _ w1 ⟨rfl, H1⟩
 refine aV rfl (aA (aj (ay (ay (ah (aN rfl (aX (eu rfl rfl) (aA (aj (aO rfl (fun h1 => ?_) (fun h1 => ?_)))))))))))
 ·(try simp only [aH] at h1)
  have hc := h1
  refine ay (ah (aN rfl (aN rfl (aN rfl (bP rfl (bF 2 underlying79 rfl sizeOf3 rfl (dV underlying3 rfl (H1).get.2 rfl (bZ rfl func141 (yT H1.f3.f2) ?_))))))))
  rintro _ w2 ⟨rfl, H2⟩
  refine aV rfl (aA (aj (aJ (aK (aI (.inl rfl) results142 rfl ?_)))))
  exact ⟨by unfold bg.Kw; rw [if_pos hc], by unfold bg.I9; rw [if_pos hc]; exact H2.f2.f3.f3⟩
 ·(try simp only [aH] at h1)
  have hc := h1
  refine aP (aj (ay (ah (aN rfl (aN rfl (bP rfl (bF 2 underlying79 rfl sizeOf3 rfl (dV underlying3 rfl (H1).get.2 rfl (aN rfl (bZ rfl func141 (yT H1.f3.f2) ?_))))))))))
  rintro _ w3 ⟨rfl, H3⟩
  refine aV rfl (aA (aj (aJ (aI (.inl rfl) results142 rfl ?_))))
  exact ⟨by unfold bg.Kw; rw [if_neg (by omega)], by unfold bg.I9; rw [if_neg (by omega)]; exact H3.f2.f3.f3⟩
def LU (w0 : World) (k : Nat) (keys : List Int) (s : bg) (x : Int) (t : bg) : Prop := ∀ (F : HP) (W : World) (c e : Nat) (lv kv : Value), aB w0 W (dB c (.cells #[.pointer (some ⟨e, 0, none⟩), lv, .int .i64 s.c.pt, .int .i64 s.c.mark, .int .i64 s.count, .bool s.given, kv] 79 (0, 0)) • iU 21 .i32 lv s.c.L • dw e s • F) → gW w0 F .i32 kv keys →
  fO prog k #[.pointer (some ⟨c, 0, none⟩)] W fun v W' => v = .int .i64 x ∧ aB w0 W' (dB c (.cells #[.pointer (some ⟨e, 0, none⟩), lv, .int .i64 s.c.pt, .int .i64 s.c.mark, .int .i64 s.count, .bool s.given, kv] 79 (0, 0)) • iU 21 .i32 lv s.c.L • dw e t • F)
theorem Jb {w0 : World} {keys : List Int} {s : bg} (hT : tZ w0) : LU w0 71 keys s (s.Kw s.count) (s.I9 s.count) := by
 intro F w c e lv kv H hk
 have hco := yS (LQ H.f3)
 refine gB func71 ntmps71 ?_
 dsimp only [bf, Nat.reduceAdd]
 refine ay (ah (aV rfl (aA (aj (ay (ah (aN rfl (aN rfl (bP rfl (bF 4 underlying79 rfl sizeOf3 rfl (dV underlying3 rfl (H).get.2 rfl (bZ rfl func142 (E5 H.f3.f3.f3 hT (by omega) (by omega)) ?_))))))))))))
 rintro _ w1 ⟨rfl, H1⟩
 refine aV rfl (aA (aj (aJ (aI (.inl rfl) results71 rfl ?_))))
 exact ⟨rfl, H1.f3.f3.f3⟩
theorem AP {w0 : World} {keys : List Int} {s : bg} (hT : tZ w0) : LU w0 72 keys s (s.Kw (-s.count)) (s.I9 (-s.count)) := by
 intro F w c e lv kv H hk
 have hco := yS (LQ H.f3)
 refine gB func72 ntmps72 ?_
 dsimp only [bf, Nat.reduceAdd]
 refine ay (ah (aV rfl (aA (aj (ay (ah (aN rfl (aN rfl (bP rfl (bF 4 underlying79 rfl sizeOf3 rfl (dV underlying3 rfl (H).get.2 rfl (aX (KI rfl (by omega)) (bZ rfl func142 (E5 H.f3.f3.f3 hT (by omega) (by omega)) ?_)))))))))))))
 rintro _ w1 ⟨rfl, H1⟩
 refine aV rfl (aA (aj (aJ (aI (.inl rfl) results72 rfl ?_))))
 exact ⟨rfl, H1.f3.f3.f3⟩
theorem Rn {w0 : World} {keys : List Int} {s : bg} : LU w0 78 keys s (s.mV) (s.ji) := by
 intro F w c e lv kv H hk
 have hco := yS (LQ H.f3)
 refine gB func78 ntmps78 ?_
 dsimp only [bf, Nat.reduceAdd]
 refine ay (ah (aV rfl (aA (aj (ay (ah (aN rfl (bP rfl (bF 0 underlying79 rfl sizeOf26 rfl (dV underlying26 rfl (H).get.2 rfl (bZ rfl func146 (I4 H.f3) ?_)))))))))))
 rintro _ w1 ⟨rfl, H1⟩
 refine aV rfl (aA (aj (aJ (aI (.inl rfl) results78 rfl ?_))))
 exact ⟨rfl, H1.f3.f3⟩
theorem Ky {w0 : World} {keys : List Int} {s : bg} : LU w0 49 keys s (s.qx s.c.L.length) (s.kZ s.c.L.length) := by
 intro F w c e lv kv H hk
 have hco := yS (LQ H.f3)
 refine gB func49 ntmps49 ?_
 dsimp only [bf, Nat.reduceAdd]
 refine ay (ah (aV rfl (aA (aj (ay ?_)))))
 have J4 := H.drew
 have jy := aB.kp (J4.f3.f3.f3)
 refine yZ [3, 7] jy rfl (iF 0 rfl jy rfl (jQ 1 rfl jy rfl (gV 2 rfl jy 0 underlying79 rfl sizeOf26 rfl (jk 3 rfl jy (fun W hW => jP underlying26 rfl ((Kp.h hW)).get.2 rfl) (iF 4 rfl jy rfl (jQ 5 rfl jy rfl (gV 6 rfl jy 1 underlying79 rfl sizeOf22 rfl (jk 7 rfl jy (fun W hW => jP underlying22 rfl ((Kp.h hW)).get.2 rfl) (jg 8 rfl jy (fun _ => jr ((J4.f2).aT) underlying22 rfl) (kE 9 rfl (wW rfl func42 (Ai J4.f3)) ?_))))))))))
 rintro _ w1 ⟨rfl, H1⟩
 have W9 := aB.kp (H1.f3.f3.f3)
 refine fQ W9 (by kernel_rfl) ?_
 refine jg 10 rfl W9 (fun _ => gG rfl) (pO (aj (aJ (aI (.inl rfl) results49 rfl ?_))))
 exact ⟨rfl, H1.f3.f3⟩
end
end Go.Proofs.YtgndbccogcofjaaGreatDoor
end
