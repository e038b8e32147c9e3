import Derived.Test.YtgndbccogcofjaaGreatDoorZ2
import Derived.Test.YtgndbccogcofjaaGreatDoorZ14
import Derived.Test.YtgndbccogcofjaaGreatDoorZ13
set_option linter.unusedSimpArgs false
set_option linter.unusedVariables false
/- Texts of mine, joined, their names in short: EdF EdCl EmW. -/
section
namespace Go.Proofs.YtgndbccogcofjaaGreatDoor
open Go.RowKit
open _root_.Go.Proofs.Tryz
theorem PE : (prog.info? 101).map (fun i => (i.zero, i.size, i.bytes)) = some (some (.agg #[.int .i64 0, .slice none 0 0, .slice none 0 0]), 3, 56) := by kernel_rfl
def JW (c : Nat) (g : List dQ) : HP := qo fun (x : Value × List bZ) => fact (x.2.map bZ.says = g) • dh c (.cells #[x.1] 35 (0, 0)) • Row 101 3 x.1 x.2.length (x.2.flatMap bZ.enc) • iL x.2
section
variable {w0 w : World} {F : HP} {e p c n m : Nat} {s : bD} {i j x : Int} {on : Bool} {v : Value} {g : List dQ} {qC es : List bZ} {xs : List Value}
theorem sS (H : aB w0 w F) (hr : Kt w0 F 3 v n xs) (hon : ∀ u ∈ xs, u.oneCell' = true) (hb : n ≤ 1099511627776) :
    eG prog 46 #[v] w fun v' w' => aB w0 w' (Row 101 3 v' n xs • F) := by
  obtain ⟨hlen, a, c, rfl, h2, h3, h4⟩ := hr w H
  refine fP func46 ntmps46 ?_
  dsimp only [aX, Nat.reduceAdd]
  refine ay (ah (aV rfl (aA (aj (ay (ay (ah (aO rfl (aW (sV underlying35 rfl rfl) (aA (aj (aQ rfl (fun h1 => ?_) (fun h1 => ?_)))))))))))))
  · (try simp only [aI] at h1)
    try (exfalso; first | contradiction | omega)
    all_goals
      refine ay (ah (aV rfl (aA (aj (aJ (aK (aH (.inl rfl) results46 rfl ?_)))))))
      obtain rfl : a = none := by simpa using h1
      obtain rfl : n = 0 := by
        rcases Nat.eq_zero_or_pos n with h | h
        · exact h
        · obtain ⟨b, o, e, _⟩ := h4 h; cases e
      obtain rfl : xs = [] := List.eq_nil_of_length_eq_zero (by omega)
      exact H.iP none
  · (try simp only [aI] at h1)
    try (exfalso; first | contradiction | omega)
    all_goals
      refine aS (aj (ay (ah (jo (AZ H underlying35 sizeOf101 zeroValue101) ?_))))
      rintro _ w1 H1
      refine aO rfl (jo (gK H1 underlying35 PE rfl rfl rfl (hr.under _ H1) hon (by omega) (by omega)) ?_)
      rintro _ w2 H2
      refine aV rfl (aA (aj (aJ (aH (.inl rfl) results46 rfl ?_))))
      exact H2.of_eq (by rw [Nat.zero_add, List.nil_append])
theorem aB.old (H : aB w0 w (JW c g • F)) : ∃ v es, es.map bZ.says = g ∧ aB w0 w (dh c (.cells #[v] 35 (0, 0)) • Row 101 3 v es.length (es.flatMap bZ.enc) • iL es • F) := by
  obtain ⟨⟨v, es⟩, H⟩ := H.kH
  obtain ⟨h, H⟩ := H.flat.fact
  exact ⟨v, es, h, H.of_eq (by simp only [bQ])⟩
theorem aB.NM (h : es.map bZ.says = g) (H : aB w0 w (dh c (.cells #[v] 35 (0, 0)) • Row 101 3 v es.length (es.flatMap bZ.enc) • iL es • F)) : aB w0 w (JW c g • F) :=
  aB.gy (v, es) (aB.deep (aB.je h (H.of_eq (by simp only [bQ]))))
theorem aB.PG (hg : g = []) (H : aB w0 w (dh c (.cells #[.slice none 0 0] 35 (0, 0)) • F)) : aB w0 w (JW c g • F) :=
  aB.NM (v := .slice none 0 0) (es := []) hg.symm ((H.nH none).of_eq (by unfold Cm; ac_rfl))
theorem aB.EG (hm : m = es.length) (H : aB w0 w (Row 101 3 v (qC.length + m) (qC.flatMap bZ.enc ++ es.flatMap bZ.enc) • iL qC • iL es • F)) : aB w0 w (Row 101 3 v (qC ++ es).length ((qC ++ es).flatMap bZ.enc) • iL (qC ++ es) • F) := by
  subst hm
  have h1 : aB w0 w (iL qC • iL es • Row 101 3 v (qC.length + es.length) (qC.flatMap bZ.enc ++ es.flatMap bZ.enc) • F) := H.of_eq (by ac_rfl)
  have h2 : aB w0 w (iL (qC ++ es) • Row 101 3 v (qC.length + es.length) (qC.flatMap bZ.enc ++ es.flatMap bZ.enc) • F) := h1.BM (nI (fun I h g => h.app g) _)
  exact h2.swap.of_eq (by rw [List.length_append, List.flatMap_append])
def NQ (s : bD) (on : Bool) (qC : List bZ) (G1 : List (List dQ)) : Prop := dO G1 [] + qC.length = dO s.here [] ∧ (∀ e ∈ qC, sD e.says) ∧ s.iH on = G1 ++ [qC.map bZ.says ++ s.put]
theorem Ld (hp : s.put ≠ []) (hn : on = false) : NQ s on [] s.here := by
  subst hn
  refine ⟨by simp, by simp, ?_⟩
  unfold bD.iH
  rw [if_neg hp, if_neg (by decide)]
  rfl
theorem EH : ∀ {G : List (List dQ)}, G ≠ [] → (G.dropLast.map List.length).sum + (G.getLastD []).length = (G.map List.length).sum := by
  intro G hG
  have h := List.dropLast_concat_getLast hG
  have h2 : G.getLastD [] = G.getLast hG := by rw [List.getLastD_eq_getLast?, List.getLast?_eq_some_getLast hG]; rfl
  rw [h2]
  conv => rhs; rw [← h]
  simp
theorem Gy (hp : s.put ≠ []) (hn : on = true) (hO : ∀ g ∈ s.here, ∀ e ∈ g, sD e) (h : qC.map bZ.says = s.here.getLastD []) : NQ s on qC s.here.dropLast := by
  subst hn
  have hlen : qC.length = (s.here.getLastD []).length := by rw [← h]; simp
  have hm : ∀ e ∈ qC, e.says ∈ s.here.getLastD [] := fun e he => by rw [← h]; exact List.mem_map.2 ⟨e, he, rfl⟩
  unfold NQ bD.iH
  rw [if_neg hp, if_pos rfl]
  by_cases h0 : s.here = []
  · rw [h0] at h hlen hm
    have : qC = [] := List.eq_nil_of_length_eq_zero (by simpa using hlen)
    subst this
    rw [h0]
    exact ⟨by simp, by simp, rfl⟩
  · have h2 : s.here.getLastD [] = s.here.getLast h0 := by rw [List.getLastD_eq_getLast?, List.getLast?_eq_some_getLast h0]; rfl
    refine ⟨?_, fun e he => hO _ (List.getLast_mem h0) _ (h2 ▸ hm e he), ?_⟩
    · have := EH h0
      show (s.here.dropLast.map List.length).sum + 0 + qC.length = (s.here.map List.length).sum + 0
      rw [hlen]; omega
    · rw [List.getLast?_eq_some_getLast h0, h, h2]
theorem Bv (G : List (List dQ)) : vS G [] = G.reverse := by unfold vS iG; rw [if_pos rfl]
theorem IY (G : List (List dQ)) : (vS G []).getD 0 [] = G.getLastD [] := by
  rw [Bv, List.getD_eq_getElem?_getD, List.getLastD_eq_getLast?]
  congr 1
  cases G.eq_nil_or_concat with
  | inl h => subst h; rfl
  | inr h => obtain ⟨L, b, rfl⟩ := h; simp
theorem NR {G : List (List dQ)} (h : Pe G [] 0) : (∀ g ∈ vS G [], ∀ e ∈ g, EB e) ∧ ∀ g ∈ vS G [], g.length ≤ 16384 := by
  rw [Bv]
  refine ⟨fun g hg => h.2.2.2.2.1 g (List.mem_reverse.1 hg), fun g hg => ?_⟩
  have h1 := Es (List.mem_reverse.1 hg)
  have h2 := h.2.1
  unfold dO at h2
  simp at h2; omega
theorem EI (G : List (List dQ)) (N : List dQ) : RD G N (0 + 1) = iG G N ∧ RF N (0 + 1) = [] ∧ Pg (0 + 1) = 0 := ⟨if_pos rfl, if_pos rfl, by unfold Pg; rw [if_neg (by decide)]; rfl⟩
theorem DC (G : List (List dQ)) : JB G [] = G.dropLast ∧ JC G [] = [] ∧ JD G [] 0 = 0 := by
  unfold JB JC JD iG
  by_cases h : G.length + ([] : List dQ).length = 0
  · have : G = [] := List.eq_nil_of_length_eq_zero (by simpa using h)
    subst this
    simp
  · rw [if_neg h, if_neg h, if_neg h, if_pos rfl]; simp
theorem IZ {s : bD} (h : s.put = []) : s.dI on = s := by unfold bD.dI; rw [if_pos h]
theorem jL {s : bD} (h : s.put ≠ []) : s.dI on = { s.jH (s.iH on) with put := [] } := by unfold bD.dI; rw [if_neg h]
theorem NS (G : List (List dQ)) (g : List dQ) : dO (G ++ [g]) [] = dO G [] + g.length := by unfold dO; simp
theorem Bz (h : jq s) {G1 : List (List dQ)} (hF : NQ s on qC G1) (hp : s.put ≠ []) (hG : ∀ g ∈ G1, ∀ e ∈ g, sD e) : jq (s.dI on) := by
  rw [jL hp]
  obtain ⟨h1, h2, h3, h4, h5, h6⟩ := h
  obtain ⟨f1, f2, f3⟩ := hF
  refine ⟨h1, h2, h3, by simp, ?_, ?_⟩
  · show dO (uO s.c.un s.c.place (s.iH on) s.c.place) [] ≤ 16384
    rw [fD, f3, NS]
    have := mW s.here s.put
    simp; omega
  · intro k g hg e he
    have hg' : g ∈ uO s.c.un s.c.place (s.iH on) k := hg
    by_cases hk : k = s.c.place
    · subst hk
      rw [fD, f3] at hg'
      rcases List.mem_append.1 hg' with hg' | hg'
      · exact hG g hg' e he
      · rw [List.mem_singleton.1 hg'] at he
        rcases List.mem_append.1 he with he | he
        · obtain ⟨q, hq, rfl⟩ := List.mem_map.1 he; exact f2 q hq
        · exact h4 e he
    · rw [qW _ _ hk] at hg'; exact h6 k g hg' e he
theorem yu {es : List bZ} {k : Nat} (hk : k < es.length) : (es.take (k + 1)).map bZ.says = (es.take k).map bZ.says ++ [(es.getD k default).says] := by
  rw [List.take_succ_eq_append_getElem hk, List.map_append, List.getD_eq_getElem?_getD, List.getElem?_eq_getElem hk]; rfl
theorem jT (H : aB w0 w (dw e s • F)) : eG prog 96 #[.pointer (some ⟨e, 0, none⟩), .bool on] w fun _ w' => aB w0 w' (dw e (s.dI on) • F) := by
  refine fP func96 ntmps96 ?_
  dsimp only [aX, Nat.reduceAdd]
  refine ay (ay ?_)
  obtain ⟨oW, oZ, pq, pz, pF, pG, pI, pJ, nO, lQ, lS, lT, lU, lV, lW, lX, lY, lZ, mg, mD, dD, bF, fK, dG⟩ := (H).zy
  have hput : dO s.here s.put ≤ 16384 := dD.2.2.2.2.1
  have hsp := mW s.here s.put
  have hO : ∀ g ∈ s.here, ∀ x ∈ g, sD x := dD.2.2.2.2.2 s.c.place
  have X6 : ∀ x ∈ nO, sD x.says := fun x hx => dD.2.2.2.1 _ (by rw [← bF]; exact List.mem_map.2 ⟨x, hx, rfl⟩)
  have Zo := (dG.f10).Au
  refine ah (aO rfl (bK rfl (aZ 33 underlying37 rfl sizeOf35 rfl (dP underlying35 rfl (dG).get.2 rfl (aW (gW ((dG.f9).aT) underlying35 rfl) (aW (gI rfl rfl) (aA (aj (aQ rfl (fun h1 => ?_) (fun h1 => ?_))))))))))
  · (try simp only [aI] at h1)
    refine aJ (aK (fF (.inl rfl) results96 ?_))
    rw [IZ (List.eq_nil_of_length_eq_zero (by omega))]
    exact aB.dF dD bF dG.f11.f11.f11.f11.f11.f11.f11.f11.f11.f11.f11
  · (try simp only [aI] at h1)
    have hp : s.put ≠ [] := by rintro hz; rw [hz] at h1; simp at h1
    refine aS (aj (ay (ah (aO rfl (dn rfl func160 (uh dG.f6.f5.f3) ?_)))))
    rintro _ w2 ⟨lp2, rfl, H2⟩
    refine aV rfl (aA (aj (ay (ah (jo (fJ (l := [_]) H2 zeroValue35 rfl) ?_)))))
    rintro _ w3 ⟨b3, rfl, H3⟩
    refine aA (aj (ay (ay ?_)))
    obtain ⟨R4, X7, HR4⟩ := aB.TI (H3.f2.f2)
    refine ah (aO rfl (aA (aj (aQ rfl (fun h2 => ?_) (fun h2 => ?_)))))
    · (try simp only [aI] at h2)
      have hn : on = true := h2
      refine ay (ay (ah (aO rfl (dn rfl func161 (zf HR4.f2) ?_))))
      rintro _ w5 ⟨bG5, rfl, H5⟩
      refine aA (aj (bg ?_))
      obtain ⟨_, _, _, _, k1, _⟩ := (H5.f2).qU
      obtain ⟨hB, hL⟩ := NR k1
      have HF0 := aB.je (q := (0 : Nat) = 0) rfl H5
      obtain ⟨R6, VR, Xg⟩ := aB.CP (HF0.f4.f2.f3)
      refine rX rfl (Gg bG5 hB hL) (fun j => fact (j = 0) • dh b3 (.cells #[.slice none 0 0] 35 (0, 0)) • R6) (fact False) (fun id => if id = 0 then JW b3 (s.here.getLastD []) • R6 else fact False) (Xg.f3.f3.f3.f3.f3.f3.comm) (by rfl) ?_ ?_ ?_ ?_
      · rintro l7 j Rw vs7 A7 ⟨u1, fs1, Vl, rfl, rfl⟩ G7 w7 H7
        try simp only [bQ, iO, ou] at H7
        refine ⟨rfl, ?_⟩
        dsimp only [Io]
        have HQ := (H7).Tz
        obtain rfl : j = 0 := (HQ.f3).fact.1
        have hon := (HQ.f2).Au
        have hlen1 : fs1.length ≤ 16384 := by
          have h9 := hL _ (qO (d := []) Rw)
          rw [← Vl] at h9
          simpa using h9
        refine ah (aV rfl (aA ?_))
        refine Il (HQ.g5) ?_
        intro G8 w8 H8
        try simp only [bQ] at H8
        refine bg (ay (ah (aO rfl (dn rfl func46 (sS H8 (fun W HW => (HW).aT) hon (by omega)) ?_))))
        rintro u9 w9 H9
        refine aG (aN 0 (l' := [_]) H9.f5 sizeOf35 rfl rfl (by first | rfl | exact Rd.one ((H9).aT)) rfl rfl) ?_
        rintro _ w10 ng
        refine aA (aj (fH ?_))
        refine uQ (by decide) ?_
        refine MX ?_
        rw [if_pos rfl]
        exact (aB.NM (Vl.trans (IY _)) ng.f3.right.f4.right.f3.f3.f3).deep
      · rintro D11 Ht wB
        have MH := wB.ed
        try simp only [bQ, iO, ou] at MH
        have Vm := MH.Jh
        have hz := (Vm.f3).fact.1
        rw [Bv, List.length_reverse] at hz
        have hg0 : s.here.getLastD [] = [] := by show (s.c.un s.c.place).getLastD [] = []; rw [List.eq_nil_of_length_eq_zero hz]; rfl
        have IK := Vm.f4
        have IL := aB.PG hg0 IK
        have PI := IL.f4.right
        subst VR
        subst X7
        refine aP (aj (ah (aO rfl (dn rfl func162 (vk PI.f4) ?_))))
        rintro _ MB ⟨u15, aaj, rfl, Zp, wC⟩
        have X8 := wC.right
        have Ik := X8.right
        have NJ := Ik.f4.right
        obtain ⟨X9, Ya, Yb⟩ := DC (s.c.un s.c.place)
        have HX := NJ
        rw [X9, Ya, Yb] at HX
        obtain ⟨ov, qC, Sm, HO⟩ := (HX.f2).old
        have hF := Gy hp hn hO Sm
        have hG1 : ∀ g ∈ s.here.dropLast, ∀ x ∈ g, sD x := fun g hg => hO g (List.dropLast_subset _ hg)
        obtain ⟨G1, Sr⟩ : ∃ q, q = (s.c.un s.c.place).dropLast := ⟨_, rfl⟩
        rw [show s.here.dropLast = (s.c.un s.c.place).dropLast from rfl] at hF hG1
        have Vo := HO
        rw [← Sr] at hF hG1 Vo
        refine aA (aj (ay ?_))
        obtain ⟨hF1, hF2, hF3⟩ := hF
        have hl1 : qC.length ≤ 16384 := by omega
        have hl2 : s.put.length ≤ 16384 := by omega
        refine ah (aO rfl (dn rfl func163 (oO Vo.f4 (by omega)) ?_))
        rintro _ Qh ⟨rfl, Aa⟩
        refine aA (aj (ay (ay ?_)))
        have Dz := Aa.drew
        have kK := aB.kp (Dz.f16.f16.f16.f16.f16.f16.f16.f16.f16.f16.f16.f16.f16.f16.f16.f16)
        refine xJ [0, 4] kK rfl (iV 0 rfl kK (fun W hW => jr underlying35 rfl ((Kp.h hW).f2).get.2 rfl) (iq 1 rfl kK rfl (jv 2 rfl kK rfl (fU 3 rfl kK 33 underlying37 rfl sizeOf35 rfl (iV 4 rfl kK (fun W hW => jr underlying35 rfl ((Kp.h hW).f7).get.2 rfl) (iq 7 rfl kK rfl (jB 5 rfl (gK Dz.f3 underlying35 (show (prog.info? 101).map (fun i => (i.zero, i.size, i.bytes)) = some (some (.agg #[.int .i64 0, .slice none 0 0, .slice none 0 0]), 3, 56) by kernel_rfl) rfl rfl rfl ((Dz.f14).aT) (by assumption) (by omega) (by omega)) ?_)))))))
        rintro Xl Qd wz
        have yP := aB.kp (wz.f16.f16.f16.f16.f16.f16.f16.f16.f16.f16.f16.f16.f16.f16.f16.f16)
        refine eX yP (by kernel_rfl) ?_
        have Yc := wz.f15.f5.f3
        have Yd := aB.EG fK.symm Yc
        obtain ⟨AE, JX⟩ : ∃ q, q = qC ++ nO := ⟨_, rfl⟩
        have HA := Yd
        rw [← JX] at HA
        have hAl : AE.length = qC.length + s.put.length := by rw [JX, List.length_append, fK]
        have hAs : AE.map bZ.says = qC.map bZ.says ++ s.put := by rw [JX, List.map_append, bF]
        have Vp : ∀ x ∈ AE, sD x.says := fun x hx => by
          rw [JX] at hx
          rcases List.mem_append.1 hx with hx | hx
          · exact hF2 x hx
          · exact X6 x hx
        refine iU 6 rfl yP (fun _ => gW ((HA).aT) underlying35 rfl) (oV (aj (bg ?_)))
        obtain ⟨R23, Ye, Yf⟩ := aB.CP (HA.f2.f2.f3)
        refine ig [(0, _), (4, _), (32, _), (33, _)] (fun (i : Nat) => [(34, .int .i64 (i : Int))]) (fun (i : Nat) W => i ≤ AE.length ∧ aB w0 W (dN lp2 G1 ((AE.take i).map bZ.says) (0 + 1) • Row 101 3 Xl AE.length (AE.flatMap bZ.enc) • iL AE • R23)) (fun (i : Nat) => AE.length - i) (0) (Sub.cons rfl (Sub.cons rfl (Sub.cons rfl (Sub.cons rfl (Sub.nil _))))) (Sub.cons rfl (Sub.nil _)) ⟨by omega, Yf⟩ ?_
        rintro i VH ⟨hi, HL⟩
        dsimp only [List.cons_append, List.nil_append]
        refine ay (ah (aW (eU rfl rfl) (aA (aj (ay (aQ rfl (fun h3 => ?_) (fun h3 => ?_)))))))
        · (try simp only [aI] at h3)
          refine aS (aj (ay (bg (ay (ah ?_)))))
          obtain ⟨aak, aal, aam, Yg⟩ := Rd.yX ((HL.f2).aT) (by omega)
          cases Yg
          refine aW (iK underlying35 sizeOf101 rfl rfl (by omega)) (aW (jG (ys := [_, _, _]) ((HL.f2).aT) (by omega) underlying101 rfl sizeOf101 rfl (mQ bZ.wU (by omega) default) rfl) ?_)
          have hkl : i < AE.length := by omega
          have hx : sD (AE.getD i default).says := Vp _ (by rw [List.getD_eq_getElem?_getD, List.getElem?_eq_getElem hkl]; exact List.getElem_mem hkl)
          have hx1 : (AE.getD i default).dl.length ≤ 1024 := hx.2.2.1
          have hx2 : (AE.getD i default).il.length ≤ 1024 := hx.2.2.2
          refine jo (fJ (l := [_, _, _]) HL zeroValue101 rfl) ?_
          rintro _ VI ⟨b25, rfl, Jt⟩
          refine aG (cO 0 (l' := [_, _, _]) (us := [_, _, _]) Jt sizeOf101 rfl rfl rfl (aC (by first | rfl | assumption) (aC (by first | rfl | exact Rd.one (((Jt.f4).jw hkl).1)) (aC (by first | rfl | exact Rd.one (((Jt.f4).jw hkl).2)) bP))) rfl rfl) ?_
          rintro _ Uh KC
          refine aA (aj (ah (aO rfl (aW (bW underlying101 rfl sizeOf101 rfl rfl (KC).get.2) (dn rfl func164 (rW KC.f2 (fun W HW => ((HW.f3).jw hkl).1) (fun W HW => ((HW.f3).jw hkl).2) (by omega) (by omega)) ?_)))))
          rintro _ Ui ⟨rfl, Oj⟩
          have hadd : og G1 ((AE.take i).map bZ.says) (AE.getD i default).a (AE.getD i default).dl (AE.getD i default).il = 0 := by
            have hx3 : 0 < (AE.getD i default).dl.length + (AE.getD i default).il.length := hx.2.1
            have hx4 : 0 ≤ (AE.getD i default).a := hx.1
            have hx5 := mW G1 ((AE.take i).map bZ.says)
            rw [List.length_map, List.length_take] at hx5
            unfold og
            rw [if_neg (by omega), if_neg (by omega)]
          have HA2 := Oj
          rw [zo hadd (by decide), zq hadd (by decide)] at HA2
          refine aA (aP (aj (ah (aW (fQ rfl rfl (by omega)) (aO rfl (aA ?_))))))
          refine fA (i + 1) ?_ ?_ ?_ ?_
          · exact (Sub.cons rfl (Sub.nil _))
          · exact (Sub.cons rfl (Sub.cons rfl (Sub.cons rfl (Sub.cons rfl (Sub.nil _)))))
          · (try dsimp only)
            first | done | exact ⟨by omega, by rw [yu hkl]; exact HA2.f2.right.f3.f3.f3⟩
          · (try dsimp only); omega
        · (try simp only [aI] at h3)
          refine fH (aY ?_)
          have hil : i = AE.length := by omega
          have HB := HL
          rw [hil, List.take_length] at HB
          subst Ye
          refine aY (bV (aj (ay (ah (aO rfl (dn rfl func165 (rZ HB) ?_))))))
          rintro _ VJ ⟨rfl, Ol⟩
          obtain ⟨Vq, Vr, Vs⟩ := EI G1 (AE.map bZ.says)
          have HC := Ol
          rw [Vq, Vr, Vs, hAs, kR (by intro hz; exact hp (List.append_eq_nil_iff.1 hz).2), ← hF3] at HC
          have RX := HC.f6
          have RY := aB.rC RX
          refine aA (aj (ah (aO rfl (bK rfl (aZ 33 underlying37 rfl sizeOf35 rfl (aG (aN 33 (l' := [_, _, _, _, _, _, _, _, _, _, _, _, _, _, _, _, _, _, _, _, _, _, _, _, _, _, _, _, _, _, _, _, _, _]) RY.f6 sizeOf35 rfl rfl (by first | rfl | assumption) rfl rfl) ?_))))))
          rintro _ Uj Hu
          refine aA ?_
          refine zk (.inr rfl) (Hu.f6) (fun w32 Ls => ?_)
          refine ⟨_, QN results96, ?_⟩
          rw [jL hp]
          exact aB.Bj (s := { s.jH (s.iH on) with put := [] }) (jL hp ▸ Bz dD ⟨hF1, hF2, hF3⟩ hp hG1) rfl Ls.f3.right.f3.right.f3.right.f9.right.f9.f9.f9.f5.f9.f7.f9.f9.f9
      · rintro D w H; exact absurd H.swap.fact.1 id
      · rintro id D33 VK Hw
        refine Decidable.byCases (fun hid : id = 0 => ?_) (fun hid => by rw [if_neg hid] at Hw; exact absurd Hw.swap.fact.1 fun h => h)
        subst hid
        rw [if_pos rfl] at Hw
        have Vt := Hw.ed
        try simp only [bQ, iO, ou] at Vt
        have Yh := Vt.Jh
        subst VR
        subst X7
        refine bV (aj (ah (aO rfl (dn rfl func162 (vk Yh.f4) ?_))))
        rintro _ Wq ⟨u34, aan, rfl, Zq, Om⟩
        have Yi := Om.right
        have Yj := Yi.right
        have Sv := Yj.f3.right
        obtain ⟨X9, Ya, Yb⟩ := DC (s.c.un s.c.place)
        have HX := Sv
        rw [X9, Ya, Yb] at HX
        obtain ⟨ov, qC, Sm, HO⟩ := (HX.f3).old
        have hF := Gy hp hn hO Sm
        have hG1 : ∀ g ∈ s.here.dropLast, ∀ x ∈ g, sD x := fun g hg => hO g (List.dropLast_subset _ hg)
        obtain ⟨G1, Sr⟩ : ∃ q, q = (s.c.un s.c.place).dropLast := ⟨_, rfl⟩
        rw [show s.here.dropLast = (s.c.un s.c.place).dropLast from rfl] at hF hG1
        have Vo := HO
        rw [← Sr] at hF hG1 Vo
        refine aA (aj (ay ?_))
        obtain ⟨hF1, hF2, hF3⟩ := hF
        have hl1 : qC.length ≤ 16384 := by omega
        have hl2 : s.put.length ≤ 16384 := by omega
        refine ah (aO rfl (dn rfl func163 (oO Vo.f4 (by omega)) ?_))
        rintro _ Ul ⟨rfl, Ri⟩
        refine aA (aj (ay (ay ?_)))
        have NT := Ri.drew
        have vZ := aB.kp (NT.f16.f16.f16.f16.f16.f16.f16.f16.f16.f16.f16.f16.f16.f16.f16.f16)
        refine xJ [0, 4] vZ rfl (iV 0 rfl vZ (fun W hW => jr underlying35 rfl ((Kp.h hW).f2).get.2 rfl) (iq 1 rfl vZ rfl (jv 2 rfl vZ rfl (fU 3 rfl vZ 33 underlying37 rfl sizeOf35 rfl (iV 4 rfl vZ (fun W hW => jr underlying35 rfl ((Kp.h hW).f7).get.2 rfl) (iq 7 rfl vZ rfl (jB 5 rfl (gK NT.f3 underlying35 (show (prog.info? 101).map (fun i => (i.zero, i.size, i.bytes)) = some (some (.agg #[.int .i64 0, .slice none 0 0, .slice none 0 0]), 3, 56) by kernel_rfl) rfl rfl rfl ((NT.f14).aT) (by assumption) (by omega) (by omega)) ?_)))))))
        rintro l39 YS VL
        have QD := aB.kp (VL.f16.f16.f16.f16.f16.f16.f16.f16.f16.f16.f16.f16.f16.f16.f16.f16)
        refine eX QD (by kernel_rfl) ?_
        have Yk := VL.f15.f5.f3
        have Yl := aB.EG fK.symm Yk
        obtain ⟨AE, JX⟩ : ∃ q, q = qC ++ nO := ⟨_, rfl⟩
        have HA := Yl
        rw [← JX] at HA
        have hAl : AE.length = qC.length + s.put.length := by rw [JX, List.length_append, fK]
        have hAs : AE.map bZ.says = qC.map bZ.says ++ s.put := by rw [JX, List.map_append, bF]
        have Vp : ∀ x ∈ AE, sD x.says := fun x hx => by
          rw [JX] at hx
          rcases List.mem_append.1 hx with hx | hx
          · exact hF2 x hx
          · exact X6 x hx
        refine iU 6 rfl QD (fun _ => gW ((HA).aT) underlying35 rfl) (oV (aj (bg ?_)))
        obtain ⟨R42, Ym, Yn⟩ := aB.CP (HA.f2.f2.f3)
        refine ig [(0, _), (4, _), (32, _), (33, _)] (fun (i : Nat) => [(34, .int .i64 (i : Int))]) (fun (i : Nat) W => i ≤ AE.length ∧ aB w0 W (dN lp2 G1 ((AE.take i).map bZ.says) (0 + 1) • Row 101 3 l39 AE.length (AE.flatMap bZ.enc) • iL AE • R42)) (fun (i : Nat) => AE.length - i) (0) (Sub.cons rfl (Sub.cons rfl (Sub.cons rfl (Sub.cons rfl (Sub.nil _))))) (Sub.cons rfl (Sub.nil _)) ⟨by omega, Yn⟩ ?_
        rintro i Wu ⟨hi, HL⟩
        dsimp only [List.cons_append, List.nil_append]
        refine ay (ah (aW (eU rfl rfl) (aA (aj (ay (aQ rfl (fun h4 => ?_) (fun h4 => ?_)))))))
        · (try simp only [aI] at h4)
          refine aS (aj (ay (bg (ay (ah ?_)))))
          obtain ⟨aao, aap, aaq, Yo⟩ := Rd.yX ((HL.f2).aT) (by omega)
          cases Yo
          refine aW (iK underlying35 sizeOf101 rfl rfl (by omega)) (aW (jG (ys := [_, _, _]) ((HL.f2).aT) (by omega) underlying101 rfl sizeOf101 rfl (mQ bZ.wU (by omega) default) rfl) ?_)
          have hkl : i < AE.length := by omega
          have hx : sD (AE.getD i default).says := Vp _ (by rw [List.getD_eq_getElem?_getD, List.getElem?_eq_getElem hkl]; exact List.getElem_mem hkl)
          have hx1 : (AE.getD i default).dl.length ≤ 1024 := hx.2.2.1
          have hx2 : (AE.getD i default).il.length ≤ 1024 := hx.2.2.2
          refine jo (fJ (l := [_, _, _]) HL zeroValue101 rfl) ?_
          rintro _ YV ⟨b44, rfl, Rj⟩
          refine aG (cO 0 (l' := [_, _, _]) (us := [_, _, _]) Rj sizeOf101 rfl rfl rfl (aC (by first | rfl | assumption) (aC (by first | rfl | exact Rd.one (((Rj.f4).jw hkl).1)) (aC (by first | rfl | exact Rd.one (((Rj.f4).jw hkl).2)) bP))) rfl rfl) ?_
          rintro _ VO Qk
          refine aA (aj (ah (aO rfl (aW (bW underlying101 rfl sizeOf101 rfl rfl (Qk).get.2) (dn rfl func164 (rW Qk.f2 (fun W HW => ((HW.f3).jw hkl).1) (fun W HW => ((HW.f3).jw hkl).2) (by omega) (by omega)) ?_)))))
          rintro _ YW ⟨rfl, Um⟩
          have hadd : og G1 ((AE.take i).map bZ.says) (AE.getD i default).a (AE.getD i default).dl (AE.getD i default).il = 0 := by
            have hx3 : 0 < (AE.getD i default).dl.length + (AE.getD i default).il.length := hx.2.1
            have hx4 : 0 ≤ (AE.getD i default).a := hx.1
            have hx5 := mW G1 ((AE.take i).map bZ.says)
            rw [List.length_map, List.length_take] at hx5
            unfold og
            rw [if_neg (by omega), if_neg (by omega)]
          have HA2 := Um
          rw [zo hadd (by decide), zq hadd (by decide)] at HA2
          refine aA (aP (aj (ah (aW (fQ rfl rfl (by omega)) (aO rfl (aA ?_))))))
          refine fA (i + 1) ?_ ?_ ?_ ?_
          · exact (Sub.cons rfl (Sub.nil _))
          · exact (Sub.cons rfl (Sub.cons rfl (Sub.cons rfl (Sub.cons rfl (Sub.nil _)))))
          · (try dsimp only)
            first | done | exact ⟨by omega, by rw [yu hkl]; exact HA2.f2.right.f3.f3.f3⟩
          · (try dsimp only); omega
        · (try simp only [aI] at h4)
          refine fH (aY ?_)
          have hil : i = AE.length := by omega
          have HB := HL
          rw [hil, List.take_length] at HB
          subst Ym
          refine aY (bV (aj (ay (ah (aO rfl (dn rfl func165 (rZ HB) ?_))))))
          rintro _ YX ⟨rfl, Tj⟩
          obtain ⟨Vq, Vr, Vs⟩ := EI G1 (AE.map bZ.says)
          have HC := Tj
          rw [Vq, Vr, Vs, hAs, kR (by intro hz; exact hp (List.append_eq_nil_iff.1 hz).2), ← hF3] at HC
          have Yp := HC.f6
          have Yq := aB.rC Yp
          refine aA (aj (ah (aO rfl (bK rfl (aZ 33 underlying37 rfl sizeOf35 rfl (aG (aN 33 (l' := [_, _, _, _, _, _, _, _, _, _, _, _, _, _, _, _, _, _, _, _, _, _, _, _, _, _, _, _, _, _, _, _, _, _]) Yq.f6 sizeOf35 rfl rfl (by first | rfl | assumption) rfl rfl) ?_))))))
          rintro _ Zh TA
          refine aA ?_
          refine zk (.inr rfl) (TA.f6) (fun Zi RZ => ?_)
          refine ⟨_, QN results96, ?_⟩
          rw [jL hp]
          exact aB.Bj (s := { s.jH (s.iH on) with put := [] }) (jL hp ▸ Bz dD ⟨hF1, hF2, hF3⟩ hp hG1) rfl RZ.f3.right.f3.right.f3.right.f9.right.f9.f9.f9.f5.f9.f7.f9.f9.f9
    · (try simp only [aI] at h2)
      have hn : on = false := h2
      obtain ⟨ov, qC, G1, hF, hG1, HF⟩ : ∃ ov qC G1, NQ s on qC G1 ∧ (∀ g ∈ G1, ∀ x ∈ g, sD x) ∧ aB w0 w3 (dh b3 (.cells #[ov] 35 (0, 0)) • Row 101 3 ov qC.length (qC.flatMap bZ.enc) • iL qC • dN lp2 G1 [] 0 • R4) :=
        ⟨.slice none 0 0, [], s.here, Ld hp hn, hO, (aB.nH HR4.f2.f2 none).of_eq (by unfold Cm; ac_rfl)⟩
      subst X7
      refine aS (aj (ay ?_))
      obtain ⟨hF1, hF2, hF3⟩ := hF
      have hl1 : qC.length ≤ 16384 := by omega
      have hl2 : s.put.length ≤ 16384 := by omega
      refine ah (aO rfl (dn rfl func163 (oO HF.f4 (by omega)) ?_))
      rintro _ Zj ⟨rfl, Qx⟩
      refine aA (aj (ay (ay ?_)))
      have NU := Qx.drew
      have wo := aB.kp (NU.f15.f15.f15.f15.f15.f15.f15.f15.f15.f15.f15.f15.f15.f15.f15)
      refine xJ [0, 4] wo rfl (iV 0 rfl wo (fun W hW => jr underlying35 rfl ((Kp.h hW).f2).get.2 rfl) (iq 1 rfl wo rfl (jv 2 rfl wo rfl (fU 3 rfl wo 33 underlying37 rfl sizeOf35 rfl (iV 4 rfl wo (fun W hW => jr underlying35 rfl ((Kp.h hW).f6).get.2 rfl) (iq 7 rfl wo rfl (jB 5 rfl (gK NU.f3 underlying35 (show (prog.info? 101).map (fun i => (i.zero, i.size, i.bytes)) = some (some (.agg #[.int .i64 0, .slice none 0 0, .slice none 0 0]), 3, 56) by kernel_rfl) rfl rfl rfl ((NU.f13).aT) (by assumption) (by omega) (by omega)) ?_)))))))
      rintro l53 Zk TB
      have QE := aB.kp (TB.f15.f15.f15.f15.f15.f15.f15.f15.f15.f15.f15.f15.f15.f15.f15)
      refine eX QE (by kernel_rfl) ?_
      have Yr := TB.f14.f5.f3
      have Yt := aB.EG fK.symm Yr
      obtain ⟨AE, JX⟩ : ∃ q, q = qC ++ nO := ⟨_, rfl⟩
      have HA := Yt
      rw [← JX] at HA
      have hAl : AE.length = qC.length + s.put.length := by rw [JX, List.length_append, fK]
      have hAs : AE.map bZ.says = qC.map bZ.says ++ s.put := by rw [JX, List.map_append, bF]
      have Vp : ∀ x ∈ AE, sD x.says := fun x hx => by
        rw [JX] at hx
        rcases List.mem_append.1 hx with hx | hx
        · exact hF2 x hx
        · exact X6 x hx
      refine iU 6 rfl QE (fun _ => gW ((HA).aT) underlying35 rfl) (oV (aj (bg ?_)))
      obtain ⟨R56, Yu, Yv⟩ := aB.CP (HA.f2.f2.f3)
      refine ig [(0, _), (4, _), (32, _), (33, _)] (fun (i : Nat) => [(34, .int .i64 (i : Int))]) (fun (i : Nat) W => i ≤ AE.length ∧ aB w0 W (dN lp2 G1 ((AE.take i).map bZ.says) (0 + 1) • Row 101 3 l53 AE.length (AE.flatMap bZ.enc) • iL AE • R56)) (fun (i : Nat) => AE.length - i) (0) (Sub.cons rfl (Sub.cons rfl (Sub.cons rfl (Sub.cons rfl (Sub.nil _))))) (Sub.cons rfl (Sub.nil _)) ⟨by omega, Yv⟩ ?_
      rintro i w57 ⟨hi, HL⟩
      dsimp only [List.cons_append, List.nil_append]
      refine ay (ah (aW (eU rfl rfl) (aA (aj (ay (aQ rfl (fun h5 => ?_) (fun h5 => ?_)))))))
      · (try simp only [aI] at h5)
        refine aS (aj (ay (bg (ay (ah ?_)))))
        obtain ⟨aar, aas, aat, Yw⟩ := Rd.yX ((HL.f2).aT) (by omega)
        cases Yw
        refine aW (iK underlying35 sizeOf101 rfl rfl (by omega)) (aW (jG (ys := [_, _, _]) ((HL.f2).aT) (by omega) underlying101 rfl sizeOf101 rfl (mQ bZ.wU (by omega) default) rfl) ?_)
        have hkl : i < AE.length := by omega
        have hx : sD (AE.getD i default).says := Vp _ (by rw [List.getD_eq_getElem?_getD, List.getElem?_eq_getElem hkl]; exact List.getElem_mem hkl)
        have hx1 : (AE.getD i default).dl.length ≤ 1024 := hx.2.2.1
        have hx2 : (AE.getD i default).il.length ≤ 1024 := hx.2.2.2
        refine jo (fJ (l := [_, _, _]) HL zeroValue101 rfl) ?_
        rintro _ Zl ⟨b58, rfl, Pz⟩
        refine aG (cO 0 (l' := [_, _, _]) (us := [_, _, _]) Pz sizeOf101 rfl rfl rfl (aC (by first | rfl | assumption) (aC (by first | rfl | exact Rd.one (((Pz.f4).jw hkl).1)) (aC (by first | rfl | exact Rd.one (((Pz.f4).jw hkl).2)) bP))) rfl rfl) ?_
        rintro _ w59 Va
        refine aA (aj (ah (aO rfl (aW (bW underlying101 rfl sizeOf101 rfl rfl (Va).get.2) (dn rfl func164 (rW Va.f2 (fun W HW => ((HW.f3).jw hkl).1) (fun W HW => ((HW.f3).jw hkl).2) (by omega) (by omega)) ?_)))))
        rintro _ XP ⟨rfl, TD⟩
        have hadd : og G1 ((AE.take i).map bZ.says) (AE.getD i default).a (AE.getD i default).dl (AE.getD i default).il = 0 := by
          have hx3 : 0 < (AE.getD i default).dl.length + (AE.getD i default).il.length := hx.2.1
          have hx4 : 0 ≤ (AE.getD i default).a := hx.1
          have hx5 := mW G1 ((AE.take i).map bZ.says)
          rw [List.length_map, List.length_take] at hx5
          unfold og
          rw [if_neg (by omega), if_neg (by omega)]
        have HA2 := TD
        rw [zo hadd (by decide), zq hadd (by decide)] at HA2
        refine aA (aP (aj (ah (aW (fQ rfl rfl (by omega)) (aO rfl (aA ?_))))))
        refine fA (i + 1) ?_ ?_ ?_ ?_
        · exact (Sub.cons rfl (Sub.nil _))
        · exact (Sub.cons rfl (Sub.cons rfl (Sub.cons rfl (Sub.cons rfl (Sub.nil _)))))
        · (try dsimp only)
          first | done | exact ⟨by omega, by rw [yu hkl]; exact HA2.f2.right.f3.f3.f3⟩
        · (try dsimp only); omega
      · (try simp only [aI] at h5)
        refine fH (aY ?_)
        have hil : i = AE.length := by omega
        have HB := HL
        rw [hil, List.take_length] at HB
        subst Yu
        refine aY (bV (aj (ay (ah (aO rfl (dn rfl func165 (rZ HB) ?_))))))
        rintro _ w61 ⟨rfl, VY⟩
        obtain ⟨Vq, Vr, Vs⟩ := EI G1 (AE.map bZ.says)
        have HC := VY
        rw [Vq, Vr, Vs, hAs, kR (by intro hz; exact hp (List.append_eq_nil_iff.1 hz).2), ← hF3] at HC
        have Yx := HC.f5
        have Yy := aB.rC Yx
        refine aA (aj (ah (aO rfl (bK rfl (aZ 33 underlying37 rfl sizeOf35 rfl (aG (aN 33 (l' := [_, _, _, _, _, _, _, _, _, _, _, _, _, _, _, _, _, _, _, _, _, _, _, _, _, _, _, _, _, _, _, _, _, _]) Yy.f5 sizeOf35 rfl rfl (by first | rfl | assumption) rfl rfl) ?_))))))
        rintro _ Zm Vg
        refine aA (fF (.inr rfl) results96 ?_)
        rw [jL hp]
        exact aB.Bj (s := { s.jH (s.iH on) with put := [] }) (jL hp ▸ Bz dD ⟨hF1, hF2, hF3⟩ hp hG1) rfl Vg.f3.right.f3.right.f3.right.f9.right.f9.f9.f9.f5.f9.f7.f9.f9.f9
end
end Go.Proofs.YtgndbccogcofjaaGreatDoor
end
section
namespace Go.Proofs.YtgndbccogcofjaaGreatDoor
open Go.RowKit
open _root_.Go.Proofs.Tryz
section
variable {w0 w : World} {F : HP} {e : Nat} {s : bD}
theorem CJ (H : aB w0 w (dw e s • F)) (hi : s.inn = false) : eG prog 24 #[.pointer (some ⟨e, 0, none⟩)] w fun v w' => ∃ q, v = .pointer (some ⟨q, 0, none⟩) ∧ aB w0 w' (dw e s • F) := by
 refine fP func24 ntmps24 ?_
 dsimp only [aX, Nat.reduceAdd]
 refine ay (ah (aV rfl (aA (aj (ay (ay (ah (aO rfl (dn rfl func32 (jJ H) ?_)))))))))
 rintro _ _ ⟨rfl, rfl⟩
 refine aA (aj (nV (aS (aj (ay ?_)))))
 obtain ⟨oW, oZ, pq, pz, pF, pG, pI, pJ, nO, lQ, lS, lT, lU, lV, lW, lX, lY, lZ, mg, mD, dD, bF, fK, dG⟩ := (H).zy
 have hwo := oU (dG.f11)
 simp only [List.all_cons, List.all_nil, Bool.and_true, Bool.and_eq_true] at hwo
 obtain ⟨o0, o1, o2, o3, o4, o5, o6, o7, o8, o9, oa⟩ := hwo
 have hon := (dG.f10).Au
 have hpl : s.put.length ≤ 16384 := by have h9 := dD.2.2.2.2.1; unfold dO at h9; omega
 refine ah (aO rfl (bK rfl (aW (bW underlying37 rfl sizeOf37 rfl rfl (dG).get.2) (jo (fJ (l := [_, _, _, _, _, _, _, _, _, _, _, _, _, _, _, _, _, _, _, _, _, _, _, _, _, _, _, _, _, _, _, _, _, _]) dG zeroValue37 rfl) ?_))))
 rintro _ w3 ⟨b3, rfl, H3⟩
 refine aG (cO 0 (l' := [_, _, _, _, _, _, _, _, _, _, _, _, _, _, _, _, _, _, _, _, _, _, _, _, _, _, _, _, _, _, _, _, _, _]) (us := [_, _, _, _, _, _, _, _, _, _, _, _, _, _, _, _, _, _, _, _, _, _, _, _, _, _, _, _, _, _, _, _, _, _]) H3 sizeOf37 rfl rfl rfl (aC (by first | rfl | assumption) (aC (by first | rfl | assumption) (aC (by first | rfl | assumption) (aC (by first | rfl | assumption) (aC (by first | rfl | assumption) (aC (by first | rfl | assumption) (aC (by first | rfl | assumption) (aC (by first | rfl | assumption) (aC (by first | rfl | assumption) (aC (by first | rfl | assumption) (aC (by first | rfl | assumption) (aC (by first | rfl | assumption) (aC (by first | rfl | assumption) (aC (by first | rfl | assumption) (aC (by first | rfl | assumption) (aC (by first | rfl | assumption) (aC (by first | rfl | assumption) (aC (by first | rfl | assumption) (aC (by first | rfl | assumption) (aC (by first | rfl | assumption) (aC (by first | rfl | assumption) (aC (by first | rfl | assumption) (aC (by first | rfl | assumption) (aC (by first | rfl | assumption) (aC (by first | rfl | assumption) (aC (by first | rfl | assumption) (aC (by first | rfl | assumption) (aC (by first | rfl | assumption) (aC (by first | rfl | assumption) (aC (by first | rfl | assumption) (aC (by first | rfl | assumption) (aC (by first | rfl | assumption) (aC (by first | rfl | assumption) (aC (by first | rfl | exact Rd.one ((H3.f10).aT)) bP)))))))))))))))))))))))))))))))))) rfl rfl) ?_
 rintro _ w4 H4
 refine aA (aj (ay (ah (aO rfl (bK rfl (aZ 0 underlying37 rfl sizeOf32 rfl (aW (pU 0 (xs := [_, _, _, _, _, _, _, _, _, _, _]) underlying32 rfl sizeOf32 rfl rfl (H4.f2).get.2 rfl) (dn rfl func44 (Gl H4.f7.f7.f7.f7.f7) ?_))))))))
 rintro _ w5 ⟨qb5, qr5, qw5, qt5, qm5, rfl, H5⟩
 refine aZ 0 underlying37 rfl sizeOf32 rfl (aG (cO 0 (l' := [_, _, _, _, _, _, _, _, _, _, _, _, _, _, _, _, _, _, _, _, _, _, _, _, _, _, _, _, _, _, _, _, _, _]) (us := [_, _, _, _, _, _, _, _, _, _, _]) H5.f11 sizeOf32 rfl rfl rfl (aC (by first | rfl | assumption) (aC (by first | rfl | assumption) (aC (by first | rfl | assumption) (aC (by first | rfl | assumption) (aC (by first | rfl | assumption) (aC (by first | rfl | assumption) (aC (by first | rfl | assumption) (aC (by first | rfl | assumption) (aC (by first | rfl | assumption) (aC (by first | rfl | assumption) (aC (by first | rfl | assumption) bP))))))))))) rfl rfl) ?_)
 rintro _ w6 H6
 have UG := H6.f5.right
 have Hd8 := UG.f2.right
 have Hd9 := Hd8.f2.right
 have Yz := Hd9.f2.right
 have Ij := Yz.f2.right
 refine aA (aj (ay (ay (ah (aO rfl (bK rfl (aZ 16 underlying37 rfl sizeOf4 rfl (dP underlying4 rfl (Ij.f7).get.2 rfl (aA (aj (aQ rfl (fun h => by exfalso; (try simp only [aI] at h); rw [hi] at h; simp at h) (fun h1 => ?_))))))))))))
 (try simp only [aI] at h1)
 refine aS (aj (ay (ah (aO rfl (bK rfl (aZ 11 underlying37 rfl sizeOf33 rfl (dP underlying33 rfl (Ij.f7).get.2 rfl (dn rfl func45 (lI Ij.f8) ?_))))))))
 rintro _ w12 ⟨q12, rfl, vM⟩
 refine aZ 11 underlying37 rfl sizeOf33 rfl (aG (aN 11 (l' := [_, _, _, _, _, _, _, _, _, _, _, _, _, _, _, _, _, _, _, _, _, _, _, _, _, _, _, _, _, _, _, _, _, _]) vM.f3 sizeOf33 rfl rfl (by first | rfl | assumption) rfl rfl) ?_)
 rintro _ Me uX
 have PI := uX.f2.right
 refine aA (aj (ay (ah (aO rfl (bK rfl (aZ 33 underlying37 rfl sizeOf35 rfl (dP underlying35 rfl (PI.f8).get.2 rfl (dn rfl func46 (sS PI (fun W HW => (HW.f10).aT) hon (by omega)) ?_))))))))
 rintro u15 MB wC
 refine aZ 33 underlying37 rfl sizeOf35 rfl (aG (aN 33 (l' := [_, _, _, _, _, _, _, _, _, _, _, _, _, _, _, _, _, _, _, _, _, _, _, _, _, _, _, _, _, _, _, _, _, _]) wC.f2 sizeOf35 rfl rfl (by first | rfl | exact Rd.one ((wC).aT)) rfl rfl) ?_)
 rintro _ w16 rP
 have Ik := rP.f2.right
 refine aA (aj (ay (ah (aW (fE (zl := [.int .i64 0]) (pl := [(0, 0), (0, 0), (0, 1)]) [_] underlying106 zeroValue106 rfl (fun w => by kernel_rfl) rfl (.zero (zs := []) rfl (.zero (zs := []) rfl (.zero (zs := [.int .i64 0]) rfl .nil))) rfl) (jo (gV (l := [_]) Ik rfl rfl) ?_)))))
 rintro _ Qc ⟨b18, rfl, C9⟩
 refine aZ 12 underlying37 rfl sizeOf34 rfl (aG (aN 12 (l' := [_, _, _, _, _, _, _, _, _, _, _, _, _, _, _, _, _, _, _, _, _, _, _, _, _, _, _, _, _, _, _, _, _, _]) C9.f2 sizeOf34 rfl rfl (by first | rfl | assumption) rfl rfl) ?_)
 rintro _ Qh Aa
 refine aA (aj (ay ?_))
 have EJ := Aa.drew
 have sF := aB.kp (EJ.f13.f13.f13.f13.f13.f13.f13.f13.f13.f13.f13.f13.f13)
 refine xJ [1, 5] sF rfl (fU 0 rfl sF 12 underlying37 rfl sizeOf34 rfl (iV 1 rfl sF (fun W hW => jr underlying34 rfl ((Kp.h hW)).get.2 rfl) (iq 2 rfl sF rfl (jv 3 rfl sF rfl (fU 4 rfl sF 12 underlying37 rfl sizeOf34 rfl (iV 5 rfl sF (fun W hW => jr underlying34 rfl ((Kp.h hW).f9).get.2 rfl) (jB 6 rfl (vK rfl func36 (CB EJ.f10)) ?_)))))))
 rintro _ _ ⟨rfl, rfl⟩
 have yP := aB.kp (EJ.f13.f13.f13.f13.f13.f13.f13.f13.f13.f13.f13.f13.f13)
 refine dM yP (fun W hW => (Kp.h hW).f13.f13.f13.f13.f13.f13.f13.f13.f13.f13.f13.f13.f13) ?_
 refine jB 7 rfl (vK rfl func47 (Bq EJ.f2)) ?_
 rintro _ Rf nY
 have Vu := aB.kp (nY.f13.f13.f13.f13.f13.f13.f13.f13.f13.f13.f13.f13.f13)
 refine eX Vu (by kernel_rfl) ?_
 refine oV (aj (ay (ah (aV rfl (aA (aj (aJ (aH (.inl rfl) results24 rfl ?_))))))))
 have YA := nY.f13.f13.f13.f13.f7.f12.f12.f12.f12.f12.f13
 have YB := aB.dF (s := s) dD bF YA
 exact ⟨_, rfl, YB.f2.right.f2.right⟩
end
end Go.Proofs.YtgndbccogcofjaaGreatDoor
end
section
namespace Go.Proofs.YtgndbccogcofjaaGreatDoor
open Go.RowKit
open _root_.Go.Proofs.Tryz
namespace bD
variable (s : bD)
def Vw (i j : Int) (b : Bool) : Int := if j ≤ i then 6 else s.JF i j b
def Vx (i j : Int) (b : Bool) : bD := if j ≤ i then s else s.qY i j b
def PK (n : Int) : Int := if n < 0 then s.Vw (vY s.c.L s.c.pt n) s.c.pt true else s.Vw s.c.pt (vY s.c.L s.c.pt n) false
def PL (n : Int) : bD := if n < 0 then s.Vx (vY s.c.L s.c.pt n) s.c.pt true else s.Vx s.c.pt (vY s.c.L s.c.pt n) false
end bD
theorem QF {w0 w : World} {F : HP} {e : Nat} {s : bD} (H : aB w0 w (dw e s • F)) : jq s := by
  obtain ⟨pb, pr, pw, pt, pm, ph, bl, pv, es, u0, u1, u2, u3, u4, u5, u6, u7, u8, u9, ua, h, _⟩ := H.zy
  exact h
theorem Gz {s : bD} (h : jq s) : -1000000 ≤ s.count ∧ s.count ≤ 1000000 := by
  have h := h.2.2.1
  unfold bD.count
  dsimp only
  by_cases h1 : s.given = true <;> by_cases h2 : s.arg < 0 <;> by_cases h3 : s.minus = true <;> simp only [h1, h2, h3, if_true, if_false, Bool.false_eq_true] <;> omega
section
variable {w0 w : World} {F : HP} {c e : Nat} {s : bD} {lv kv : Value} {l keys : List Int} {p m n nn i j : Int} {g back : Bool}
theorem GH (H : aB w0 w (dh c (.cells #[.pointer (some ⟨e, 0, none⟩), lv, .int .i64 p, .int .i64 m, .int .i64 nn, .bool g, kv] 79 (0, 0)) • iE 21 .i32 lv l • F)) (hT : wL w0) (h3 : -1000000 ≤ n) (h4 : n ≤ 1000000) : eG prog 121 #[.pointer (some ⟨c, 0, none⟩), .int .i64 n] w fun v w' => v = .int .i64 (vY l p n) ∧ aB w0 w' (dh c (.cells #[.pointer (some ⟨e, 0, none⟩), lv, .int .i64 p, .int .i64 m, .int .i64 nn, .bool g, kv] 79 (0, 0)) • iE 21 .i32 lv l • F) := by
 refine fP func121 ntmps121 ?_
 dsimp only [aX, Nat.reduceAdd]
 refine ay (ah (aV rfl (aA (aj (ay (ay (ah (aO rfl (aW (jm rfl rfl) (aA (aj (aQ rfl (fun h1 => ?_) (fun h1 => ?_)))))))))))))
 ·(try simp only [aI] at h1)
  have hc := h1
  refine ay (ah (aO rfl (aO rfl (bK rfl (aZ 2 underlying79 rfl sizeOf3 rfl (dP underlying3 rfl (H).get.2 rfl (aO rfl (dn rfl func125 (yR H.f2.f2 (La hT) (by omega)) ?_))))))))
  rintro _ w1 ⟨rfl, H1⟩
  refine aV rfl (aA (aj (aJ (aK (aH (.inl rfl) results121 rfl ?_)))))
  exact ⟨by unfold vY; rw [if_pos hc], H1⟩
 ·(try simp only [aI] at h1)
  have hc := h1
  refine aS (aj (ay (ah (aO rfl (aO rfl (bK rfl (aZ 2 underlying79 rfl sizeOf3 rfl (dP underlying3 rfl (H).get.2 rfl (aO rfl (aW (LH rfl (by omega)) (dn rfl func125 (yR H.f2.f2 (Gw hT) (by omega)) ?_)))))))))))
  rintro _ w2 ⟨rfl, H2⟩
  refine aV rfl (aA (aj (aJ (aH (.inl rfl) results121 rfl ?_))))
  exact ⟨by unfold vY; rw [if_neg (by omega)], H2⟩
theorem xB (H : aB w0 w (dh c (.cells #[.pointer (some ⟨e, 0, none⟩), lv, .int .i64 p, .int .i64 m, .int .i64 nn, .bool g, kv] 79 (0, 0)) • dw e s • F)) : eG prog 141 #[.pointer (some ⟨c, 0, none⟩), .int .i64 i, .int .i64 j, .bool back] w fun v w' => v = .int .i64 (s.Vw i j back) ∧ aB w0 w' (dh c (.cells #[.pointer (some ⟨e, 0, none⟩), lv, .int .i64 p, .int .i64 m, .int .i64 nn, .bool g, kv] 79 (0, 0)) • dw e (s.Vx i j back) • F) := by
 refine fP func141 ntmps141 ?_
 dsimp only [aX, Nat.reduceAdd]
 refine ay (ah (aV rfl (aA (aj (ay (ay (ah (aO rfl (aO rfl (aW (jm rfl rfl) (aA (aj (aQ rfl (fun h1 => ?_) (fun h1 => ?_))))))))))))))
 ·(try simp only [aI] at h1)
  have hc := h1
  refine ay (ah (aV rfl (aA (aj (aJ (aK (aH (.inl rfl) results141 rfl ?_)))))))
  exact ⟨by unfold bD.Vw; rw [if_pos (by omega)], by unfold bD.Vx; rw [if_pos (by omega)]; exact H.f2.f2⟩
 ·(try simp only [aI] at h1)
  have hc := h1
  refine aS (aj (ay (ah (aO rfl (bK rfl (aZ 0 underlying79 rfl sizeOf26 rfl (dP underlying26 rfl (H).get.2 rfl (aO rfl (aO rfl (aO rfl (dn rfl func202 (Gu H.f2) ?_)))))))))))
  rintro _ w1 ⟨rfl, H1⟩
  refine aV rfl (aA (aj (aJ (aH (.inl rfl) results141 rfl ?_))))
  exact ⟨by unfold bD.Vw; rw [if_neg (by omega)], by unfold bD.Vx; rw [if_neg (by omega)]; exact H1.f2⟩
theorem Le (H : aB w0 w (dh c (.cells #[.pointer (some ⟨e, 0, none⟩), lv, .int .i64 s.c.pt, .int .i64 m, .int .i64 nn, .bool g, kv] 79 (0, 0)) • iE 21 .i32 lv s.c.L • dw e s • F)) (hT : wL w0) (h3 : -1000000 ≤ n) (h4 : n ≤ 1000000) : eG prog 142 #[.pointer (some ⟨c, 0, none⟩), .int .i64 n] w fun v w' => v = .int .i64 (s.PK n) ∧ aB w0 w' (dh c (.cells #[.pointer (some ⟨e, 0, none⟩), lv, .int .i64 s.c.pt, .int .i64 m, .int .i64 nn, .bool g, kv] 79 (0, 0)) • iE 21 .i32 lv s.c.L • dw e (s.PL n) • F) := by
 refine fP func142 ntmps142 ?_
 dsimp only [aX, Nat.reduceAdd]
 refine ay (ah (aV rfl (aA (aj (ay (ah (aO rfl (aO rfl (dn rfl func121 (GH H.f2.f2 hT (by omega) (by omega)) ?_)))))))))
 rintro _ w1 ⟨rfl, H1⟩
 refine aV rfl (aA (aj (ay (ay (ah (aO rfl (aW (eU rfl rfl) (aA (aj (aQ rfl (fun h1 => ?_) (fun h1 => ?_)))))))))))
 ·(try simp only [aI] at h1)
  have hc := h1
  refine ay (ah (aO rfl (aO rfl (aO rfl (bK rfl (aZ 2 underlying79 rfl sizeOf3 rfl (dP underlying3 rfl (H1).get.2 rfl (dn rfl func141 (xB H1.f3.f2) ?_))))))))
  rintro _ w2 ⟨rfl, H2⟩
  refine aV rfl (aA (aj (aJ (aK (aH (.inl rfl) results142 rfl ?_)))))
  exact ⟨by unfold bD.PK; rw [if_pos hc], by unfold bD.PL; rw [if_pos hc]; exact H2.f2.f3.f3⟩
 ·(try simp only [aI] at h1)
  have hc := h1
  refine aS (aj (ay (ah (aO rfl (aO rfl (bK rfl (aZ 2 underlying79 rfl sizeOf3 rfl (dP underlying3 rfl (H1).get.2 rfl (aO rfl (dn rfl func141 (xB H1.f3.f2) ?_))))))))))
  rintro _ w3 ⟨rfl, H3⟩
  refine aV rfl (aA (aj (aJ (aH (.inl rfl) results142 rfl ?_))))
  exact ⟨by unfold bD.PK; rw [if_neg (by omega)], by unfold bD.PL; rw [if_neg (by omega)]; exact H3.f2.f3.f3⟩
def QG (w0 : World) (k : Nat) (keys : List Int) (s : bD) (x : Int) (t : bD) : Prop := ∀ (F : HP) (W : World) (c e : Nat) (lv kv : Value), aB w0 W (dh c (.cells #[.pointer (some ⟨e, 0, none⟩), lv, .int .i64 s.c.pt, .int .i64 s.c.mark, .int .i64 s.count, .bool s.given, kv] 79 (0, 0)) • iE 21 .i32 lv s.c.L • dw e s • F) → iD w0 F .i32 kv keys →
  eG prog k #[.pointer (some ⟨c, 0, none⟩)] W fun v W' => v = .int .i64 x ∧ aB w0 W' (dh c (.cells #[.pointer (some ⟨e, 0, none⟩), lv, .int .i64 s.c.pt, .int .i64 s.c.mark, .int .i64 s.count, .bool s.given, kv] 79 (0, 0)) • iE 21 .i32 lv s.c.L • dw e t • F)
theorem GI {w0 : World} {keys : List Int} {s : bD} (hT : wL w0) : QG w0 71 keys s (s.PK s.count) (s.PL s.count) := by
 intro F w c e lv kv H hk
 have hco := Gz (QF H.f3)
 refine fP func71 ntmps71 ?_
 dsimp only [aX, Nat.reduceAdd]
 refine ay (ah (aV rfl (aA (aj (ay (ah (aO rfl (aO rfl (bK rfl (aZ 4 underlying79 rfl sizeOf3 rfl (dP underlying3 rfl (H).get.2 rfl (dn rfl func142 (Le H.f3.f3.f3 hT (by omega) (by omega)) ?_))))))))))))
 rintro _ w1 ⟨rfl, H1⟩
 refine aV rfl (aA (aj (aJ (aH (.inl rfl) results71 rfl ?_))))
 exact ⟨rfl, H1.f3.f3.f3⟩
theorem PN {w0 : World} {keys : List Int} {s : bD} : QG w0 78 keys s (s.vC) (s.pY) := by
 intro F w c e lv kv H hk
 have hco := Gz (QF H.f3)
 refine fP func78 ntmps78 ?_
 dsimp only [aX, Nat.reduceAdd]
 refine ay (ah (aV rfl (aA (aj (ay (ah (aO rfl (bK rfl (aZ 0 underlying79 rfl sizeOf26 rfl (dP underlying26 rfl (H).get.2 rfl (dn rfl func146 (Gv H.f3) ?_)))))))))))
 rintro _ w1 ⟨rfl, H1⟩
 refine aV rfl (aA (aj (aJ (aH (.inl rfl) results78 rfl ?_))))
 exact ⟨rfl, H1.f3.f3⟩
end
end Go.Proofs.YtgndbccogcofjaaGreatDoor
end
