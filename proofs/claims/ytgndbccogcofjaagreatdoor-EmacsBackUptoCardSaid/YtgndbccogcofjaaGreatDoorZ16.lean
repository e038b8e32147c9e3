import Derived.Test.YtgndbccogcofjaaGreatDoorZ2
import Derived.Test.YtgndbccogcofjaaGreatDoorZ15
import Derived.Test.YtgndbccogcofjaaGreatDoorZ14
set_option linter.unusedSimpArgs false
set_option linter.unusedVariables false
/- Texts of mine, joined, their names in short: EdF EdCl EmW. -/
section
namespace Go.Proofs.YtgndbccogcofjaaGreatDoor
open Go.RowKit
open _root_.Go.Proofs.Tryz
theorem TW : (prog.info? 101).map (fun i => (i.zero, i.size, i.bytes)) = some (some (.agg #[.int .i64 0, .slice none 0 0, .slice none 0 0]), 3, 56) := by kernel_rfl
def NR (c : Nat) (g : List fB) : HP := tN fun (x : Value × List dD) => fact (x.2.map dD.says = g) • dH c (.cells #[x.1] 35 (0, 0)) • Row 101 3 x.1 x.2.length (x.2.flatMap dD.enc) • jH x.2
section
variable {w0 w : World} {F : HP} {e p c n m : Nat} {s : bC} {i j x : Int} {on : Bool} {v : Value} {g : List fB} {uj es : List dD} {xs : List Value}
theorem wF (H : aB w0 w F) (hr : KF w0 F 3 v n xs) (hon : ∀ u ∈ xs, u.oneCell' = true) (hb : n ≤ 1099511627776) :
    fG prog 46 #[v] w fun v' w' => aB w0 w' (Row 101 3 v' n xs • F) := by
  obtain ⟨hlen, a, c, rfl, h2, h3, h4⟩ := hr w H
  refine gG func46 ntmps46 ?_
  dsimp only [bf, Nat.reduceAdd]
  refine ay (ah (aV rfl (aA (aj (ay (ay (ah (aN rfl (aU (wG underlying35 rfl rfl) (aA (aj (aP rfl (fun h1 => ?_) (fun h1 => ?_)))))))))))))
  · (try simp only [aF] at h1)
    try (exfalso; first | contradiction | omega)
    all_goals
      refine ay (ah (aV rfl (aA (aj (aI (aK (aH (.inl rfl) results46 rfl ?_)))))))
      obtain rfl : a = none := by simpa using h1
      obtain rfl : n = 0 := by
        rcases Nat.eq_zero_or_pos n with h | h
        · exact h
        · obtain ⟨b, o, e, _⟩ := h4 h; cases e
      obtain rfl : xs = [] := List.eq_nil_of_length_eq_zero (by omega)
      exact H.jf none
  · (try simp only [aF] at h1)
    try (exfalso; first | contradiction | omega)
    all_goals
      refine aO (aj (ay (ah (iy (D5 H underlying35 sizeOf101 zeroValue101) ?_))))
      rintro _ w1 H1
      refine aN rfl (iy (iR H1 underlying35 TW rfl rfl rfl (hr.under _ H1) hon (by omega) (by omega)) ?_)
      rintro _ w2 H2
      refine aV rfl (aA (aj (aI (aH (.inl rfl) results46 rfl ?_))))
      exact H2.of_eq (by rw [Nat.zero_add, List.nil_append])
theorem aB.old (H : aB w0 w (NR c g • F)) : ∃ v es, es.map dD.says = g ∧ aB w0 w (dH c (.cells #[v] 35 (0, 0)) • Row 101 3 v es.length (es.flatMap dD.enc) • jH es • F) := by
  obtain ⟨⟨v, es⟩, H⟩ := H.ng
  obtain ⟨h, H⟩ := H.flat.fact
  exact ⟨v, es, h, H.of_eq (by simp only [cO])⟩
theorem aB.QX (h : es.map dD.says = g) (H : aB w0 w (dH c (.cells #[v] 35 (0, 0)) • Row 101 3 v es.length (es.flatMap dD.enc) • jH es • F)) : aB w0 w (NR c g • F) :=
  aB.iH (v, es) (aB.deep (aB.kE h (H.of_eq (by simp only [cO]))))
theorem aB.TY (hg : g = []) (H : aB w0 w (dH c (.cells #[.slice none 0 0] 35 (0, 0)) • F)) : aB w0 w (NR c g • F) :=
  aB.QX (v := .slice none 0 0) (es := []) hg.symm ((H.qx none).of_eq (by unfold Fh; ac_rfl))
theorem aB.Iz (hm : m = es.length) (H : aB w0 w (Row 101 3 v (uj.length + m) (uj.flatMap dD.enc ++ es.flatMap dD.enc) • jH uj • jH es • F)) : aB w0 w (Row 101 3 v (uj ++ es).length ((uj ++ es).flatMap dD.enc) • jH (uj ++ es) • F) := by
  subst hm
  have h1 : aB w0 w (jH uj • jH es • Row 101 3 v (uj.length + es.length) (uj.flatMap dD.enc ++ es.flatMap dD.enc) • F) := H.of_eq (by ac_rfl)
  have h2 : aB w0 w (jH (uj ++ es) • Row 101 3 v (uj.length + es.length) (uj.flatMap dD.enc ++ es.flatMap dD.enc) • F) := h1.ES (qB (fun I h g => h.app g) _)
  exact h2.swap.of_eq (by rw [List.length_append, List.flatMap_append])
def QY (s : bC) (on : Bool) (uj : List dD) (G1 : List (List fB)) : Prop := eY G1 [] + uj.length = eY s.here [] ∧ (∀ e ∈ uj, vW e.says) ∧ s.jq on = G1 ++ [uj.map dD.says ++ s.put]
theorem O4 (hp : s.put ≠ []) (hn : on = false) : QY s on [] s.here := by
  subst hn
  refine ⟨by simp, by simp, ?_⟩
  unfold bC.jq
  rw [if_neg hp, if_neg (by decide)]
  rfl
theorem IB : ∀ {G : List (List fB)}, G ≠ [] → (G.dropLast.map List.length).sum + (G.getLastD []).length = (G.map List.length).sum := by
  intro G hG
  have h := List.dropLast_concat_getLast hG
  have h2 : G.getLastD [] = G.getLast hG := by rw [List.getLastD_eq_getLast?, List.getLast?_eq_some_getLast hG]; rfl
  rw [h2]
  conv => rhs; rw [← h]
  simp
theorem J6 (hp : s.put ≠ []) (hn : on = true) (hO : ∀ g ∈ s.here, ∀ e ∈ g, vW e) (h : uj.map dD.says = s.here.getLastD []) : QY s on uj s.here.dropLast := by
  subst hn
  have hlen : uj.length = (s.here.getLastD []).length := by rw [← h]; simp
  have hm : ∀ e ∈ uj, e.says ∈ s.here.getLastD [] := fun e he => by rw [← h]; exact List.mem_map.2 ⟨e, he, rfl⟩
  unfold QY bC.jq
  rw [if_neg hp, if_pos rfl]
  by_cases h0 : s.here = []
  · rw [h0] at h hlen hm
    have : uj = [] := List.eq_nil_of_length_eq_zero (by simpa using hlen)
    subst this
    rw [h0]
    exact ⟨by simp, by simp, rfl⟩
  · have h2 : s.here.getLastD [] = s.here.getLast h0 := by rw [List.getLastD_eq_getLast?, List.getLast?_eq_some_getLast h0]; rfl
    refine ⟨?_, fun e he => hO _ (List.getLast_mem h0) _ (h2 ▸ hm e he), ?_⟩
    · have := IB h0
      show (s.here.dropLast.map List.length).sum + 0 + uj.length = (s.here.map List.length).sum + 0
      rw [hlen]; omega
    · rw [List.getLast?_eq_some_getLast h0, h, h2]
theorem Ei (G : List (List fB)) : yP G [] = G.reverse := by unfold yP jE; rw [if_pos rfl]
theorem Md (G : List (List fB)) : (yP G []).getD 0 [] = G.getLastD [] := by
  rw [Ei, List.getD_eq_getElem?_getD, List.getLastD_eq_getLast?]
  congr 1
  cases G.eq_nil_or_concat with
  | inl h => subst h; rfl
  | inr h => obtain ⟨L, b, rfl⟩ := h; simp
theorem QZ {G : List (List fB)} (h : TG G [] 0) : (∀ g ∈ yP G [], ∀ e ∈ g, EB e) ∧ ∀ g ∈ yP G [], g.length ≤ 16384 := by
  rw [Ei]
  refine ⟨fun g hg => h.2.2.2.2.1 g (List.mem_reverse.1 hg), fun g hg => ?_⟩
  have h1 := Ik (List.mem_reverse.1 hg)
  have h2 := h.2.1
  unfold eY at h2
  simp at h2; omega
theorem IC (G : List (List fB)) (N : List fB) : VW G N (0 + 1) = jE G N ∧ VX N (0 + 1) = [] ∧ TI (0 + 1) = 0 := ⟨if_pos rfl, if_pos rfl, by unfold TI; rw [if_neg (by decide)]; rfl⟩
theorem Gp (G : List (List fB)) : Ns G [] = G.dropLast ∧ Nu G [] = [] ∧ Nv G [] 0 = 0 := by
  unfold Ns Nu Nv jE
  by_cases h : G.length + ([] : List fB).length = 0
  · have : G = [] := List.eq_nil_of_length_eq_zero (by simpa using h)
    subst this
    simp
  · rw [if_neg h, if_neg h, if_neg h, if_pos rfl]; simp
theorem Me {s : bC} (h : s.put = []) : s.dQ on = s := by unfold bC.dQ; rw [if_pos h]
theorem lF {s : bC} (h : s.put ≠ []) : s.dQ on = { s.kW (s.jq on) with put := [] } := by unfold bC.dQ; rw [if_neg h]
theorem Q5 (G : List (List fB)) (g : List fB) : eY (G ++ [g]) [] = eY G [] + g.length := by unfold eY; simp
theorem Ej (h : kP s) {G1 : List (List fB)} (hF : QY s on uj G1) (hp : s.put ≠ []) (hG : ∀ g ∈ G1, ∀ e ∈ g, vW e) : kP (s.dQ on) := by
  rw [lF hp]
  obtain ⟨h1, h2, h3, h4, h5, h6⟩ := h
  obtain ⟨f1, f2, f3⟩ := hF
  refine ⟨h1, h2, h3, by simp, ?_, ?_⟩
  · show eY (xX s.c.un s.c.place (s.jq on) s.c.place) [] ≤ 16384
    rw [gq, f3, Q5]
    have := pX s.here s.put
    simp; omega
  · intro k g hg e he
    have hg' : g ∈ xX s.c.un s.c.place (s.jq on) k := hg
    by_cases hk : k = s.c.place
    · subst hk
      rw [gq, f3] at hg'
      rcases List.mem_append.1 hg' with hg' | hg'
      · exact hG g hg' e he
      · rw [List.mem_singleton.1 hg'] at he
        rcases List.mem_append.1 he with he | he
        · obtain ⟨q, hq, rfl⟩ := List.mem_map.1 he; exact f2 q hq
        · exact h4 e he
    · rw [uQ _ _ hk] at hg'; exact h6 k g hg' e he
theorem Aw {es : List dD} {k : Nat} (hk : k < es.length) : (es.take (k + 1)).map dD.says = (es.take k).map dD.says ++ [(es.getD k default).says] := by
  rw [List.take_succ_eq_append_getElem hk, List.map_append, List.getD_eq_getElem?_getD, List.getElem?_eq_getElem hk]; rfl
theorem lT (H : aB w0 w (dA e s • F)) : fG prog 96 #[.pointer (some ⟨e, 0, none⟩), .bool on] w fun _ w' => aB w0 w' (dA e (s.dQ on) • F) := by
  refine gG func96 ntmps96 ?_
  dsimp only [bf, Nat.reduceAdd]
  refine ay (ay ?_)
  obtain ⟨su, sD, sF, sG, sH, sJ, sK, sN, qI, oI, oJ, oK, oL, oM, oN, oO, oP, oQ, oU, oV, dK, bH, gZ, dO⟩ := (H).BQ
  have hput : eY s.here s.put ≤ 16384 := dK.2.2.2.2.1
  have hsp := pX s.here s.put
  have hO : ∀ g ∈ s.here, ∀ x ∈ g, vW x := dK.2.2.2.2.2 s.c.place
  have hPO : ∀ x ∈ qI, vW x.says := fun x hx => dK.2.2.2.1 _ (by rw [← bH]; exact List.mem_map.2 ⟨x, hx, rfl⟩)
  have abM := (dO.f10).DI
  refine ah (aN rfl (bM rfl (bG 33 underlying37 rfl sizeOf35 rfl (dX underlying35 rfl (dO).get.2 rfl (aU (jg ((dO.f9).aS) underlying35 rfl) (aU (fE rfl rfl) (aA (aj (aP rfl (fun h1 => ?_) (fun h1 => ?_))))))))))
  · (try simp only [aF] at h1)
    refine aI (aK (gU (.inl rfl) results96 ?_))
    rw [Me (List.eq_nil_of_length_eq_zero (by omega))]
    exact aB.dM dK bH dO.f11.f11.f11.f11.f11.f11.f11.f11.f11.f11.f11
  · (try simp only [aF] at h1)
    have hp : s.put ≠ [] := by rintro hz; rw [hz] at h1; simp at h1
    refine aO (aj (ay (ah (aN rfl (bW rfl func160 (xg dO.f6.f5.f3) ?_)))))
    rintro _ w2 ⟨lp2, rfl, H2⟩
    refine aV rfl (aA (aj (ay (ah (iy (gY (l := [_]) H2 zeroValue35 rfl) ?_)))))
    rintro _ w3 ⟨b3, rfl, H3⟩
    refine aA (aj (ay (ay ?_)))
    obtain ⟨R4, hR4, HR4⟩ := aB.Xt (H3.f2.f2)
    refine ah (aN rfl (aA (aj (aP rfl (fun h2 => ?_) (fun h2 => ?_)))))
    · (try simp only [aF] at h2)
      have hn : on = true := h2
      refine ay (ay (ah (aN rfl (bW rfl func161 (BP HR4.f2) ?_))))
      rintro _ w5 ⟨bG5, rfl, H5⟩
      refine aA (aj (bF ?_))
      obtain ⟨_, _, _, _, k1, _⟩ := (H5.f2).uO
      obtain ⟨hB, hL⟩ := QZ k1
      have HF0 := aB.kE (q := (0 : Nat) = 0) rfl H5
      obtain ⟨R6, Zb, HR6⟩ := aB.FC (HF0.f4.f2.f3)
      refine vS rfl (JL bG5 hB hL) (fun j => fact (j = 0) • dH b3 (.cells #[.slice none 0 0] 35 (0, 0)) • R6) (fact False) (fun id => if id = 0 then NR b3 (s.here.getLastD []) • R6 else fact False) (HR6.f3.f3.f3.f3.f3.f3.comm) (by rfl) ?_ ?_ ?_ ?_
      · rintro l7 j VQ vs7 A7 ⟨u1, fs1, YJ, rfl, rfl⟩ G7 w7 H7
        try simp only [cO, jQ, qW] at H7
        refine ⟨rfl, ?_⟩
        dsimp only [Lu]
        have HQ := (H7).Xk
        obtain rfl : j = 0 := (HQ.f3).fact.1
        have hon := (HQ.f2).DI
        have hlen1 : fs1.length ≤ 16384 := by
          have h9 := hL _ (uJ (d := []) VQ)
          rw [← YJ] at h9
          simpa using h9
        refine ah (aV rfl (aA ?_))
        refine Ls (HQ.g5) ?_
        intro G8 w8 H8
        try simp only [cO] at H8
        refine bF (ay (ah (aN rfl (bW rfl func46 (wF H8 (fun W HW => (HW).aS) hon (by omega)) ?_))))
        rintro u9 w9 H9
        refine aJ (aT 0 (l' := [_]) H9.f5 sizeOf35 rfl rfl (by first | rfl | exact Rd.one ((H9).aS)) rfl rfl) ?_
        rintro _ w10 oZ
        refine aA (aj (eU ?_))
        refine mM (by decide) ?_
        refine Qu ?_
        rw [if_pos rfl]
        exact (aB.QX (YJ.trans (Md _)) oZ.f3.right.f4.right.f3.f3.f3).deep
      · rintro D11 KG yt
        have Qg := yt.ed
        try simp only [cO, jQ, qW] at Qg
        have YK := Qg.MO
        have hz := (YK.f3).fact.1
        rw [Ei, List.length_reverse] at hz
        have hg0 : s.here.getLastD [] = [] := by show (s.c.un s.c.place).getLastD [] = []; rw [List.eq_nil_of_length_eq_zero hz]; rfl
        have LY := YK.f4
        have LZ := aB.TY hg0 LY
        have Ua := LZ.f4.right
        subst Zb
        subst hR4
        refine aQ (aj (ah (aN rfl (bW rfl func162 (yA Ua.f4) ?_))))
        rintro _ Pq ⟨u15, ab1, rfl, abN, yu⟩
        have aaM := yu.right
        have Lr := aaM.right
        have QV := Lr.f4.right
        obtain ⟨h9a, h9b, h9c⟩ := Gp (s.c.un s.c.place)
        have HX := QV
        rw [h9a, h9b, h9c] at HX
        obtain ⟨ov, uj, Wy, HO⟩ := (HX.f2).old
        have hF := J6 hp hn hO Wy
        have hG1 : ∀ g ∈ s.here.dropLast, ∀ x ∈ g, vW x := fun g hg => hO g (List.dropLast_subset _ hg)
        obtain ⟨G1, WA⟩ : ∃ q, q = (s.c.un s.c.place).dropLast := ⟨_, rfl⟩
        rw [show s.here.dropLast = (s.c.un s.c.place).dropLast from rfl] at hF hG1
        have YL := HO
        rw [← WA] at hF hG1 YL
        refine aA (aj (ay ?_))
        obtain ⟨hF1, hF2, hF3⟩ := hF
        have hl1 : uj.length ≤ 16384 := by omega
        have hl2 : s.put.length ≤ 16384 := by omega
        refine ah (aN rfl (bW rfl func163 (rU YL.f4 (by omega)) ?_))
        rintro _ Tc ⟨rfl, BJ⟩
        refine aA (aj (ay (ay ?_)))
        have Gn := BJ.drew
        have ny := aB.kp (Gn.f16.f16.f16.f16.f16.f16.f16.f16.f16.f16.f16.f16.f16.f16.f16.f16)
        refine yI [0, 4] ny rfl (jB 0 rfl ny (fun W hW => jR underlying35 rfl ((Kp.h hW).f2).get.2 rfl) (iD 1 rfl ny rfl (jS 2 rfl ny rfl (gV 3 rfl ny 33 underlying37 rfl sizeOf35 rfl (jB 4 rfl ny (fun W hW => jR underlying35 rfl ((Kp.h hW).f7).get.2 rfl) (iD 7 rfl ny rfl (kQ 5 rfl (iR Gn.f3 underlying35 (show (prog.info? 101).map (fun i => (i.zero, i.size, i.bytes)) = some (some (.agg #[.int .i64 0, .slice none 0 0, .slice none 0 0]), 3, 56) by kernel_rfl) rfl rfl rfl ((Gn.f14).aS) (by assumption) (by omega) (by omega)) ?_)))))))
        rintro Zc SN yh
        have Bv := aB.kp (yh.f16.f16.f16.f16.f16.f16.f16.f16.f16.f16.f16.f16.f16.f16.f16.f16)
        refine gB Bv (by kernel_rfl) ?_
        have aaN := yh.f15.f5.f3
        have aaO := aB.Iz gZ.symm aaN
        obtain ⟨AE, NS⟩ : ∃ q, q = uj ++ qI := ⟨_, rfl⟩
        have HA := aaO
        rw [← NS] at HA
        have hAl : AE.length = uj.length + s.put.length := by rw [NS, List.length_append, gZ]
        have hAs : AE.map dD.says = uj.map dD.says ++ s.put := by rw [NS, List.map_append, bH]
        have YM : ∀ x ∈ AE, vW x.says := fun x hx => by
          rw [NS] at hx
          rcases List.mem_append.1 hx with hx | hx
          · exact hF2 x hx
          · exact hPO x hx
        refine jr 6 rfl Bv (fun _ => jg ((HA).aS) underlying35 rfl) (qQ (aj (bF ?_)))
        obtain ⟨R23, aaP, aaQ⟩ := aB.FC (HA.f2.f2.f3)
        refine gQ [(0, _), (4, _), (32, _), (33, _)] (fun (i : Nat) => [(34, .int .i64 (i : Int))]) (fun (i : Nat) W => i ≤ AE.length ∧ aB w0 W (eX lp2 G1 ((AE.take i).map dD.says) (0 + 1) • Row 101 3 Zc AE.length (AE.flatMap dD.enc) • jH AE • R23)) (fun (i : Nat) => AE.length - i) (0) (Sub.cons rfl (Sub.cons rfl (Sub.cons rfl (Sub.cons rfl (Sub.nil _))))) (Sub.cons rfl (Sub.nil _)) ⟨by omega, aaQ⟩ ?_
        rintro i XE ⟨hi, HL⟩
        dsimp only [List.cons_append, List.nil_append]
        refine ay (ah (aU (eF rfl rfl) (aA (aj (ay (aP rfl (fun h3 => ?_) (fun h3 => ?_)))))))
        · (try simp only [aF] at h3)
          refine aO (aj (ay (bF (ay (ah ?_)))))
          obtain ⟨ab2, ab3, ab4, aaR⟩ := Rd.zn ((HL.f2).aS) (by omega)
          cases aaR
          refine aU (gX underlying35 sizeOf101 rfl rfl (by omega)) (aU (lq (ys := [_, _, _]) ((HL.f2).aS) (by omega) underlying101 rfl sizeOf101 rfl (pV dD.zA (by omega) default) rfl) ?_)
          have hkl : i < AE.length := by omega
          have hx : vW (AE.getD i default).says := YM _ (by rw [List.getD_eq_getElem?_getD, List.getElem?_eq_getElem hkl]; exact List.getElem_mem hkl)
          have hx1 : (AE.getD i default).dl.length ≤ 1024 := hx.2.2.1
          have hx2 : (AE.getD i default).il.length ≤ 1024 := hx.2.2.2
          refine iy (gY (l := [_, _, _]) HL zeroValue101 rfl) ?_
          rintro _ XT ⟨b25, rfl, Nh⟩
          refine aJ (dG 0 (l' := [_, _, _]) (us := [_, _, _]) Nh sizeOf101 rfl rfl rfl (aC (by first | rfl | assumption) (aC (by first | rfl | exact Rd.one (((Nh.f4).kV hkl).1)) (aC (by first | rfl | exact Rd.one (((Nh.f4).kV hkl).2)) cZ))) rfl rfl) ?_
          rintro _ Xa KX
          refine aA (aj (ah (aN rfl (aU (dn underlying101 rfl sizeOf101 rfl rfl (KX).get.2) (bW rfl func164 (vP KX.f2 (fun W HW => ((HW.f3).kV hkl).1) (fun W HW => ((HW.f3).kV hkl).2) (by omega) (by omega)) ?_)))))
          rintro _ Xb ⟨rfl, Pv⟩
          have hadd : qU G1 ((AE.take i).map dD.says) (AE.getD i default).a (AE.getD i default).dl (AE.getD i default).il = 0 := by
            have hx3 : 0 < (AE.getD i default).dl.length + (AE.getD i default).il.length := hx.2.1
            have hx4 : 0 ≤ (AE.getD i default).a := hx.1
            have hx5 := pX G1 ((AE.take i).map dD.says)
            rw [List.length_map, List.length_take] at hx5
            unfold qU
            rw [if_neg (by omega), if_neg (by omega)]
          have HA2 := Pv
          rw [Ce hadd (by decide), Ci hadd (by decide)] at HA2
          refine aA (aQ (aj (ah (aU (fC rfl rfl (by omega)) (aN rfl (aA ?_))))))
          refine eG (i + 1) ?_ ?_ ?_ ?_
          · exact (Sub.cons rfl (Sub.nil _))
          · exact (Sub.cons rfl (Sub.cons rfl (Sub.cons rfl (Sub.cons rfl (Sub.nil _)))))
          · (try dsimp only)
            first | done | exact ⟨by omega, by rw [Aw hkl]; exact HA2.f2.right.f3.f3.f3⟩
          · (try dsimp only); omega
        · (try simp only [aF] at h3)
          refine eU (aZ ?_)
          have hil : i = AE.length := by omega
          have HB := HL
          rw [hil, List.take_length] at HB
          subst aaP
          refine aZ (bK (aj (ay (ah (aN rfl (bW rfl func165 (vU HB) ?_))))))
          rintro _ XU ⟨rfl, Px⟩
          obtain ⟨YN, YO, YP⟩ := IC G1 (AE.map dD.says)
          have HC := Px
          rw [YN, YO, YP, hAs, nI (by intro hz; exact hp (List.append_eq_nil_iff.1 hz).2), ← hF3] at HC
          have Wh := HC.f6
          have Wi := aB.uX Wh
          refine aA (aj (ah (aN rfl (bM rfl (bG 33 underlying37 rfl sizeOf35 rfl (aJ (aT 33 (l' := [_, _, _, _, _, _, _, _, _, _, _, _, _, _, _, _, _, _, _, _, _, _, _, _, _, _, _, _, _, _, _, _, _, _]) Wi.f6 sizeOf35 rfl rfl (by first | rfl | assumption) rfl rfl) ?_))))))
          rintro _ Xc Jk
          refine aA ?_
          refine Cb (.inr rfl) (Jk.f6) (fun w32 Nj => ?_)
          refine ⟨_, Vo results96, ?_⟩
          rw [lF hp]
          exact aB.Ec (s := { s.kW (s.jq on) with put := [] }) (lF hp ▸ Ej dK ⟨hF1, hF2, hF3⟩ hp hG1) rfl Nj.f3.right.f3.right.f3.right.f9.right.f9.f9.f9.f5.f9.f7.f9.f9.f9
      · rintro D w H; exact absurd H.swap.fact.1 id
      · rintro id D33 XV Jl
        refine Decidable.byCases (fun hid : id = 0 => ?_) (fun hid => by rw [if_neg hid] at Jl; exact absurd Jl.swap.fact.1 fun h => h)
        subst hid
        rw [if_pos rfl] at Jl
        have YQ := Jl.ed
        try simp only [cO, jQ, qW] at YQ
        have aaS := YQ.MO
        subst Zb
        subst hR4
        refine bK (aj (ah (aN rfl (bW rfl func162 (yA aaS.f4) ?_))))
        rintro _ Y7 ⟨u34, ab5, rfl, abO, Py⟩
        have aaT := Py.right
        have aaU := aaT.right
        have WB := aaU.f3.right
        obtain ⟨h9a, h9b, h9c⟩ := Gp (s.c.un s.c.place)
        have HX := WB
        rw [h9a, h9b, h9c] at HX
        obtain ⟨ov, uj, Wy, HO⟩ := (HX.f3).old
        have hF := J6 hp hn hO Wy
        have hG1 : ∀ g ∈ s.here.dropLast, ∀ x ∈ g, vW x := fun g hg => hO g (List.dropLast_subset _ hg)
        obtain ⟨G1, WA⟩ : ∃ q, q = (s.c.un s.c.place).dropLast := ⟨_, rfl⟩
        rw [show s.here.dropLast = (s.c.un s.c.place).dropLast from rfl] at hF hG1
        have YL := HO
        rw [← WA] at hF hG1 YL
        refine aA (aj (ay ?_))
        obtain ⟨hF1, hF2, hF3⟩ := hF
        have hl1 : uj.length ≤ 16384 := by omega
        have hl2 : s.put.length ≤ 16384 := by omega
        refine ah (aN rfl (bW rfl func163 (rU YL.f4 (by omega)) ?_))
        rintro _ Xd ⟨rfl, Tf⟩
        refine aA (aj (ay (ay ?_)))
        have Q7 := Tf.drew
        have yU := aB.kp (Q7.f16.f16.f16.f16.f16.f16.f16.f16.f16.f16.f16.f16.f16.f16.f16.f16)
        refine yI [0, 4] yU rfl (jB 0 rfl yU (fun W hW => jR underlying35 rfl ((Kp.h hW).f2).get.2 rfl) (iD 1 rfl yU rfl (jS 2 rfl yU rfl (gV 3 rfl yU 33 underlying37 rfl sizeOf35 rfl (jB 4 rfl yU (fun W hW => jR underlying35 rfl ((Kp.h hW).f7).get.2 rfl) (iD 7 rfl yU rfl (kQ 5 rfl (iR Q7.f3 underlying35 (show (prog.info? 101).map (fun i => (i.zero, i.size, i.bytes)) = some (some (.agg #[.int .i64 0, .slice none 0 0, .slice none 0 0]), 3, 56) by kernel_rfl) rfl rfl rfl ((Q7.f14).aS) (by assumption) (by omega) (by omega)) ?_)))))))
        rintro l39 Zw Xf
        have Va := aB.kp (Xf.f16.f16.f16.f16.f16.f16.f16.f16.f16.f16.f16.f16.f16.f16.f16.f16)
        refine gB Va (by kernel_rfl) ?_
        have aaV := Xf.f15.f5.f3
        have aaW := aB.Iz gZ.symm aaV
        obtain ⟨AE, NS⟩ : ∃ q, q = uj ++ qI := ⟨_, rfl⟩
        have HA := aaW
        rw [← NS] at HA
        have hAl : AE.length = uj.length + s.put.length := by rw [NS, List.length_append, gZ]
        have hAs : AE.map dD.says = uj.map dD.says ++ s.put := by rw [NS, List.map_append, bH]
        have YM : ∀ x ∈ AE, vW x.says := fun x hx => by
          rw [NS] at hx
          rcases List.mem_append.1 hx with hx | hx
          · exact hF2 x hx
          · exact hPO x hx
        refine jr 6 rfl Va (fun _ => jg ((HA).aS) underlying35 rfl) (qQ (aj (bF ?_)))
        obtain ⟨R42, aaX, aaY⟩ := aB.FC (HA.f2.f2.f3)
        refine gQ [(0, _), (4, _), (32, _), (33, _)] (fun (i : Nat) => [(34, .int .i64 (i : Int))]) (fun (i : Nat) W => i ≤ AE.length ∧ aB w0 W (eX lp2 G1 ((AE.take i).map dD.says) (0 + 1) • Row 101 3 l39 AE.length (AE.flatMap dD.enc) • jH AE • R42)) (fun (i : Nat) => AE.length - i) (0) (Sub.cons rfl (Sub.cons rfl (Sub.cons rfl (Sub.cons rfl (Sub.nil _))))) (Sub.cons rfl (Sub.nil _)) ⟨by omega, aaY⟩ ?_
        rintro i Y8 ⟨hi, HL⟩
        dsimp only [List.cons_append, List.nil_append]
        refine ay (ah (aU (eF rfl rfl) (aA (aj (ay (aP rfl (fun h4 => ?_) (fun h4 => ?_)))))))
        · (try simp only [aF] at h4)
          refine aO (aj (ay (bF (ay (ah ?_)))))
          obtain ⟨ab6, ab7, ab8, aaZ⟩ := Rd.zn ((HL.f2).aS) (by omega)
          cases aaZ
          refine aU (gX underlying35 sizeOf101 rfl rfl (by omega)) (aU (lq (ys := [_, _, _]) ((HL.f2).aS) (by omega) underlying101 rfl sizeOf101 rfl (pV dD.zA (by omega) default) rfl) ?_)
          have hkl : i < AE.length := by omega
          have hx : vW (AE.getD i default).says := YM _ (by rw [List.getD_eq_getElem?_getD, List.getElem?_eq_getElem hkl]; exact List.getElem_mem hkl)
          have hx1 : (AE.getD i default).dl.length ≤ 1024 := hx.2.2.1
          have hx2 : (AE.getD i default).il.length ≤ 1024 := hx.2.2.2
          refine iy (gY (l := [_, _, _]) HL zeroValue101 rfl) ?_
          rintro _ Zz ⟨b44, rfl, Ti⟩
          refine aJ (dG 0 (l' := [_, _, _]) (us := [_, _, _]) Ti sizeOf101 rfl rfl rfl (aC (by first | rfl | assumption) (aC (by first | rfl | exact Rd.one (((Ti.f4).kV hkl).1)) (aC (by first | rfl | exact Rd.one (((Ti.f4).kV hkl).2)) cZ))) rfl rfl) ?_
          rintro _ XY RX
          refine aA (aj (ah (aN rfl (aU (dn underlying101 rfl sizeOf101 rfl rfl (RX).get.2) (bW rfl func164 (vP RX.f2 (fun W HW => ((HW.f3).kV hkl).1) (fun W HW => ((HW.f3).kV hkl).2) (by omega) (by omega)) ?_)))))
          rintro _ ZA ⟨rfl, VH⟩
          have hadd : qU G1 ((AE.take i).map dD.says) (AE.getD i default).a (AE.getD i default).dl (AE.getD i default).il = 0 := by
            have hx3 : 0 < (AE.getD i default).dl.length + (AE.getD i default).il.length := hx.2.1
            have hx4 : 0 ≤ (AE.getD i default).a := hx.1
            have hx5 := pX G1 ((AE.take i).map dD.says)
            rw [List.length_map, List.length_take] at hx5
            unfold qU
            rw [if_neg (by omega), if_neg (by omega)]
          have HA2 := VH
          rw [Ce hadd (by decide), Ci hadd (by decide)] at HA2
          refine aA (aQ (aj (ah (aU (fC rfl rfl (by omega)) (aN rfl (aA ?_))))))
          refine eG (i + 1) ?_ ?_ ?_ ?_
          · exact (Sub.cons rfl (Sub.nil _))
          · exact (Sub.cons rfl (Sub.cons rfl (Sub.cons rfl (Sub.cons rfl (Sub.nil _)))))
          · (try dsimp only)
            first | done | exact ⟨by omega, by rw [Aw hkl]; exact HA2.f2.right.f3.f3.f3⟩
          · (try dsimp only); omega
        · (try simp only [aF] at h4)
          refine eU (aZ ?_)
          have hil : i = AE.length := by omega
          have HB := HL
          rw [hil, List.take_length] at HB
          subst aaX
          refine aZ (bK (aj (ay (ah (aN rfl (bW rfl func165 (vU HB) ?_))))))
          rintro _ ZB ⟨rfl, UN⟩
          obtain ⟨YN, YO, YP⟩ := IC G1 (AE.map dD.says)
          have HC := UN
          rw [YN, YO, YP, hAs, nI (by intro hz; exact hp (List.append_eq_nil_iff.1 hz).2), ← hF3] at HC
          have aa0 := HC.f6
          have aa1 := aB.uX aa0
          refine aA (aj (ah (aN rfl (bM rfl (bG 33 underlying37 rfl sizeOf35 rfl (aJ (aT 33 (l' := [_, _, _, _, _, _, _, _, _, _, _, _, _, _, _, _, _, _, _, _, _, _, _, _, _, _, _, _, _, _, _, _, _, _]) aa1.f6 sizeOf35 rfl rfl (by first | rfl | assumption) rfl rfl) ?_))))))
          rintro _ w50 U2
          refine aA ?_
          refine Cb (.inr rfl) (U2.f6) (fun w51 TT => ?_)
          refine ⟨_, Vo results96, ?_⟩
          rw [lF hp]
          exact aB.Ec (s := { s.kW (s.jq on) with put := [] }) (lF hp ▸ Ej dK ⟨hF1, hF2, hF3⟩ hp hG1) rfl TT.f3.right.f3.right.f3.right.f9.right.f9.f9.f9.f5.f9.f7.f9.f9.f9
    · (try simp only [aF] at h2)
      have hn : on = false := h2
      obtain ⟨ov, uj, G1, hF, hG1, HF⟩ : ∃ ov uj G1, QY s on uj G1 ∧ (∀ g ∈ G1, ∀ x ∈ g, vW x) ∧ aB w0 w3 (dH b3 (.cells #[ov] 35 (0, 0)) • Row 101 3 ov uj.length (uj.flatMap dD.enc) • jH uj • eX lp2 G1 [] 0 • R4) :=
        ⟨.slice none 0 0, [], s.here, O4 hp hn, hO, (aB.qx HR4.f2.f2 none).of_eq (by unfold Fh; ac_rfl)⟩
      subst hR4
      refine aO (aj (ay ?_))
      obtain ⟨hF1, hF2, hF3⟩ := hF
      have hl1 : uj.length ≤ 16384 := by omega
      have hl2 : s.put.length ≤ 16384 := by omega
      refine ah (aN rfl (bW rfl func163 (rU HF.f4 (by omega)) ?_))
      rintro _ w52 ⟨rfl, RZ⟩
      refine aA (aj (ay (ay ?_)))
      have Q8 := RZ.drew
      have yV := aB.kp (Q8.f15.f15.f15.f15.f15.f15.f15.f15.f15.f15.f15.f15.f15.f15.f15)
      refine yI [0, 4] yV rfl (jB 0 rfl yV (fun W hW => jR underlying35 rfl ((Kp.h hW).f2).get.2 rfl) (iD 1 rfl yV rfl (jS 2 rfl yV rfl (gV 3 rfl yV 33 underlying37 rfl sizeOf35 rfl (jB 4 rfl yV (fun W hW => jR underlying35 rfl ((Kp.h hW).f6).get.2 rfl) (iD 7 rfl yV rfl (kQ 5 rfl (iR Q8.f3 underlying35 (show (prog.info? 101).map (fun i => (i.zero, i.size, i.bytes)) = some (some (.agg #[.int .i64 0, .slice none 0 0, .slice none 0 0]), 3, 56) by kernel_rfl) rfl rfl rfl ((Q8.f13).aS) (by assumption) (by omega) (by omega)) ?_)))))))
      rintro l53 w53 Si
      have Vb := aB.kp (Si.f15.f15.f15.f15.f15.f15.f15.f15.f15.f15.f15.f15.f15.f15.f15)
      refine gB Vb (by kernel_rfl) ?_
      have aa2 := Si.f14.f5.f3
      have aa3 := aB.Iz gZ.symm aa2
      obtain ⟨AE, NS⟩ : ∃ q, q = uj ++ qI := ⟨_, rfl⟩
      have HA := aa3
      rw [← NS] at HA
      have hAl : AE.length = uj.length + s.put.length := by rw [NS, List.length_append, gZ]
      have hAs : AE.map dD.says = uj.map dD.says ++ s.put := by rw [NS, List.map_append, bH]
      have YM : ∀ x ∈ AE, vW x.says := fun x hx => by
        rw [NS] at hx
        rcases List.mem_append.1 hx with hx | hx
        · exact hF2 x hx
        · exact hPO x hx
      refine jr 6 rfl Vb (fun _ => jg ((HA).aS) underlying35 rfl) (qQ (aj (bF ?_)))
      obtain ⟨R56, aa4, aa5⟩ := aB.FC (HA.f2.f2.f3)
      refine gQ [(0, _), (4, _), (32, _), (33, _)] (fun (i : Nat) => [(34, .int .i64 (i : Int))]) (fun (i : Nat) W => i ≤ AE.length ∧ aB w0 W (eX lp2 G1 ((AE.take i).map dD.says) (0 + 1) • Row 101 3 l53 AE.length (AE.flatMap dD.enc) • jH AE • R56)) (fun (i : Nat) => AE.length - i) (0) (Sub.cons rfl (Sub.cons rfl (Sub.cons rfl (Sub.cons rfl (Sub.nil _))))) (Sub.cons rfl (Sub.nil _)) ⟨by omega, aa5⟩ ?_
      rintro i w57 ⟨hi, HL⟩
      dsimp only [List.cons_append, List.nil_append]
      refine ay (ah (aU (eF rfl rfl) (aA (aj (ay (aP rfl (fun h5 => ?_) (fun h5 => ?_)))))))
      · (try simp only [aF] at h5)
        refine aO (aj (ay (bF (ay (ah ?_)))))
        obtain ⟨ab9, aca, acb, aa6⟩ := Rd.zn ((HL.f2).aS) (by omega)
        cases aa6
        refine aU (gX underlying35 sizeOf101 rfl rfl (by omega)) (aU (lq (ys := [_, _, _]) ((HL.f2).aS) (by omega) underlying101 rfl sizeOf101 rfl (pV dD.zA (by omega) default) rfl) ?_)
        have hkl : i < AE.length := by omega
        have hx : vW (AE.getD i default).says := YM _ (by rw [List.getD_eq_getElem?_getD, List.getElem?_eq_getElem hkl]; exact List.getElem_mem hkl)
        have hx1 : (AE.getD i default).dl.length ≤ 1024 := hx.2.2.1
        have hx2 : (AE.getD i default).il.length ≤ 1024 := hx.2.2.2
        refine iy (gY (l := [_, _, _]) HL zeroValue101 rfl) ?_
        rintro _ w58 ⟨b58, rfl, QO⟩
        refine aJ (dG 0 (l' := [_, _, _]) (us := [_, _, _]) QO sizeOf101 rfl rfl rfl (aC (by first | rfl | assumption) (aC (by first | rfl | exact Rd.one (((QO.f4).kV hkl).1)) (aC (by first | rfl | exact Rd.one (((QO.f4).kV hkl).2)) cZ))) rfl rfl) ?_
        rintro _ w59 Wj
        refine aA (aj (ah (aN rfl (aU (dn underlying101 rfl sizeOf101 rfl rfl (Wj).get.2) (bW rfl func164 (vP Wj.f2 (fun W HW => ((HW.f3).kV hkl).1) (fun W HW => ((HW.f3).kV hkl).2) (by omega) (by omega)) ?_)))))
        rintro _ Zg ⟨rfl, U4⟩
        have hadd : qU G1 ((AE.take i).map dD.says) (AE.getD i default).a (AE.getD i default).dl (AE.getD i default).il = 0 := by
          have hx3 : 0 < (AE.getD i default).dl.length + (AE.getD i default).il.length := hx.2.1
          have hx4 : 0 ≤ (AE.getD i default).a := hx.1
          have hx5 := pX G1 ((AE.take i).map dD.says)
          rw [List.length_map, List.length_take] at hx5
          unfold qU
          rw [if_neg (by omega), if_neg (by omega)]
        have HA2 := U4
        rw [Ce hadd (by decide), Ci hadd (by decide)] at HA2
        refine aA (aQ (aj (ah (aU (fC rfl rfl (by omega)) (aN rfl (aA ?_))))))
        refine eG (i + 1) ?_ ?_ ?_ ?_
        · exact (Sub.cons rfl (Sub.nil _))
        · exact (Sub.cons rfl (Sub.cons rfl (Sub.cons rfl (Sub.cons rfl (Sub.nil _)))))
        · (try dsimp only)
          first | done | exact ⟨by omega, by rw [Aw hkl]; exact HA2.f2.right.f3.f3.f3⟩
        · (try dsimp only); omega
      · (try simp only [aF] at h5)
        refine eU (aZ ?_)
        have hil : i = AE.length := by omega
        have HB := HL
        rw [hil, List.take_length] at HB
        subst aa4
        refine aZ (bK (aj (ay (ah (aN rfl (bW rfl func165 (vU HB) ?_))))))
        rintro _ w61 ⟨rfl, Xm⟩
        obtain ⟨YN, YO, YP⟩ := IC G1 (AE.map dD.says)
        have HC := Xm
        rw [YN, YO, YP, hAs, nI (by intro hz; exact hp (List.append_eq_nil_iff.1 hz).2), ← hF3] at HC
        have aa7 := HC.f5
        have aa8 := aB.uX aa7
        refine aA (aj (ah (aN rfl (bM rfl (bG 33 underlying37 rfl sizeOf35 rfl (aJ (aT 33 (l' := [_, _, _, _, _, _, _, _, _, _, _, _, _, _, _, _, _, _, _, _, _, _, _, _, _, _, _, _, _, _, _, _, _, _]) aa8.f5 sizeOf35 rfl rfl (by first | rfl | assumption) rfl rfl) ?_))))))
        rintro _ w64 TU
        refine aA (gU (.inr rfl) results96 ?_)
        rw [lF hp]
        exact aB.Ec (s := { s.kW (s.jq on) with put := [] }) (lF hp ▸ Ej dK ⟨hF1, hF2, hF3⟩ hp hG1) rfl TU.f3.right.f3.right.f3.right.f9.right.f9.f9.f9.f5.f9.f7.f9.f9.f9
end
end Go.Proofs.YtgndbccogcofjaaGreatDoor
end
section
namespace Go.Proofs.YtgndbccogcofjaaGreatDoor
open Go.RowKit
open _root_.Go.Proofs.Tryz
section
variable {w0 w : World} {F : HP} {e : Nat} {s : bC}
theorem Fv (H : aB w0 w (dA e s • F)) (hi : s.dU = false) : fG prog 24 #[.pointer (some ⟨e, 0, none⟩)] w fun v w' => ∃ q, v = .pointer (some ⟨q, 0, none⟩) ∧ aB w0 w' (dA e s • F) := by
 refine gG func24 ntmps24 ?_
 dsimp only [bf, Nat.reduceAdd]
 refine ay (ah (aV rfl (aA (aj (ay (ay (ah (aN rfl (bW rfl func32 (lD H) ?_)))))))))
 rintro _ _ ⟨rfl, rfl⟩
 refine aA (aj (mO (aO (aj (ay ?_)))))
 obtain ⟨su, sD, sF, sG, sH, sJ, sK, sN, qI, oI, oJ, oK, oL, oM, oN, oO, oP, oQ, oU, oV, dK, bH, gZ, dO⟩ := (H).BQ
 have hwo := rW (dO.f11)
 simp only [List.all_cons, List.all_nil, Bool.and_true, Bool.and_eq_true] at hwo
 obtain ⟨o0, o1, o2, o3, o4, o5, o6, o7, o8, o9, oa⟩ := hwo
 have hon := (dO.f10).DI
 have hpl : s.put.length ≤ 16384 := by have h9 := dK.2.2.2.2.1; unfold eY at h9; omega
 refine ah (aN rfl (bM rfl (aU (dn underlying37 rfl sizeOf37 rfl rfl (dO).get.2) (iy (gY (l := [_, _, _, _, _, _, _, _, _, _, _, _, _, _, _, _, _, _, _, _, _, _, _, _, _, _, _, _, _, _, _, _, _, _]) dO zeroValue37 rfl) ?_))))
 rintro _ w3 ⟨b3, rfl, H3⟩
 refine aJ (dG 0 (l' := [_, _, _, _, _, _, _, _, _, _, _, _, _, _, _, _, _, _, _, _, _, _, _, _, _, _, _, _, _, _, _, _, _, _]) (us := [_, _, _, _, _, _, _, _, _, _, _, _, _, _, _, _, _, _, _, _, _, _, _, _, _, _, _, _, _, _, _, _, _, _]) H3 sizeOf37 rfl rfl rfl (aC (by first | rfl | assumption) (aC (by first | rfl | assumption) (aC (by first | rfl | assumption) (aC (by first | rfl | assumption) (aC (by first | rfl | assumption) (aC (by first | rfl | assumption) (aC (by first | rfl | assumption) (aC (by first | rfl | assumption) (aC (by first | rfl | assumption) (aC (by first | rfl | assumption) (aC (by first | rfl | assumption) (aC (by first | rfl | assumption) (aC (by first | rfl | assumption) (aC (by first | rfl | assumption) (aC (by first | rfl | assumption) (aC (by first | rfl | assumption) (aC (by first | rfl | assumption) (aC (by first | rfl | assumption) (aC (by first | rfl | assumption) (aC (by first | rfl | assumption) (aC (by first | rfl | assumption) (aC (by first | rfl | assumption) (aC (by first | rfl | assumption) (aC (by first | rfl | assumption) (aC (by first | rfl | assumption) (aC (by first | rfl | assumption) (aC (by first | rfl | assumption) (aC (by first | rfl | assumption) (aC (by first | rfl | assumption) (aC (by first | rfl | assumption) (aC (by first | rfl | assumption) (aC (by first | rfl | assumption) (aC (by first | rfl | assumption) (aC (by first | rfl | exact Rd.one ((H3.f10).aS)) cZ)))))))))))))))))))))))))))))))))) rfl rfl) ?_
 rintro _ w4 H4
 refine aA (aj (ay (ah (aN rfl (bM rfl (bG 0 underlying37 rfl sizeOf32 rfl (aU (sS 0 (xs := [_, _, _, _, _, _, _, _, _, _, _]) underlying32 rfl sizeOf32 rfl rfl (H4.f2).get.2 rfl) (bW rfl func44 (JR H4.f7.f7.f7.f7.f7) ?_))))))))
 rintro _ w5 ⟨qb5, qr5, qw5, qt5, qm5, rfl, H5⟩
 refine bG 0 underlying37 rfl sizeOf32 rfl (aJ (dG 0 (l' := [_, _, _, _, _, _, _, _, _, _, _, _, _, _, _, _, _, _, _, _, _, _, _, _, _, _, _, _, _, _, _, _, _, _]) (us := [_, _, _, _, _, _, _, _, _, _, _]) H5.f11 sizeOf32 rfl rfl rfl (aC (by first | rfl | assumption) (aC (by first | rfl | assumption) (aC (by first | rfl | assumption) (aC (by first | rfl | assumption) (aC (by first | rfl | assumption) (aC (by first | rfl | assumption) (aC (by first | rfl | assumption) (aC (by first | rfl | assumption) (aC (by first | rfl | assumption) (aC (by first | rfl | assumption) (aC (by first | rfl | assumption) cZ))))))))))) rfl rfl) ?_)
 rintro _ w6 H6
 have Yg := H6.f5.right
 have Hd8 := Yg.f2.right
 have Hd9 := Hd8.f2.right
 have aa9 := Hd9.f2.right
 have Lp := aa9.f2.right
 refine aA (aj (ay (ay (ah (aN rfl (bM rfl (bG 16 underlying37 rfl sizeOf4 rfl (dX underlying4 rfl (Lp.f7).get.2 rfl (aA (aj (aP rfl (fun h => by exfalso; (try simp only [aF] at h); rw [hi] at h; simp at h) (fun h1 => ?_))))))))))))
 (try simp only [aF] at h1)
 refine aO (aj (ay (ah (aN rfl (bM rfl (bG 11 underlying37 rfl sizeOf33 rfl (dX underlying33 rfl (Lp.f7).get.2 rfl (bW rfl func45 (oh Lp.f8) ?_))))))))
 rintro _ w12 ⟨q12, rfl, xR⟩
 refine bG 11 underlying37 rfl sizeOf33 rfl (aJ (aT 11 (l' := [_, _, _, _, _, _, _, _, _, _, _, _, _, _, _, _, _, _, _, _, _, _, _, _, _, _, _, _, _, _, _, _, _, _]) xR.f3 sizeOf33 rfl rfl (by first | rfl | assumption) rfl rfl) ?_)
 rintro _ Po xE
 have Ua := xE.f2.right
 refine aA (aj (ay (ah (aN rfl (bM rfl (bG 33 underlying37 rfl sizeOf35 rfl (dX underlying35 rfl (Ua.f8).get.2 rfl (bW rfl func46 (wF Ua (fun W HW => (HW.f10).aS) hon (by omega)) ?_))))))))
 rintro u15 Pq yu
 refine bG 33 underlying37 rfl sizeOf35 rfl (aJ (aT 33 (l' := [_, _, _, _, _, _, _, _, _, _, _, _, _, _, _, _, _, _, _, _, _, _, _, _, _, _, _, _, _, _, _, _, _, _]) yu.f2 sizeOf35 rfl rfl (by first | rfl | exact Rd.one ((yu).aS)) rfl rfl) ?_)
 rintro _ w16 tX
 have Lr := tX.f2.right
 refine aA (aj (ay (ah (aU (fM (zl := [.int .i64 0]) (pl := [(0, 0), (0, 0), (0, 1)]) [_] underlying106 zeroValue106 rfl (fun w => by kernel_rfl) rfl (.zero (zs := []) rfl (.zero (zs := []) rfl (.zero (zs := [.int .i64 0]) rfl .nil))) rfl) (iy (jo (l := [_]) Lr rfl rfl) ?_)))))
 rintro _ SL ⟨b18, rfl, ER⟩
 refine bG 12 underlying37 rfl sizeOf34 rfl (aJ (aT 12 (l' := [_, _, _, _, _, _, _, _, _, _, _, _, _, _, _, _, _, _, _, _, _, _, _, _, _, _, _, _, _, _, _, _, _, _]) ER.f2 sizeOf34 rfl rfl (by first | rfl | assumption) rfl rfl) ?_)
 rintro _ Tc BJ
 refine aA (aj (ay ?_))
 have IE := BJ.drew
 have vX := aB.kp (IE.f13.f13.f13.f13.f13.f13.f13.f13.f13.f13.f13.f13.f13)
 refine yI [1, 5] vX rfl (gV 0 rfl vX 12 underlying37 rfl sizeOf34 rfl (jB 1 rfl vX (fun W hW => jR underlying34 rfl ((Kp.h hW)).get.2 rfl) (iD 2 rfl vX rfl (jS 3 rfl vX rfl (gV 4 rfl vX 12 underlying37 rfl sizeOf34 rfl (jB 5 rfl vX (fun W hW => jR underlying34 rfl ((Kp.h hW).f9).get.2 rfl) (kQ 6 rfl (wJ rfl func36 (Fp IE.f10)) ?_)))))))
 rintro _ _ ⟨rfl, rfl⟩
 have Bv := aB.kp (IE.f13.f13.f13.f13.f13.f13.f13.f13.f13.f13.f13.f13.f13)
 refine dZ Bv (fun W hW => (Kp.h hW).f13.f13.f13.f13.f13.f13.f13.f13.f13.f13.f13.f13.f13) ?_
 refine kQ 7 rfl (wJ rfl func47 (Eh IE.f2)) ?_
 rintro _ UG qF
 have YR := aB.kp (qF.f13.f13.f13.f13.f13.f13.f13.f13.f13.f13.f13.f13.f13)
 refine gB YR (by kernel_rfl) ?_
 refine qQ (aj (ay (ah (aV rfl (aA (aj (aI (aH (.inl rfl) results24 rfl ?_))))))))
 have abb := qF.f13.f13.f13.f13.f7.f12.f12.f12.f12.f12.f13
 have abd := aB.dM (s := s) dK bH abb
 exact ⟨_, rfl, abd.f2.right.f2.right⟩
end
end Go.Proofs.YtgndbccogcofjaaGreatDoor
end
section
namespace Go.Proofs.YtgndbccogcofjaaGreatDoor
open Go.RowKit
open _root_.Go.Proofs.Tryz
namespace bC
variable (s : bC)
def Ub (i j : Int) (b : Bool) : Int := if j ≤ i then 6 else s.Gh i j b
def Uc (i j : Int) (b : Bool) : bC := if j ≤ i then s else s.qV i j b
def Q9 (n : Int) : Int := if n < 0 then s.Ub (bV s.c.L s.c.pt n) s.c.pt true else s.Ub s.c.pt (bV s.c.L s.c.pt n) false
def Rf (n : Int) : bC := if n < 0 then s.Uc (bV s.c.L s.c.pt n) s.c.pt true else s.Uc s.c.pt (bV s.c.L s.c.pt n) false
end bC
theorem Em {w0 w : World} {F : HP} {e : Nat} {s : bC} (H : aB w0 w (dA e s • F)) : kP s := by
  obtain ⟨pb, pr, pw, pt, pm, ph, bl, pv, es, u0, u1, u2, u3, u4, u5, u6, u7, u8, u9, ua, h, _⟩ := H.BQ
  exact h
theorem rX {s : bC} (h : kP s) : -1000000 ≤ s.count ∧ s.count ≤ 1000000 := by
  have h := h.2.2.1
  unfold bC.count
  dsimp only
  by_cases h1 : s.given = true <;> by_cases h2 : s.arg < 0 <;> by_cases h3 : s.minus = true <;> simp only [h1, h2, h3, if_true, if_false, Bool.false_eq_true] <;> omega
section
variable {w0 w : World} {F : HP} {c e : Nat} {s : bC} {lv kv : Value} {l keys : List Int} {p m n nn i j : Int} {g back : Bool}
theorem tH (H : aB w0 w (dH c (.cells #[.pointer (some ⟨e, 0, none⟩), lv, .int .i64 p, .int .i64 m, .int .i64 nn, .bool g, kv] 79 (0, 0)) • gW 21 .i32 lv l • F)) (hT : mD w0) (h3 : -1000000 ≤ n) (h4 : n ≤ 1000000) : fG prog 121 #[.pointer (some ⟨c, 0, none⟩), .int .i64 n] w fun v w' => v = .int .i64 (bV l p n) ∧ aB w0 w' (dH c (.cells #[.pointer (some ⟨e, 0, none⟩), lv, .int .i64 p, .int .i64 m, .int .i64 nn, .bool g, kv] 79 (0, 0)) • gW 21 .i32 lv l • F) := by
 refine gG func121 ntmps121 ?_
 dsimp only [bf, Nat.reduceAdd]
 refine ay (ah (aV rfl (aA (aj (ay (ay (ah (aN rfl (aU (jh rfl rfl) (aA (aj (aP rfl (fun h1 => ?_) (fun h1 => ?_)))))))))))))
 ·(try simp only [aF] at h1)
  have hc := h1
  refine ay (ah (aN rfl (aN rfl (bM rfl (bG 2 underlying79 rfl sizeOf3 rfl (dX underlying3 rfl (H).get.2 rfl (aN rfl (bW rfl func125 (tC H.f2.f2 (OY hT) (by omega)) ?_))))))))
  rintro _ w1 ⟨rfl, H1⟩
  refine aV rfl (aA (aj (aI (aK (aH (.inl rfl) results121 rfl ?_)))))
  exact ⟨by unfold bV; rw [if_pos hc], H1⟩
 ·(try simp only [aF] at h1)
  have hc := h1
  refine aO (aj (ay (ah (aN rfl (aN rfl (bM rfl (bG 2 underlying79 rfl sizeOf3 rfl (dX underlying3 rfl (H).get.2 rfl (aN rfl (aU (FK rfl (by omega)) (bW rfl func125 (tC H.f2.f2 (J4 hT) (by omega)) ?_)))))))))))
  rintro _ w2 ⟨rfl, H2⟩
  refine aV rfl (aA (aj (aI (aH (.inl rfl) results121 rfl ?_))))
  exact ⟨by unfold bV; rw [if_neg (by omega)], H2⟩
theorem zO (H : aB w0 w (dH c (.cells #[.pointer (some ⟨e, 0, none⟩), lv, .int .i64 p, .int .i64 m, .int .i64 nn, .bool g, kv] 79 (0, 0)) • dA e s • F)) : fG prog 141 #[.pointer (some ⟨c, 0, none⟩), .int .i64 i, .int .i64 j, .bool back] w fun v w' => v = .int .i64 (s.Ub i j back) ∧ aB w0 w' (dH c (.cells #[.pointer (some ⟨e, 0, none⟩), lv, .int .i64 p, .int .i64 m, .int .i64 nn, .bool g, kv] 79 (0, 0)) • dA e (s.Uc i j back) • F) := by
 refine gG func141 ntmps141 ?_
 dsimp only [bf, Nat.reduceAdd]
 refine ay (ah (aV rfl (aA (aj (ay (ay (ah (aN rfl (aN rfl (aU (jh rfl rfl) (aA (aj (aP rfl (fun h1 => ?_) (fun h1 => ?_))))))))))))))
 ·(try simp only [aF] at h1)
  have hc := h1
  refine ay (ah (aV rfl (aA (aj (aI (aK (aH (.inl rfl) results141 rfl ?_)))))))
  exact ⟨by unfold bC.Ub; rw [if_pos (by omega)], by unfold bC.Uc; rw [if_pos (by omega)]; exact H.f2.f2⟩
 ·(try simp only [aF] at h1)
  have hc := h1
  refine aO (aj (ay (ah (aN rfl (bM rfl (bG 0 underlying79 rfl sizeOf26 rfl (dX underlying26 rfl (H).get.2 rfl (aN rfl (aN rfl (aN rfl (bW rfl func202 (JZ H.f2) ?_)))))))))))
  rintro _ w1 ⟨rfl, H1⟩
  refine aV rfl (aA (aj (aI (aH (.inl rfl) results141 rfl ?_))))
  exact ⟨by unfold bC.Ub; rw [if_neg (by omega)], by unfold bC.Uc; rw [if_neg (by omega)]; exact H1.f2⟩
theorem O5 (H : aB w0 w (dH c (.cells #[.pointer (some ⟨e, 0, none⟩), lv, .int .i64 s.c.pt, .int .i64 m, .int .i64 nn, .bool g, kv] 79 (0, 0)) • gW 21 .i32 lv s.c.L • dA e s • F)) (hT : mD w0) (h3 : -1000000 ≤ n) (h4 : n ≤ 1000000) : fG prog 142 #[.pointer (some ⟨c, 0, none⟩), .int .i64 n] w fun v w' => v = .int .i64 (s.Q9 n) ∧ aB w0 w' (dH c (.cells #[.pointer (some ⟨e, 0, none⟩), lv, .int .i64 s.c.pt, .int .i64 m, .int .i64 nn, .bool g, kv] 79 (0, 0)) • gW 21 .i32 lv s.c.L • dA e (s.Rf n) • F) := by
 refine gG func142 ntmps142 ?_
 dsimp only [bf, Nat.reduceAdd]
 refine ay (ah (aV rfl (aA (aj (ay (ah (aN rfl (aN rfl (bW rfl func121 (tH H.f2.f2 hT (by omega) (by omega)) ?_)))))))))
 rintro _ w1 ⟨rfl, H1⟩
 refine aV rfl (aA (aj (ay (ay (ah (aN rfl (aU (eF rfl rfl) (aA (aj (aP rfl (fun h1 => ?_) (fun h1 => ?_)))))))))))
 ·(try simp only [aF] at h1)
  have hc := h1
  refine ay (ah (aN rfl (aN rfl (aN rfl (bM rfl (bG 2 underlying79 rfl sizeOf3 rfl (dX underlying3 rfl (H1).get.2 rfl (bW rfl func141 (zO H1.f3.f2) ?_))))))))
  rintro _ w2 ⟨rfl, H2⟩
  refine aV rfl (aA (aj (aI (aK (aH (.inl rfl) results142 rfl ?_)))))
  exact ⟨by unfold bC.Q9; rw [if_pos hc], by unfold bC.Rf; rw [if_pos hc]; exact H2.f2.f3.f3⟩
 ·(try simp only [aF] at h1)
  have hc := h1
  refine aO (aj (ay (ah (aN rfl (aN rfl (bM rfl (bG 2 underlying79 rfl sizeOf3 rfl (dX underlying3 rfl (H1).get.2 rfl (aN rfl (bW rfl func141 (zO H1.f3.f2) ?_))))))))))
  rintro _ w3 ⟨rfl, H3⟩
  refine aV rfl (aA (aj (aI (aH (.inl rfl) results142 rfl ?_))))
  exact ⟨by unfold bC.Q9; rw [if_neg (by omega)], by unfold bC.Rf; rw [if_neg (by omega)]; exact H3.f2.f3.f3⟩
def En (w0 : World) (k : Nat) (keys : List Int) (s : bC) (x : Int) (t : bC) : Prop := ∀ (F : HP) (W : World) (c e : Nat) (lv kv : Value), aB w0 W (dH c (.cells #[.pointer (some ⟨e, 0, none⟩), lv, .int .i64 s.c.pt, .int .i64 s.c.mark, .int .i64 s.count, .bool s.given, kv] 79 (0, 0)) • gW 21 .i32 lv s.c.L • dA e s • F) → iI w0 F .i32 kv keys →
  fG prog k #[.pointer (some ⟨c, 0, none⟩)] W fun v W' => v = .int .i64 x ∧ aB w0 W' (dH c (.cells #[.pointer (some ⟨e, 0, none⟩), lv, .int .i64 s.c.pt, .int .i64 s.c.mark, .int .i64 s.count, .bool s.given, kv] 79 (0, 0)) • gW 21 .i32 lv s.c.L • dA e t • F)
theorem J7 {w0 : World} {keys : List Int} {s : bC} (hT : mD w0) : En w0 71 keys s (s.Q9 s.count) (s.Rf s.count) := by
 intro F w c e lv kv H hk
 have hco := rX (Em H.f3)
 refine gG func71 ntmps71 ?_
 dsimp only [bf, Nat.reduceAdd]
 refine ay (ah (aV rfl (aA (aj (ay (ah (aN rfl (aN rfl (bM rfl (bG 4 underlying79 rfl sizeOf3 rfl (dX underlying3 rfl (H).get.2 rfl (bW rfl func142 (O5 H.f3.f3.f3 hT (by omega) (by omega)) ?_))))))))))))
 rintro _ w1 ⟨rfl, H1⟩
 refine aV rfl (aA (aj (aI (aH (.inl rfl) results71 rfl ?_))))
 exact ⟨rfl, H1.f3.f3.f3⟩
theorem Ud {w0 : World} {keys : List Int} {s : bC} : En w0 78 keys s (s.yC) (s.sZ) := by
 intro F w c e lv kv H hk
 have hco := rX (Em H.f3)
 refine gG func78 ntmps78 ?_
 dsimp only [bf, Nat.reduceAdd]
 refine ay (ah (aV rfl (aA (aj (ay (ah (aN rfl (bM rfl (bG 0 underlying79 rfl sizeOf26 rfl (dX underlying26 rfl (H).get.2 rfl (bW rfl func146 (J3 H.f3) ?_)))))))))))
 rintro _ w1 ⟨rfl, H1⟩
 refine aV rfl (aA (aj (aI (aH (.inl rfl) results78 rfl ?_))))
 exact ⟨rfl, H1.f3.f3⟩
end
end Go.Proofs.YtgndbccogcofjaaGreatDoor
end
