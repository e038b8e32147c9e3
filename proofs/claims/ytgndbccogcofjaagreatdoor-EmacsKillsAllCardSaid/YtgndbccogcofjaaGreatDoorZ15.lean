import Derived.Test.YtgndbccogcofjaaGreatDoorZ2
import Derived.Test.YtgndbccogcofjaaGreatDoorZ14
import Derived.Test.YtgndbccogcofjaaGreatDoorZ13
set_option linter.unusedSimpArgs false
set_option linter.unusedVariables false
/- Texts of mine, joined, their names in short: EdF EdCl EmW. -/
section
namespace Go.Proofs.YtgndbccogcofjaaGreatDoor
open Go.RowKit
open _root_.Go.Proofs.Tryz
theorem QT : (prog.info? 101).map (fun i => (i.zero, i.size, i.bytes)) = some (some (.agg #[.int .i64 0, .slice none 0 0, .slice none 0 0]), 3, 56) := by kernel_rfl
def Lm (c : Nat) (g : List dU) : HP := qW fun (x : Value × List cO) => fact (x.2.map cO.says = g) • dB c (.cells #[x.1] 35 (0, 0)) • Row 101 3 x.1 x.2.length (x.2.flatMap cO.enc) • iR x.2
section
variable {w0 w : World} {F : HP} {e p c n m : Nat} {s : aZ} {i j x : Int} {on : Bool} {v : Value} {g : List dU} {rD es : List cO} {xs : List Value}
theorem uK (H : aB w0 w F) (hr : I8 w0 F 3 v n xs) (hon : ∀ u ∈ xs, u.oneCell' = true) (hb : n ≤ 1099511627776) :
    fA prog 46 #[v] w fun v' w' => aB w0 w' (Row 101 3 v' n xs • F) := by
  obtain ⟨hlen, a, c, rfl, h2, h3, h4⟩ := hr w H
  refine fU func46 ntmps46 ?_
  dsimp only [aY, Nat.reduceAdd]
  refine ay (ah (aU rfl (aA (aj (ay (ay (ah (aO rfl (aW (uP underlying35 rfl rfl) (aA (aj (aN rfl (fun h1 => ?_) (fun h1 => ?_)))))))))))))
  · (try simp only [aH] at h1)
    try (exfalso; first | contradiction | omega)
    all_goals
      refine ay (ah (aU rfl (aA (aj (aJ (aK (aI (.inl rfl) results46 rfl ?_)))))))
      obtain rfl : a = none := by simpa using h1
      obtain rfl : n = 0 := by
        rcases Nat.eq_zero_or_pos n with h | h
        · exact h
        · obtain ⟨b, o, e, _⟩ := h4 h; cases e
      obtain rfl : xs = [] := List.eq_nil_of_length_eq_zero (by omega)
      exact H.jd none
  · (try simp only [aH] at h1)
    try (exfalso; first | contradiction | omega)
    all_goals
      refine aP (aj (ay (ah (ji (CP H underlying35 sizeOf101 zeroValue101) ?_))))
      rintro _ w1 H1
      refine aO rfl (ji (gX H1 underlying35 QT rfl rfl rfl (hr.under _ H1) hon (by omega) (by omega)) ?_)
      rintro _ w2 H2
      refine aU rfl (aA (aj (aJ (aI (.inl rfl) results46 rfl ?_))))
      exact H2.of_eq (by rw [Nat.zero_add, List.nil_append])
theorem aB.old (H : aB w0 w (Lm c g • F)) : ∃ v es, es.map cO.says = g ∧ aB w0 w (dB c (.cells #[v] 35 (0, 0)) • Row 101 3 v es.length (es.flatMap cO.enc) • iR es • F) := by
  obtain ⟨⟨v, es⟩, H⟩ := H.lg
  obtain ⟨h, H⟩ := H.flat.fact
  exact ⟨v, es, h, H.of_eq (by simp only [bT])⟩
theorem aB.Pg (h : es.map cO.says = g) (H : aB w0 w (dB c (.cells #[v] 35 (0, 0)) • Row 101 3 v es.length (es.flatMap cO.enc) • iR es • F)) : aB w0 w (Lm c g • F) :=
  aB.gQ (v, es) (aB.deep (aB.jq h (H.of_eq (by simp only [bT]))))
theorem aB.QU (hg : g = []) (H : aB w0 w (dB c (.cells #[.slice none 0 0] 35 (0, 0)) • F)) : aB w0 w (Lm c g • F) :=
  aB.Pg (v := .slice none 0 0) (es := []) hg.symm ((H.oh none).of_eq (by unfold DX; ac_rfl))
theorem aB.Gg (hm : m = es.length) (H : aB w0 w (Row 101 3 v (rD.length + m) (rD.flatMap cO.enc ++ es.flatMap cO.enc) • iR rD • iR es • F)) : aB w0 w (Row 101 3 v (rD ++ es).length ((rD ++ es).flatMap cO.enc) • iR (rD ++ es) • F) := by
  subst hm
  have h1 : aB w0 w (iR rD • iR es • Row 101 3 v (rD.length + es.length) (rD.flatMap cO.enc ++ es.flatMap cO.enc) • F) := H.of_eq (by ac_rfl)
  have h2 : aB w0 w (iR (rD ++ es) • Row 101 3 v (rD.length + es.length) (rD.flatMap cO.enc ++ es.flatMap cO.enc) • F) := h1.Dy (oq (fun I h g => h.app g) _)
  exact h2.swap.of_eq (by rw [List.length_append, List.flatMap_append])
def Ph (s : aZ) (on : Bool) (rD : List cO) (G1 : List (List dU)) : Prop := dR G1 [] + rD.length = dR s.here [] ∧ (∀ e ∈ rD, uh e.says) ∧ s.iM on = G1 ++ [rD.map cO.says ++ s.put]
theorem Nk (hp : s.put ≠ []) (hn : on = false) : Ph s on [] s.here := by
  subst hn
  refine ⟨by simp, by simp, ?_⟩
  unfold aZ.iM
  rw [if_neg hp, if_neg (by decide)]
  rfl
theorem Gh : ∀ {G : List (List dU)}, G ≠ [] → (G.dropLast.map List.length).sum + (G.getLastD []).length = (G.map List.length).sum := by
  intro G hG
  have h := List.dropLast_concat_getLast hG
  have h2 : G.getLastD [] = G.getLast hG := by rw [List.getLastD_eq_getLast?, List.getLast?_eq_some_getLast hG]; rfl
  rw [h2]
  conv => rhs; rw [← h]
  simp
theorem IL (hp : s.put ≠ []) (hn : on = true) (hO : ∀ g ∈ s.here, ∀ e ∈ g, uh e) (h : rD.map cO.says = s.here.getLastD []) : Ph s on rD s.here.dropLast := by
  subst hn
  have hlen : rD.length = (s.here.getLastD []).length := by rw [← h]; simp
  have hm : ∀ e ∈ rD, e.says ∈ s.here.getLastD [] := fun e he => by rw [← h]; exact List.mem_map.2 ⟨e, he, rfl⟩
  unfold Ph aZ.iM
  rw [if_neg hp, if_pos rfl]
  by_cases h0 : s.here = []
  · rw [h0] at h hlen hm
    have : rD = [] := List.eq_nil_of_length_eq_zero (by simpa using hlen)
    subst this
    rw [h0]
    exact ⟨by simp, by simp, rfl⟩
  · have h2 : s.here.getLastD [] = s.here.getLast h0 := by rw [List.getLastD_eq_getLast?, List.getLast?_eq_some_getLast h0]; rfl
    refine ⟨?_, fun e he => hO _ (List.getLast_mem h0) _ (h2 ▸ hm e he), ?_⟩
    · have := Gh h0
      show (s.here.dropLast.map List.length).sum + 0 + rD.length = (s.here.map List.length).sum + 0
      rw [hlen]; omega
    · rw [List.getLast?_eq_some_getLast h0, h, h2]
theorem Dh (G : List (List dU)) : xk G [] = G.reverse := by unfold xk iP; rw [if_pos rfl]
theorem JZ (G : List (List dU)) : (xk G []).getD 0 [] = G.getLastD [] := by
  rw [Dh, List.getD_eq_getElem?_getD, List.getLastD_eq_getLast?]
  congr 1
  cases G.eq_nil_or_concat with
  | inl h => subst h; rfl
  | inr h => obtain ⟨L, b, rfl⟩ := h; simp
theorem Pj {G : List (List dU)} (h : QD G [] 0) : (∀ g ∈ xk G [], ∀ e ∈ g, EB e) ∧ ∀ g ∈ xk G [], g.length ≤ 16384 := by
  rw [Dh]
  refine ⟨fun g hg => h.2.2.2.2.1 g (List.mem_reverse.1 hg), fun g hg => ?_⟩
  have h1 := FX (List.mem_reverse.1 hg)
  have h2 := h.2.1
  unfold dR at h2
  simp at h2; omega
theorem Gi (G : List (List dU)) (N : List dU) : TL G N (0 + 1) = iP G N ∧ TM N (0 + 1) = [] ∧ QE (0 + 1) = 0 := ⟨if_pos rfl, if_pos rfl, by unfold QE; rw [if_neg (by decide)]; rfl⟩
theorem EK (G : List (List dU)) : KO G [] = G.dropLast ∧ KP G [] = [] ∧ KQ G [] 0 = 0 := by
  unfold KO KP KQ iP
  by_cases h : G.length + ([] : List dU).length = 0
  · have : G = [] := List.eq_nil_of_length_eq_zero (by simpa using h)
    subst this
    simp
  · rw [if_neg h, if_neg h, if_neg h, if_pos rfl]; simp
theorem J3 {s : aZ} (h : s.put = []) : s.dI on = s := by unfold aZ.dI; rw [if_pos h]
theorem kC {s : aZ} (h : s.put ≠ []) : s.dI on = { s.jM (s.iM on) with put := [] } := by unfold aZ.dI; rw [if_neg h]
theorem Pm (G : List (List dU)) (g : List dU) : dR (G ++ [g]) [] = dR G [] + g.length := by unfold dR; simp
theorem Di (h : jJ s) {G1 : List (List dU)} (hF : Ph s on rD G1) (hp : s.put ≠ []) (hG : ∀ g ∈ G1, ∀ e ∈ g, uh e) : jJ (s.dI on) := by
  rw [kC hp]
  obtain ⟨h1, h2, h3, h4, h5, h6⟩ := h
  obtain ⟨f1, f2, f3⟩ := hF
  refine ⟨h1, h2, h3, by simp, ?_, ?_⟩
  · show dR (wH s.c.un s.c.place (s.iM on) s.c.place) [] ≤ 16384
    rw [fB, f3, Pm]
    have := nR s.here s.put
    simp; omega
  · intro k g hg e he
    have hg' : g ∈ wH s.c.un s.c.place (s.iM on) k := hg
    by_cases hk : k = s.c.place
    · subst hk
      rw [fB, f3] at hg'
      rcases List.mem_append.1 hg' with hg' | hg'
      · exact hG g hg' e he
      · rw [List.mem_singleton.1 hg'] at he
        rcases List.mem_append.1 he with he | he
        · obtain ⟨q, hq, rfl⟩ := List.mem_map.1 he; exact f2 q hq
        · exact h4 e he
    · rw [sG _ _ hk] at hg'; exact h6 k g hg' e he
theorem zu {es : List cO} {k : Nat} (hk : k < es.length) : (es.take (k + 1)).map cO.says = (es.take k).map cO.says ++ [(es.getD k default).says] := by
  rw [List.take_succ_eq_append_getElem hk, List.map_append, List.getD_eq_getElem?_getD, List.getElem?_eq_getElem hk]; rfl
theorem kL (H : aB w0 w (dw e s • F)) : fA prog 96 #[.pointer (some ⟨e, 0, none⟩), .bool on] w fun _ w' => aB w0 w' (dw e (s.dI on) • F) := by
  refine fU func96 ntmps96 ?_
  dsimp only [aY, Nat.reduceAdd]
  refine ay (ay ?_)
  obtain ⟨qy, qA, qB, qC, qE, qF, qG, qH, oH, mP, mQ, mV, mW, mX, mY, mZ, ng, ni, ny, nC, dD, bG, fZ, dG⟩ := (H).AA
  have hput : dR s.here s.put ≤ 16384 := dD.2.2.2.2.1
  have hsp := nR s.here s.put
  have hO : ∀ g ∈ s.here, ∀ x ∈ g, uh x := dD.2.2.2.2.2 s.c.place
  have YQ : ∀ x ∈ oH, uh x.says := fun x hx => dD.2.2.2.1 _ (by rw [← bG]; exact List.mem_map.2 ⟨x, hx, rfl⟩)
  have aac := (dG.f10).BU
  refine ah (aO rfl (bP rfl (bg 33 underlying37 rfl sizeOf35 rfl (dS underlying35 rfl (dG).get.2 rfl (aW (iH ((dG.f9).aT) underlying35 rfl) (aW (eX rfl rfl) (aA (aj (aN rfl (fun h1 => ?_) (fun h1 => ?_))))))))))
  · (try simp only [aH] at h1)
    refine aJ (aK (fM (.inl rfl) results96 ?_))
    rw [J3 (List.eq_nil_of_length_eq_zero (by omega))]
    exact aB.dF dD bG dG.f11.f11.f11.f11.f11.f11.f11.f11.f11.f11.f11
  · (try simp only [aH] at h1)
    have hp : s.put ≠ [] := by rintro hz; rw [hz] at h1; simp at h1
    refine aP (aj (ay (ah (aO rfl (bZ rfl func160 (vJ dG.f6.f5.f3) ?_)))))
    rintro _ w2 ⟨lp2, rfl, H2⟩
    refine aU rfl (aA (aj (ay (ah (ji (fV (l := [_]) H2 zeroValue35 rfl) ?_)))))
    rintro _ w3 ⟨b3, rfl, H3⟩
    refine aA (aj (ay (ay ?_)))
    obtain ⟨R4, YR, HR4⟩ := aB.UN (H3.f2.f2)
    refine ah (aO rfl (aA (aj (aN rfl (fun h2 => ?_) (fun h2 => ?_)))))
    · (try simp only [aH] at h2)
      have hn : on = true := h2
      refine ay (ay (ah (aO rfl (bZ rfl func161 (Ah HR4.f2) ?_))))
      rintro _ w5 ⟨bG5, rfl, H5⟩
      refine aA (aj (bC ?_))
      obtain ⟨_, _, _, _, k1, _⟩ := (H5.f2).sD
      obtain ⟨hB, hL⟩ := Pj k1
      have HF0 := aB.jq (q := (0 : Nat) = 0) rfl H5
      obtain ⟨R6, Xb, X7⟩ := aB.D9 (HF0.f4.f2.f3)
      refine tY rfl (Ip bG5 hB hL) (fun j => fact (j = 0) • dB b3 (.cells #[.slice none 0 0] 35 (0, 0)) • R6) (fact False) (fun id => if id = 0 then Lm b3 (s.here.getLastD []) • R6 else fact False) (X7.f3.f3.f3.f3.f3.f3.comm) (by rfl) ?_ ?_ ?_ ?_
      · rintro l7 j TG vs7 A7 ⟨u1, fs1, Wu, rfl, rfl⟩ G7 w7 H7
        try simp only [bT, iY, oQ] at H7
        refine ⟨rfl, ?_⟩
        dsimp only [JA]
        have HQ := (H7).UG
        obtain rfl : j = 0 := (HQ.f3).fact.1
        have hon := (HQ.f2).BU
        have hlen1 : fs1.length ≤ 16384 := by
          have h9 := hL _ (rX (d := []) TG)
          rw [← Wu] at h9
          simpa using h9
        refine ah (aU rfl (aA ?_))
        refine Jz (HQ.g5) ?_
        intro G8 w8 H8
        try simp only [bT] at H8
        refine bC (ay (ah (aO rfl (bZ rfl func46 (uK H8 (fun W HW => (HW).aT) hon (by omega)) ?_))))
        rintro u9 w9 H9
        refine aG (aQ 0 (l' := [_]) H9.f5 sizeOf35 rfl rfl (by first | rfl | exact Rd.one ((H9).aT)) rfl rfl) ?_
        rintro _ w10 mJ
        refine aA (aj (eU ?_))
        refine nU (by decide) ?_
        refine OC ?_
        rw [if_pos rfl]
        exact (aB.Pg (Wu.trans (JZ _)) mJ.f3.right.f4.right.f3.f3.f3).deep
      · rintro D11 He uO
        have Oj := uO.ed
        try simp only [bT, iY, oQ] at Oj
        have Wv := Oj.Kr
        have hz := (Wv.f3).fact.1
        rw [Dh, List.length_reverse] at hz
        have hg0 : s.here.getLastD [] = [] := by show (s.c.un s.c.place).getLastD [] = []; rw [List.eq_nil_of_length_eq_zero hz]; rfl
        have JR := Wv.f4
        have JU := aB.QU hg0 JR
        have QV := JU.f4.right
        subst Xb
        subst YR
        refine aS (aj (ah (aO rfl (bZ rfl func162 (wQ QV.f4) ?_))))
        rintro _ Oe ⟨u15, aar, rfl, aad, xO⟩
        have YS := xO.right
        have Jy := YS.right
        have O9 := Jy.f4.right
        obtain ⟨YT, YU, YV⟩ := EK (s.c.un s.c.place)
        have HX := O9
        rw [YT, YU, YV] at HX
        obtain ⟨ov, rD, Uf, HO⟩ := (HX.f2).old
        have hF := IL hp hn hO Uf
        have hG1 : ∀ g ∈ s.here.dropLast, ∀ x ∈ g, uh x := fun g hg => hO g (List.dropLast_subset _ hg)
        obtain ⟨G1, Ug⟩ : ∃ q, q = (s.c.un s.c.place).dropLast := ⟨_, rfl⟩
        rw [show s.here.dropLast = (s.c.un s.c.place).dropLast from rfl] at hF hG1
        have Wx := HO
        rw [← Ug] at hF hG1 Wx
        refine aA (aj (ay ?_))
        obtain ⟨hF1, hF2, hF3⟩ := hF
        have hl1 : rD.length ≤ 16384 := by omega
        have hl2 : s.put.length ≤ 16384 := by omega
        refine ah (aO rfl (bZ rfl func163 (pX Wx.f4 (by omega)) ?_))
        rintro _ RF ⟨rfl, BF⟩
        refine aA (aj (ay (ay ?_)))
        have EJ := BF.drew
        have lC := aB.kp (EJ.f16.f16.f16.f16.f16.f16.f16.f16.f16.f16.f16.f16.f16.f16.f16.f16)
        refine yQ [0, 4] lC rfl (je 0 rfl lC (fun W hW => jE underlying35 rfl ((Kp.h hW).f2).get.2 rfl) (iE 1 rfl lC rfl (jF 2 rfl lC rfl (gG 3 rfl lC 33 underlying37 rfl sizeOf35 rfl (je 4 rfl lC (fun W hW => jE underlying35 rfl ((Kp.h hW).f7).get.2 rfl) (iE 7 rfl lC rfl (jQ 5 rfl (gX EJ.f3 underlying35 (show (prog.info? 101).map (fun i => (i.zero, i.size, i.bytes)) = some (some (.agg #[.int .i64 0, .slice none 0 0, .slice none 0 0]), 3, 56) by kernel_rfl) rfl rfl rfl ((EJ.f14).aT) (by assumption) (by omega) (by omega)) ?_)))))))
        rintro Yc Ry xM
        have zS := aB.kp (xM.f16.f16.f16.f16.f16.f16.f16.f16.f16.f16.f16.f16.f16.f16.f16.f16)
        refine fF zS (by kernel_rfl) ?_
        have YW := xM.f15.f5.f3
        have YX := aB.Gg fZ.symm YW
        obtain ⟨AE, Lp⟩ : ∃ q, q = rD ++ oH := ⟨_, rfl⟩
        have HA := YX
        rw [← Lp] at HA
        have hAl : AE.length = rD.length + s.put.length := by rw [Lp, List.length_append, fZ]
        have hAs : AE.map cO.says = rD.map cO.says ++ s.put := by rw [Lp, List.map_append, bG]
        have Wy : ∀ x ∈ AE, uh x.says := fun x hx => by
          rw [Lp] at hx
          rcases List.mem_append.1 hx with hx | hx
          · exact hF2 x hx
          · exact YQ x hx
        refine jc 6 rfl zS (fun _ => iH ((HA).aT) underlying35 rfl) (pU (aj (bC ?_)))
        obtain ⟨R23, YZ, Y0⟩ := aB.D9 (HA.f2.f2.f3)
        refine ig [(0, _), (4, _), (32, _), (33, _)] (fun (i : Nat) => [(34, .int .i64 (i : Int))]) (fun (i : Nat) W => i ≤ AE.length ∧ aB w0 W (dQ lp2 G1 ((AE.take i).map cO.says) (0 + 1) • Row 101 3 Yc AE.length (AE.flatMap cO.enc) • iR AE • R23)) (fun (i : Nat) => AE.length - i) (0) (Sub.cons rfl (Sub.cons rfl (Sub.cons rfl (Sub.cons rfl (Sub.nil _))))) (Sub.cons rfl (Sub.nil _)) ⟨by omega, Y0⟩ ?_
        rintro i WT ⟨hi, HL⟩
        dsimp only [List.cons_append, List.nil_append]
        refine ay (ah (aW (fE rfl rfl) (aA (aj (ay (aN rfl (fun h3 => ?_) (fun h3 => ?_)))))))
        · (try simp only [aH] at h3)
          refine aP (aj (ay (bC (ay (ah ?_)))))
          obtain ⟨aas, aat, aau, Y1⟩ := Rd.Bh ((HL.f2).aT) (by omega)
          cases Y1
          refine aW (iZ underlying35 sizeOf101 rfl rfl (by omega)) (aW (jW (ys := [_, _, _]) ((HL.f2).aT) (by omega) underlying101 rfl sizeOf101 rfl (nO cO.yw (by omega) default) rfl) ?_)
          have hkl : i < AE.length := by omega
          have hx : uh (AE.getD i default).says := Wy _ (by rw [List.getD_eq_getElem?_getD, List.getElem?_eq_getElem hkl]; exact List.getElem_mem hkl)
          have hx1 : (AE.getD i default).dl.length ≤ 1024 := hx.2.2.1
          have hx2 : (AE.getD i default).il.length ≤ 1024 := hx.2.2.2
          refine ji (fV (l := [_, _, _]) HL zeroValue101 rfl) ?_
          rintro _ WU ⟨b25, rfl, KG⟩
          refine aG (cZ 0 (l' := [_, _, _]) (us := [_, _, _]) KG sizeOf101 rfl rfl rfl (aC (by first | rfl | assumption) (aC (by first | rfl | exact Rd.one (((KG.f4).jL hkl).1)) (aC (by first | rfl | exact Rd.one (((KG.f4).jL hkl).2)) bU))) rfl rfl) ?_
          rintro _ Vg MF
          refine aA (aj (ah (aO rfl (aW (bW underlying101 rfl sizeOf101 rfl rfl (MF).get.2) (bZ rfl func164 (tX MF.f2 (fun W HW => ((HW.f3).jL hkl).1) (fun W HW => ((HW.f3).jL hkl).2) (by omega) (by omega)) ?_)))))
          rintro _ Vh ⟨rfl, PZ⟩
          have hadd : oO G1 ((AE.take i).map cO.says) (AE.getD i default).a (AE.getD i default).dl (AE.getD i default).il = 0 := by
            have hx3 : 0 < (AE.getD i default).dl.length + (AE.getD i default).il.length := hx.2.1
            have hx4 : 0 ≤ (AE.getD i default).a := hx.1
            have hx5 := nR G1 ((AE.take i).map cO.says)
            rw [List.length_map, List.length_take] at hx5
            unfold oO
            rw [if_neg (by omega), if_neg (by omega)]
          have HA2 := PZ
          rw [Au hadd (by decide), Aw hadd (by decide)] at HA2
          refine aA (aS (aj (ah (aW (fP rfl rfl (by omega)) (aO rfl (aA ?_))))))
          refine fD (i + 1) ?_ ?_ ?_ ?_
          · exact (Sub.cons rfl (Sub.nil _))
          · exact (Sub.cons rfl (Sub.cons rfl (Sub.cons rfl (Sub.cons rfl (Sub.nil _)))))
          · (try dsimp only)
            first | done | exact ⟨by omega, by rw [zu hkl]; exact HA2.f2.right.f3.f3.f3⟩
          · (try dsimp only); omega
        · (try simp only [aH] at h3)
          refine eU (aX ?_)
          have hil : i = AE.length := by omega
          have HB := HL
          rw [hil, List.take_length] at HB
          subst YZ
          refine aX (bV (aj (ay (ah (aO rfl (bZ rfl func165 (uf HB) ?_))))))
          rintro _ WV ⟨rfl, P5⟩
          obtain ⟨WA, WB, WE⟩ := Gi G1 (AE.map cO.says)
          have HC := P5
          rw [WA, WB, WE, hAs, lJ (by intro hz; exact hp (List.append_eq_nil_iff.1 hz).2), ← hF3] at HC
          have TY := HC.f6
          have Ua := aB.sO TY
          refine aA (aj (ah (aO rfl (bP rfl (bg 33 underlying37 rfl sizeOf35 rfl (aG (aQ 33 (l' := [_, _, _, _, _, _, _, _, _, _, _, _, _, _, _, _, _, _, _, _, _, _, _, _, _, _, _, _, _, _, _, _, _, _]) Ua.f6 sizeOf35 rfl rfl (by first | rfl | assumption) rfl rfl) ?_))))))
          rintro _ Vj Jj
          refine aA ?_
          refine Ap (.inr rfl) (Jj.f6) (fun w32 NG => ?_)
          refine ⟨_, SI results96, ?_⟩
          rw [kC hp]
          exact aB.CY (s := { s.jM (s.iM on) with put := [] }) (kC hp ▸ Di dD ⟨hF1, hF2, hF3⟩ hp hG1) rfl NG.f3.right.f3.right.f3.right.f9.right.f9.f9.f9.f5.f9.f7.f9.f9.f9
      · rintro D w H; exact absurd H.swap.fact.1 id
      · rintro id D33 WW Jk
        refine Decidable.byCases (fun hid : id = 0 => ?_) (fun hid => by rw [if_neg hid] at Jk; exact absurd Jk.swap.fact.1 fun h => h)
        subst hid
        rw [if_pos rfl] at Jk
        have WG := Jk.ed
        try simp only [bT, iY, oQ] at WG
        have Y2 := WG.Kr
        subst Xb
        subst YR
        refine bV (aj (ah (aO rfl (bZ rfl func162 (wQ Y2.f4) ?_))))
        rintro _ Xx ⟨u34, aav, rfl, aae, P6⟩
        have Y3 := P6.right
        have Y4 := Y3.right
        have Uh := Y4.f3.right
        obtain ⟨YT, YU, YV⟩ := EK (s.c.un s.c.place)
        have HX := Uh
        rw [YT, YU, YV] at HX
        obtain ⟨ov, rD, Uf, HO⟩ := (HX.f3).old
        have hF := IL hp hn hO Uf
        have hG1 : ∀ g ∈ s.here.dropLast, ∀ x ∈ g, uh x := fun g hg => hO g (List.dropLast_subset _ hg)
        obtain ⟨G1, Ug⟩ : ∃ q, q = (s.c.un s.c.place).dropLast := ⟨_, rfl⟩
        rw [show s.here.dropLast = (s.c.un s.c.place).dropLast from rfl] at hF hG1
        have Wx := HO
        rw [← Ug] at hF hG1 Wx
        refine aA (aj (ay ?_))
        obtain ⟨hF1, hF2, hF3⟩ := hF
        have hl1 : rD.length ≤ 16384 := by omega
        have hl2 : s.put.length ≤ 16384 := by omega
        refine ah (aO rfl (bZ rfl func163 (pX Wx.f4 (by omega)) ?_))
        rintro _ Vl ⟨rfl, Tn⟩
        refine aA (aj (ay (ay ?_)))
        have Pn := Tn.drew
        have xC := aB.kp (Pn.f16.f16.f16.f16.f16.f16.f16.f16.f16.f16.f16.f16.f16.f16.f16.f16)
        refine yQ [0, 4] xC rfl (je 0 rfl xC (fun W hW => jE underlying35 rfl ((Kp.h hW).f2).get.2 rfl) (iE 1 rfl xC rfl (jF 2 rfl xC rfl (gG 3 rfl xC 33 underlying37 rfl sizeOf35 rfl (je 4 rfl xC (fun W hW => jE underlying35 rfl ((Kp.h hW).f7).get.2 rfl) (iE 7 rfl xC rfl (jQ 5 rfl (gX Pn.f3 underlying35 (show (prog.info? 101).map (fun i => (i.zero, i.size, i.bytes)) = some (some (.agg #[.int .i64 0, .slice none 0 0, .slice none 0 0]), 3, 56) by kernel_rfl) rfl rfl rfl ((Pn.f14).aT) (by assumption) (by omega) (by omega)) ?_)))))))
        rintro l39 ZE WX
        have Sz := aB.kp (WX.f16.f16.f16.f16.f16.f16.f16.f16.f16.f16.f16.f16.f16.f16.f16.f16)
        refine fF Sz (by kernel_rfl) ?_
        have Y5 := WX.f15.f5.f3
        have Y6 := aB.Gg fZ.symm Y5
        obtain ⟨AE, Lp⟩ : ∃ q, q = rD ++ oH := ⟨_, rfl⟩
        have HA := Y6
        rw [← Lp] at HA
        have hAl : AE.length = rD.length + s.put.length := by rw [Lp, List.length_append, fZ]
        have hAs : AE.map cO.says = rD.map cO.says ++ s.put := by rw [Lp, List.map_append, bG]
        have Wy : ∀ x ∈ AE, uh x.says := fun x hx => by
          rw [Lp] at hx
          rcases List.mem_append.1 hx with hx | hx
          · exact hF2 x hx
          · exact YQ x hx
        refine jc 6 rfl Sz (fun _ => iH ((HA).aT) underlying35 rfl) (pU (aj (bC ?_)))
        obtain ⟨R42, Y7, Y8⟩ := aB.D9 (HA.f2.f2.f3)
        refine ig [(0, _), (4, _), (32, _), (33, _)] (fun (i : Nat) => [(34, .int .i64 (i : Int))]) (fun (i : Nat) W => i ≤ AE.length ∧ aB w0 W (dQ lp2 G1 ((AE.take i).map cO.says) (0 + 1) • Row 101 3 l39 AE.length (AE.flatMap cO.enc) • iR AE • R42)) (fun (i : Nat) => AE.length - i) (0) (Sub.cons rfl (Sub.cons rfl (Sub.cons rfl (Sub.cons rfl (Sub.nil _))))) (Sub.cons rfl (Sub.nil _)) ⟨by omega, Y8⟩ ?_
        rintro i Xz ⟨hi, HL⟩
        dsimp only [List.cons_append, List.nil_append]
        refine ay (ah (aW (fE rfl rfl) (aA (aj (ay (aN rfl (fun h4 => ?_) (fun h4 => ?_)))))))
        · (try simp only [aH] at h4)
          refine aP (aj (ay (bC (ay (ah ?_)))))
          obtain ⟨aaw, aax, aay, Y9⟩ := Rd.Bh ((HL.f2).aT) (by omega)
          cases Y9
          refine aW (iZ underlying35 sizeOf101 rfl rfl (by omega)) (aW (jW (ys := [_, _, _]) ((HL.f2).aT) (by omega) underlying101 rfl sizeOf101 rfl (nO cO.yw (by omega) default) rfl) ?_)
          have hkl : i < AE.length := by omega
          have hx : uh (AE.getD i default).says := Wy _ (by rw [List.getD_eq_getElem?_getD, List.getElem?_eq_getElem hkl]; exact List.getElem_mem hkl)
          have hx1 : (AE.getD i default).dl.length ≤ 1024 := hx.2.2.1
          have hx2 : (AE.getD i default).il.length ≤ 1024 := hx.2.2.2
          refine ji (fV (l := [_, _, _]) HL zeroValue101 rfl) ?_
          rintro _ ZH ⟨b44, rfl, Tq⟩
          refine aG (cZ 0 (l' := [_, _, _]) (us := [_, _, _]) Tq sizeOf101 rfl rfl rfl (aC (by first | rfl | assumption) (aC (by first | rfl | exact Rd.one (((Tq.f4).jL hkl).1)) (aC (by first | rfl | exact Rd.one (((Tq.f4).jL hkl).2)) bU))) rfl rfl) ?_
          rintro _ WZ RI
          refine aA (aj (ah (aO rfl (aW (bW underlying101 rfl sizeOf101 rfl rfl (RI).get.2) (bZ rfl func164 (tX RI.f2 (fun W HW => ((HW.f3).jL hkl).1) (fun W HW => ((HW.f3).jL hkl).2) (by omega) (by omega)) ?_)))))
          rintro _ ZI ⟨rfl, Vm⟩
          have hadd : oO G1 ((AE.take i).map cO.says) (AE.getD i default).a (AE.getD i default).dl (AE.getD i default).il = 0 := by
            have hx3 : 0 < (AE.getD i default).dl.length + (AE.getD i default).il.length := hx.2.1
            have hx4 : 0 ≤ (AE.getD i default).a := hx.1
            have hx5 := nR G1 ((AE.take i).map cO.says)
            rw [List.length_map, List.length_take] at hx5
            unfold oO
            rw [if_neg (by omega), if_neg (by omega)]
          have HA2 := Vm
          rw [Au hadd (by decide), Aw hadd (by decide)] at HA2
          refine aA (aS (aj (ah (aW (fP rfl rfl (by omega)) (aO rfl (aA ?_))))))
          refine fD (i + 1) ?_ ?_ ?_ ?_
          · exact (Sub.cons rfl (Sub.nil _))
          · exact (Sub.cons rfl (Sub.cons rfl (Sub.cons rfl (Sub.cons rfl (Sub.nil _)))))
          · (try dsimp only)
            first | done | exact ⟨by omega, by rw [zu hkl]; exact HA2.f2.right.f3.f3.f3⟩
          · (try dsimp only); omega
        · (try simp only [aH] at h4)
          refine eU (aX ?_)
          have hil : i = AE.length := by omega
          have HB := HL
          rw [hil, List.take_length] at HB
          subst Y7
          refine aX (bV (aj (ay (ah (aO rfl (bZ rfl func165 (uf HB) ?_))))))
          rintro _ ZJ ⟨rfl, UA⟩
          obtain ⟨WA, WB, WE⟩ := Gi G1 (AE.map cO.says)
          have HC := UA
          rw [WA, WB, WE, hAs, lJ (by intro hz; exact hp (List.append_eq_nil_iff.1 hz).2), ← hF3] at HC
          have Za := HC.f6
          have Zb := aB.sO Za
          refine aA (aj (ah (aO rfl (bP rfl (bg 33 underlying37 rfl sizeOf35 rfl (aG (aQ 33 (l' := [_, _, _, _, _, _, _, _, _, _, _, _, _, _, _, _, _, _, _, _, _, _, _, _, _, _, _, _, _, _, _, _, _, _]) Zb.f6 sizeOf35 rfl rfl (by first | rfl | assumption) rfl rfl) ?_))))))
          rintro _ Z9 UH
          refine aA ?_
          refine Ap (.inr rfl) (UH.f6) (fun w51 Ub => ?_)
          refine ⟨_, SI results96, ?_⟩
          rw [kC hp]
          exact aB.CY (s := { s.jM (s.iM on) with put := [] }) (kC hp ▸ Di dD ⟨hF1, hF2, hF3⟩ hp hG1) rfl Ub.f3.right.f3.right.f3.right.f9.right.f9.f9.f9.f5.f9.f7.f9.f9.f9
    · (try simp only [aH] at h2)
      have hn : on = false := h2
      obtain ⟨ov, rD, G1, hF, hG1, HF⟩ : ∃ ov rD G1, Ph s on rD G1 ∧ (∀ g ∈ G1, ∀ x ∈ g, uh x) ∧ aB w0 w3 (dB b3 (.cells #[ov] 35 (0, 0)) • Row 101 3 ov rD.length (rD.flatMap cO.enc) • iR rD • dQ lp2 G1 [] 0 • R4) :=
        ⟨.slice none 0 0, [], s.here, Nk hp hn, hO, (aB.oh HR4.f2.f2 none).of_eq (by unfold DX; ac_rfl)⟩
      subst YR
      refine aP (aj (ay ?_))
      obtain ⟨hF1, hF2, hF3⟩ := hF
      have hl1 : rD.length ≤ 16384 := by omega
      have hl2 : s.put.length ≤ 16384 := by omega
      refine ah (aO rfl (bZ rfl func163 (pX HF.f4 (by omega)) ?_))
      rintro _ w52 ⟨rfl, Sj⟩
      refine aA (aj (ay (ay ?_)))
      have Po := Sj.drew
      have xE := aB.kp (Po.f15.f15.f15.f15.f15.f15.f15.f15.f15.f15.f15.f15.f15.f15.f15)
      refine yQ [0, 4] xE rfl (je 0 rfl xE (fun W hW => jE underlying35 rfl ((Kp.h hW).f2).get.2 rfl) (iE 1 rfl xE rfl (jF 2 rfl xE rfl (gG 3 rfl xE 33 underlying37 rfl sizeOf35 rfl (je 4 rfl xE (fun W hW => jE underlying35 rfl ((Kp.h hW).f6).get.2 rfl) (iE 7 rfl xE rfl (jQ 5 rfl (gX Po.f3 underlying35 (show (prog.info? 101).map (fun i => (i.zero, i.size, i.bytes)) = some (some (.agg #[.int .i64 0, .slice none 0 0, .slice none 0 0]), 3, 56) by kernel_rfl) rfl rfl rfl ((Po.f13).aT) (by assumption) (by omega) (by omega)) ?_)))))))
      rintro l53 w53 UJ
      have SA := aB.kp (UJ.f15.f15.f15.f15.f15.f15.f15.f15.f15.f15.f15.f15.f15.f15.f15)
      refine fF SA (by kernel_rfl) ?_
      have Zc := UJ.f14.f5.f3
      have Zd := aB.Gg fZ.symm Zc
      obtain ⟨AE, Lp⟩ : ∃ q, q = rD ++ oH := ⟨_, rfl⟩
      have HA := Zd
      rw [← Lp] at HA
      have hAl : AE.length = rD.length + s.put.length := by rw [Lp, List.length_append, fZ]
      have hAs : AE.map cO.says = rD.map cO.says ++ s.put := by rw [Lp, List.map_append, bG]
      have Wy : ∀ x ∈ AE, uh x.says := fun x hx => by
        rw [Lp] at hx
        rcases List.mem_append.1 hx with hx | hx
        · exact hF2 x hx
        · exact YQ x hx
      refine jc 6 rfl SA (fun _ => iH ((HA).aT) underlying35 rfl) (pU (aj (bC ?_)))
      obtain ⟨R56, Ze, Zf⟩ := aB.D9 (HA.f2.f2.f3)
      refine ig [(0, _), (4, _), (32, _), (33, _)] (fun (i : Nat) => [(34, .int .i64 (i : Int))]) (fun (i : Nat) W => i ≤ AE.length ∧ aB w0 W (dQ lp2 G1 ((AE.take i).map cO.says) (0 + 1) • Row 101 3 l53 AE.length (AE.flatMap cO.enc) • iR AE • R56)) (fun (i : Nat) => AE.length - i) (0) (Sub.cons rfl (Sub.cons rfl (Sub.cons rfl (Sub.cons rfl (Sub.nil _))))) (Sub.cons rfl (Sub.nil _)) ⟨by omega, Zf⟩ ?_
      rintro i w57 ⟨hi, HL⟩
      dsimp only [List.cons_append, List.nil_append]
      refine ay (ah (aW (fE rfl rfl) (aA (aj (ay (aN rfl (fun h5 => ?_) (fun h5 => ?_)))))))
      · (try simp only [aH] at h5)
        refine aP (aj (ay (bC (ay (ah ?_)))))
        obtain ⟨aaz, aaA, aaB, Zg⟩ := Rd.Bh ((HL.f2).aT) (by omega)
        cases Zg
        refine aW (iZ underlying35 sizeOf101 rfl rfl (by omega)) (aW (jW (ys := [_, _, _]) ((HL.f2).aT) (by omega) underlying101 rfl sizeOf101 rfl (nO cO.yw (by omega) default) rfl) ?_)
        have hkl : i < AE.length := by omega
        have hx : uh (AE.getD i default).says := Wy _ (by rw [List.getD_eq_getElem?_getD, List.getElem?_eq_getElem hkl]; exact List.getElem_mem hkl)
        have hx1 : (AE.getD i default).dl.length ≤ 1024 := hx.2.2.1
        have hx2 : (AE.getD i default).il.length ≤ 1024 := hx.2.2.2
        refine ji (fV (l := [_, _, _]) HL zeroValue101 rfl) ?_
        rintro _ w58 ⟨b58, rfl, QO⟩
        refine aG (cZ 0 (l' := [_, _, _]) (us := [_, _, _]) QO sizeOf101 rfl rfl rfl (aC (by first | rfl | assumption) (aC (by first | rfl | exact Rd.one (((QO.f4).jL hkl).1)) (aC (by first | rfl | exact Rd.one (((QO.f4).jL hkl).2)) bU))) rfl rfl) ?_
        rintro _ w59 V8
        refine aA (aj (ah (aO rfl (aW (bW underlying101 rfl sizeOf101 rfl rfl (V8).get.2) (bZ rfl func164 (tX V8.f2 (fun W HW => ((HW.f3).jL hkl).1) (fun W HW => ((HW.f3).jL hkl).2) (by omega) (by omega)) ?_)))))
        rintro _ YE ⟨rfl, UK⟩
        have hadd : oO G1 ((AE.take i).map cO.says) (AE.getD i default).a (AE.getD i default).dl (AE.getD i default).il = 0 := by
          have hx3 : 0 < (AE.getD i default).dl.length + (AE.getD i default).il.length := hx.2.1
          have hx4 : 0 ≤ (AE.getD i default).a := hx.1
          have hx5 := nR G1 ((AE.take i).map cO.says)
          rw [List.length_map, List.length_take] at hx5
          unfold oO
          rw [if_neg (by omega), if_neg (by omega)]
        have HA2 := UK
        rw [Au hadd (by decide), Aw hadd (by decide)] at HA2
        refine aA (aS (aj (ah (aW (fP rfl rfl (by omega)) (aO rfl (aA ?_))))))
        refine fD (i + 1) ?_ ?_ ?_ ?_
        · exact (Sub.cons rfl (Sub.nil _))
        · exact (Sub.cons rfl (Sub.cons rfl (Sub.cons rfl (Sub.cons rfl (Sub.nil _)))))
        · (try dsimp only)
          first | done | exact ⟨by omega, by rw [zu hkl]; exact HA2.f2.right.f3.f3.f3⟩
        · (try dsimp only); omega
      · (try simp only [aH] at h5)
        refine eU (aX ?_)
        have hil : i = AE.length := by omega
        have HB := HL
        rw [hil, List.take_length] at HB
        subst Ze
        refine aX (bV (aj (ay (ah (aO rfl (bZ rfl func165 (uf HB) ?_))))))
        rintro _ w61 ⟨rfl, Xh⟩
        obtain ⟨WA, WB, WE⟩ := Gi G1 (AE.map cO.says)
        have HC := Xh
        rw [WA, WB, WE, hAs, lJ (by intro hz; exact hp (List.append_eq_nil_iff.1 hz).2), ← hF3] at HC
        have Zh := HC.f5
        have Zi := aB.sO Zh
        refine aA (aj (ah (aO rfl (bP rfl (bg 33 underlying37 rfl sizeOf35 rfl (aG (aQ 33 (l' := [_, _, _, _, _, _, _, _, _, _, _, _, _, _, _, _, _, _, _, _, _, _, _, _, _, _, _, _, _, _, _, _, _, _]) Zi.f5 sizeOf35 rfl rfl (by first | rfl | assumption) rfl rfl) ?_))))))
        rintro _ w64 Wn
        refine aA (fM (.inr rfl) results96 ?_)
        rw [kC hp]
        exact aB.CY (s := { s.jM (s.iM on) with put := [] }) (kC hp ▸ Di dD ⟨hF1, hF2, hF3⟩ hp hG1) rfl Wn.f3.right.f3.right.f3.right.f9.right.f9.f9.f9.f5.f9.f7.f9.f9.f9
end
end Go.Proofs.YtgndbccogcofjaaGreatDoor
end
section
namespace Go.Proofs.YtgndbccogcofjaaGreatDoor
open Go.RowKit
open _root_.Go.Proofs.Tryz
section
variable {w0 w : World} {F : HP} {e : Nat} {s : aZ}
theorem D5 (H : aB w0 w (dw e s • F)) (hi : s.dN = false) : fA prog 24 #[.pointer (some ⟨e, 0, none⟩)] w fun v w' => ∃ q, v = .pointer (some ⟨q, 0, none⟩) ∧ aB w0 w' (dw e s • F) := by
 refine fU func24 ntmps24 ?_
 dsimp only [aY, Nat.reduceAdd]
 refine ay (ah (aU rfl (aA (aj (ay (ay (ah (aO rfl (bZ rfl func32 (ku H) ?_)))))))))
 rintro _ _ ⟨rfl, rfl⟩
 refine aA (aj (oK (aP (aj (ay ?_)))))
 obtain ⟨qy, qA, qB, qC, qE, qF, qG, qH, oH, mP, mQ, mV, mW, mX, mY, mZ, ng, ni, ny, nC, dD, bG, fZ, dG⟩ := (H).AA
 have hwo := ql (dG.f11)
 simp only [List.all_cons, List.all_nil, Bool.and_true, Bool.and_eq_true] at hwo
 obtain ⟨o0, o1, o2, o3, o4, o5, o6, o7, o8, o9, oa⟩ := hwo
 have hon := (dG.f10).BU
 have hpl : s.put.length ≤ 16384 := by have h9 := dD.2.2.2.2.1; unfold dR at h9; omega
 refine ah (aO rfl (bP rfl (aW (bW underlying37 rfl sizeOf37 rfl rfl (dG).get.2) (ji (fV (l := [_, _, _, _, _, _, _, _, _, _, _, _, _, _, _, _, _, _, _, _, _, _, _, _, _, _, _, _, _, _, _, _, _, _]) dG zeroValue37 rfl) ?_))))
 rintro _ w3 ⟨b3, rfl, H3⟩
 refine aG (cZ 0 (l' := [_, _, _, _, _, _, _, _, _, _, _, _, _, _, _, _, _, _, _, _, _, _, _, _, _, _, _, _, _, _, _, _, _, _]) (us := [_, _, _, _, _, _, _, _, _, _, _, _, _, _, _, _, _, _, _, _, _, _, _, _, _, _, _, _, _, _, _, _, _, _]) H3 sizeOf37 rfl rfl rfl (aC (by first | rfl | assumption) (aC (by first | rfl | assumption) (aC (by first | rfl | assumption) (aC (by first | rfl | assumption) (aC (by first | rfl | assumption) (aC (by first | rfl | assumption) (aC (by first | rfl | assumption) (aC (by first | rfl | assumption) (aC (by first | rfl | assumption) (aC (by first | rfl | assumption) (aC (by first | rfl | assumption) (aC (by first | rfl | assumption) (aC (by first | rfl | assumption) (aC (by first | rfl | assumption) (aC (by first | rfl | assumption) (aC (by first | rfl | assumption) (aC (by first | rfl | assumption) (aC (by first | rfl | assumption) (aC (by first | rfl | assumption) (aC (by first | rfl | assumption) (aC (by first | rfl | assumption) (aC (by first | rfl | assumption) (aC (by first | rfl | assumption) (aC (by first | rfl | assumption) (aC (by first | rfl | assumption) (aC (by first | rfl | assumption) (aC (by first | rfl | assumption) (aC (by first | rfl | assumption) (aC (by first | rfl | assumption) (aC (by first | rfl | assumption) (aC (by first | rfl | assumption) (aC (by first | rfl | assumption) (aC (by first | rfl | assumption) (aC (by first | rfl | exact Rd.one ((H3.f10).aT)) bU)))))))))))))))))))))))))))))))))) rfl rfl) ?_
 rintro _ w4 H4
 refine aA (aj (ay (ah (aO rfl (bP rfl (bg 0 underlying37 rfl sizeOf32 rfl (aW (qL 0 (xs := [_, _, _, _, _, _, _, _, _, _, _]) underlying32 rfl sizeOf32 rfl rfl (H4.f2).get.2 rfl) (bZ rfl func44 (Iw H4.f7.f7.f7.f7.f7) ?_))))))))
 rintro _ w5 ⟨qb5, qr5, qw5, qt5, qm5, rfl, H5⟩
 refine bg 0 underlying37 rfl sizeOf32 rfl (aG (cZ 0 (l' := [_, _, _, _, _, _, _, _, _, _, _, _, _, _, _, _, _, _, _, _, _, _, _, _, _, _, _, _, _, _, _, _, _, _]) (us := [_, _, _, _, _, _, _, _, _, _, _]) H5.f11 sizeOf32 rfl rfl rfl (aC (by first | rfl | assumption) (aC (by first | rfl | assumption) (aC (by first | rfl | assumption) (aC (by first | rfl | assumption) (aC (by first | rfl | assumption) (aC (by first | rfl | assumption) (aC (by first | rfl | assumption) (aC (by first | rfl | assumption) (aC (by first | rfl | assumption) (aC (by first | rfl | assumption) (aC (by first | rfl | assumption) bU))))))))))) rfl rfl) ?_)
 rintro _ w6 H6
 have VE := H6.f5.right
 have Hd8 := VE.f2.right
 have Hd9 := Hd8.f2.right
 have Zj := Hd9.f2.right
 have Jw := Zj.f2.right
 refine aA (aj (ay (ay (ah (aO rfl (bP rfl (bg 16 underlying37 rfl sizeOf4 rfl (dS underlying4 rfl (Jw.f7).get.2 rfl (aA (aj (aN rfl (fun h => by exfalso; (try simp only [aH] at h); rw [hi] at h; simp at h) (fun h1 => ?_))))))))))))
 (try simp only [aH] at h1)
 refine aP (aj (ay (ah (aO rfl (bP rfl (bg 11 underlying37 rfl sizeOf33 rfl (dS underlying33 rfl (Jw.f7).get.2 rfl (bZ rfl func45 (mF Jw.f8) ?_))))))))
 rintro _ w12 ⟨q12, rfl, wE⟩
 refine bg 11 underlying37 rfl sizeOf33 rfl (aG (aQ 11 (l' := [_, _, _, _, _, _, _, _, _, _, _, _, _, _, _, _, _, _, _, _, _, _, _, _, _, _, _, _, _, _, _, _, _, _]) wE.f3 sizeOf33 rfl rfl (by first | rfl | assumption) rfl rfl) ?_)
 rintro _ ND vY
 have QV := vY.f2.right
 refine aA (aj (ay (ah (aO rfl (bP rfl (bg 33 underlying37 rfl sizeOf35 rfl (dS underlying35 rfl (QV.f8).get.2 rfl (bZ rfl func46 (uK QV (fun W HW => (HW.f10).aT) hon (by omega)) ?_))))))))
 rintro u15 Oe xO
 refine bg 33 underlying37 rfl sizeOf35 rfl (aG (aQ 33 (l' := [_, _, _, _, _, _, _, _, _, _, _, _, _, _, _, _, _, _, _, _, _, _, _, _, _, _, _, _, _, _, _, _, _, _]) xO.f2 sizeOf35 rfl rfl (by first | rfl | exact Rd.one ((xO).aT)) rfl rfl) ?_)
 rintro _ w16 tJ
 have Jy := tJ.f2.right
 refine aA (aj (ay (ah (aW (eH (zl := [.int .i64 0]) (pl := [(0, 0), (0, 0), (0, 1)]) [_] underlying106 zeroValue106 rfl (fun w => by kernel_rfl) rfl (.zero (zs := []) rfl (.zero (zs := []) rfl (.zero (zs := [.int .i64 0]) rfl .nil))) rfl) (ji (iG (l := [_]) Jy rfl rfl) ?_)))))
 rintro _ Rx ⟨b18, rfl, Ei⟩
 refine bg 12 underlying37 rfl sizeOf34 rfl (aG (aQ 12 (l' := [_, _, _, _, _, _, _, _, _, _, _, _, _, _, _, _, _, _, _, _, _, _, _, _, _, _, _, _, _, _, _, _, _, _]) Ei.f2 sizeOf34 rfl rfl (by first | rfl | assumption) rfl rfl) ?_)
 rintro _ RF BF
 refine aA (aj (ay ?_))
 have Gj := BF.drew
 have uj := aB.kp (Gj.f13.f13.f13.f13.f13.f13.f13.f13.f13.f13.f13.f13.f13)
 refine yQ [1, 5] uj rfl (gG 0 rfl uj 12 underlying37 rfl sizeOf34 rfl (je 1 rfl uj (fun W hW => jE underlying34 rfl ((Kp.h hW)).get.2 rfl) (iE 2 rfl uj rfl (jF 3 rfl uj rfl (gG 4 rfl uj 12 underlying37 rfl sizeOf34 rfl (je 5 rfl uj (fun W hW => jE underlying34 rfl ((Kp.h hW).f9).get.2 rfl) (jQ 6 rfl (wK rfl func36 (DY Gj.f10)) ?_)))))))
 rintro _ _ ⟨rfl, rfl⟩
 have zS := aB.kp (Gj.f13.f13.f13.f13.f13.f13.f13.f13.f13.f13.f13.f13.f13)
 refine dP zS (fun W hW => (Kp.h hW).f13.f13.f13.f13.f13.f13.f13.f13.f13.f13.f13.f13.f13) ?_
 refine jQ 7 rfl (wK rfl func47 (Df Gj.f2)) ?_
 rintro _ Ti oM
 have WH := aB.kp (oM.f13.f13.f13.f13.f13.f13.f13.f13.f13.f13.f13.f13.f13)
 refine fF WH (by kernel_rfl) ?_
 refine pU (aj (ay (ah (aU rfl (aA (aj (aJ (aI (.inl rfl) results24 rfl ?_))))))))
 have Zk := oM.f13.f13.f13.f13.f7.f12.f12.f12.f12.f12.f13
 have Zl := aB.dF (s := s) dD bG Zk
 exact ⟨_, rfl, Zl.f2.right.f2.right⟩
end
end Go.Proofs.YtgndbccogcofjaaGreatDoor
end
section
namespace Go.Proofs.YtgndbccogcofjaaGreatDoor
open Go.RowKit
open _root_.Go.Proofs.Tryz
namespace aZ
variable (s : aZ)
def QW (i j : Int) (b : Bool) : Int := if j ≤ i then 6 else s.ED i j b
def Pq (i j : Int) (b : Bool) : aZ := if j ≤ i then s else s.nH i j b
def Nl (n : Int) : Int := if n < 0 then s.QW (qo s.c.L s.c.pt n) s.c.pt true else s.QW s.c.pt (qo s.c.L s.c.pt n) false
def J4 (n : Int) : aZ := if n < 0 then s.Pq (qo s.c.L s.c.pt n) s.c.pt true else s.Pq s.c.pt (qo s.c.L s.c.pt n) false
end aZ
theorem Lr {w0 w : World} {F : HP} {e : Nat} {s : aZ} (H : aB w0 w (dw e s • F)) : jJ s := by
  obtain ⟨pb, pr, pw, pt, pm, ph, bl, pv, es, u0, u1, u2, u3, u4, u5, u6, u7, u8, u9, ua, h, _⟩ := H.AA
  exact h
theorem yK {s : aZ} (h : jJ s) : -1000000 ≤ s.count ∧ s.count ≤ 1000000 := by
  have h := h.2.2.1
  unfold aZ.count
  dsimp only
  by_cases h1 : s.given = true <;> by_cases h2 : s.arg < 0 <;> by_cases h3 : s.minus = true <;> simp only [h1, h2, h3, if_true, if_false, Bool.false_eq_true] <;> omega
section
variable {w0 w : World} {F : HP} {c e : Nat} {s : aZ} {lv kv : Value} {l keys : List Int} {p m n nn i j : Int} {g back : Bool}
theorem IQ (H : aB w0 w (dB c (.cells #[.pointer (some ⟨e, 0, none⟩), lv, .int .i64 p, .int .i64 m, .int .i64 nn, .bool g, kv] 79 (0, 0)) • iL 21 .i32 lv l • F)) (hT : tH w0) (h3 : -1000000 ≤ n) (h4 : n ≤ 1000000) : fA prog 121 #[.pointer (some ⟨c, 0, none⟩), .int .i64 n] w fun v w' => v = .int .i64 (qo l p n) ∧ aB w0 w' (dB c (.cells #[.pointer (some ⟨e, 0, none⟩), lv, .int .i64 p, .int .i64 m, .int .i64 nn, .bool g, kv] 79 (0, 0)) • iL 21 .i32 lv l • F) := by
 refine fU func121 ntmps121 ?_
 dsimp only [aY, Nat.reduceAdd]
 refine ay (ah (aU rfl (aA (aj (ay (ay (ah (aO rfl (aW (jH rfl rfl) (aA (aj (aN rfl (fun h1 => ?_) (fun h1 => ?_)))))))))))))
 ·(try simp only [aH] at h1)
  have hc := h1
  refine ay (ah (aO rfl (aO rfl (bP rfl (bg 2 underlying79 rfl sizeOf3 rfl (dS underlying3 rfl (H).get.2 rfl (aO rfl (bZ rfl func125 (zV H.f2.f2 (Nh hT) (by omega)) ?_))))))))
  rintro _ w1 ⟨rfl, H1⟩
  refine aU rfl (aA (aj (aJ (aK (aI (.inl rfl) results121 rfl ?_)))))
  exact ⟨by unfold qo; rw [if_pos hc], H1⟩
 ·(try simp only [aH] at h1)
  have hc := h1
  refine aP (aj (ay (ah (aO rfl (aO rfl (bP rfl (bg 2 underlying79 rfl sizeOf3 rfl (dS underlying3 rfl (H).get.2 rfl (aO rfl (aW (Kv rfl (by omega)) (bZ rfl func125 (zV H.f2.f2 (IJ hT) (by omega)) ?_)))))))))))
  rintro _ w2 ⟨rfl, H2⟩
  refine aU rfl (aA (aj (aJ (aI (.inl rfl) results121 rfl ?_))))
  exact ⟨by unfold qo; rw [if_neg (by omega)], H2⟩
theorem yL (H : aB w0 w (dB c (.cells #[.pointer (some ⟨e, 0, none⟩), lv, .int .i64 p, .int .i64 m, .int .i64 nn, .bool g, kv] 79 (0, 0)) • dw e s • F)) : fA prog 141 #[.pointer (some ⟨c, 0, none⟩), .int .i64 i, .int .i64 j, .bool back] w fun v w' => v = .int .i64 (s.QW i j back) ∧ aB w0 w' (dB c (.cells #[.pointer (some ⟨e, 0, none⟩), lv, .int .i64 p, .int .i64 m, .int .i64 nn, .bool g, kv] 79 (0, 0)) • dw e (s.Pq i j back) • F) := by
 refine fU func141 ntmps141 ?_
 dsimp only [aY, Nat.reduceAdd]
 refine ay (ah (aU rfl (aA (aj (ay (ay (ah (aO rfl (aO rfl (aW (jH rfl rfl) (aA (aj (aN rfl (fun h1 => ?_) (fun h1 => ?_))))))))))))))
 ·(try simp only [aH] at h1)
  have hc := h1
  refine ay (ah (aU rfl (aA (aj (aJ (aK (aI (.inl rfl) results141 rfl ?_)))))))
  exact ⟨by unfold aZ.QW; rw [if_pos (by omega)], by unfold aZ.Pq; rw [if_pos (by omega)]; exact H.f2.f2⟩
 ·(try simp only [aH] at h1)
  have hc := h1
  refine aP (aj (ay (ah (aO rfl (bP rfl (bg 0 underlying79 rfl sizeOf26 rfl (dS underlying26 rfl (H).get.2 rfl (aO rfl (aO rfl (aO rfl (bZ rfl func202 (IG H.f2) ?_)))))))))))
  rintro _ w1 ⟨rfl, H1⟩
  refine aU rfl (aA (aj (aJ (aI (.inl rfl) results141 rfl ?_))))
  exact ⟨by unfold aZ.QW; rw [if_neg (by omega)], by unfold aZ.Pq; rw [if_neg (by omega)]; exact H1.f2⟩
theorem EL (H : aB w0 w (dB c (.cells #[.pointer (some ⟨e, 0, none⟩), lv, .int .i64 s.c.pt, .int .i64 m, .int .i64 nn, .bool g, kv] 79 (0, 0)) • iL 21 .i32 lv s.c.L • dw e s • F)) (hT : tH w0) (h3 : -1000000 ≤ n) (h4 : n ≤ 1000000) : fA prog 142 #[.pointer (some ⟨c, 0, none⟩), .int .i64 n] w fun v w' => v = .int .i64 (s.Nl n) ∧ aB w0 w' (dB c (.cells #[.pointer (some ⟨e, 0, none⟩), lv, .int .i64 s.c.pt, .int .i64 m, .int .i64 nn, .bool g, kv] 79 (0, 0)) • iL 21 .i32 lv s.c.L • dw e (s.J4 n) • F) := by
 refine fU func142 ntmps142 ?_
 dsimp only [aY, Nat.reduceAdd]
 refine ay (ah (aU rfl (aA (aj (ay (ah (aO rfl (aO rfl (bZ rfl func121 (IQ H.f2.f2 hT (by omega) (by omega)) ?_)))))))))
 rintro _ w1 ⟨rfl, H1⟩
 refine aU rfl (aA (aj (ay (ay (ah (aO rfl (aW (fE rfl rfl) (aA (aj (aN rfl (fun h1 => ?_) (fun h1 => ?_)))))))))))
 ·(try simp only [aH] at h1)
  have hc := h1
  refine ay (ah (aO rfl (aO rfl (aO rfl (bP rfl (bg 2 underlying79 rfl sizeOf3 rfl (dS underlying3 rfl (H1).get.2 rfl (bZ rfl func141 (yL H1.f3.f2) ?_))))))))
  rintro _ w2 ⟨rfl, H2⟩
  refine aU rfl (aA (aj (aJ (aK (aI (.inl rfl) results142 rfl ?_)))))
  exact ⟨by unfold aZ.Nl; rw [if_pos hc], by unfold aZ.J4; rw [if_pos hc]; exact H2.f2.f3.f3⟩
 ·(try simp only [aH] at h1)
  have hc := h1
  refine aP (aj (ay (ah (aO rfl (aO rfl (bP rfl (bg 2 underlying79 rfl sizeOf3 rfl (dS underlying3 rfl (H1).get.2 rfl (aO rfl (bZ rfl func141 (yL H1.f3.f2) ?_))))))))))
  rintro _ w3 ⟨rfl, H3⟩
  refine aU rfl (aA (aj (aJ (aI (.inl rfl) results142 rfl ?_))))
  exact ⟨by unfold aZ.Nl; rw [if_neg (by omega)], by unfold aZ.J4; rw [if_neg (by omega)]; exact H3.f2.f3.f3⟩
def Ls (w0 : World) (k : Nat) (keys : List Int) (s : aZ) (x : Int) (t : aZ) : Prop := ∀ (F : HP) (W : World) (c e : Nat) (lv kv : Value), aB w0 W (dB c (.cells #[.pointer (some ⟨e, 0, none⟩), lv, .int .i64 s.c.pt, .int .i64 s.c.mark, .int .i64 s.count, .bool s.given, kv] 79 (0, 0)) • iL 21 .i32 lv s.c.L • dw e s • F) → gJ w0 F .i32 kv keys →
  fA prog k #[.pointer (some ⟨c, 0, none⟩)] W fun v W' => v = .int .i64 x ∧ aB w0 W' (dB c (.cells #[.pointer (some ⟨e, 0, none⟩), lv, .int .i64 s.c.pt, .int .i64 s.c.mark, .int .i64 s.count, .bool s.given, kv] 79 (0, 0)) • iL 21 .i32 lv s.c.L • dw e t • F)
theorem IU {w0 : World} {keys : List Int} {s : aZ} (hT : tH w0) : Ls w0 71 keys s (s.Nl s.count) (s.J4 s.count) := by
 intro F w c e lv kv H hk
 have hco := yK (Lr H.f3)
 refine fU func71 ntmps71 ?_
 dsimp only [aY, Nat.reduceAdd]
 refine ay (ah (aU rfl (aA (aj (ay (ah (aO rfl (aO rfl (bP rfl (bg 4 underlying79 rfl sizeOf3 rfl (dS underlying3 rfl (H).get.2 rfl (bZ rfl func142 (EL H.f3.f3.f3 hT (by omega) (by omega)) ?_))))))))))))
 rintro _ w1 ⟨rfl, H1⟩
 refine aU rfl (aA (aj (aJ (aI (.inl rfl) results71 rfl ?_))))
 exact ⟨rfl, H1.f3.f3.f3⟩
theorem Ai {w0 : World} {keys : List Int} {s : aZ} (hT : tH w0) : Ls w0 72 keys s (s.Nl (-s.count)) (s.J4 (-s.count)) := by
 intro F w c e lv kv H hk
 have hco := yK (Lr H.f3)
 refine fU func72 ntmps72 ?_
 dsimp only [aY, Nat.reduceAdd]
 refine ay (ah (aU rfl (aA (aj (ay (ah (aO rfl (aO rfl (bP rfl (bg 4 underlying79 rfl sizeOf3 rfl (dS underlying3 rfl (H).get.2 rfl (aW (Kv rfl (by omega)) (bZ rfl func142 (EL H.f3.f3.f3 hT (by omega) (by omega)) ?_)))))))))))))
 rintro _ w1 ⟨rfl, H1⟩
 refine aU rfl (aA (aj (aJ (aI (.inl rfl) results72 rfl ?_))))
 exact ⟨rfl, H1.f3.f3.f3⟩
theorem QX {w0 : World} {keys : List Int} {s : aZ} : Ls w0 78 keys s (s.uI) (s.oP) := by
 intro F w c e lv kv H hk
 have hco := yK (Lr H.f3)
 refine fU func78 ntmps78 ?_
 dsimp only [aY, Nat.reduceAdd]
 refine ay (ah (aU rfl (aA (aj (ay (ah (aO rfl (bP rfl (bg 0 underlying79 rfl sizeOf26 rfl (dS underlying26 rfl (H).get.2 rfl (bZ rfl func146 (II H.f3) ?_)))))))))))
 rintro _ w1 ⟨rfl, H1⟩
 refine aU rfl (aA (aj (aJ (aI (.inl rfl) results78 rfl ?_))))
 exact ⟨rfl, H1.f3.f3⟩
theorem J5 {w0 : World} {keys : List Int} {s : aZ} : Ls w0 49 keys s (s.qc s.c.L.length) (s.kP s.c.L.length) := by
 intro F w c e lv kv H hk
 have hco := yK (Lr H.f3)
 refine fU func49 ntmps49 ?_
 dsimp only [aY, Nat.reduceAdd]
 refine ay (ah (aU rfl (aA (aj (ay ?_)))))
 have JL := H.drew
 have jh := aB.kp (JL.f3.f3.f3)
 refine yQ [3, 7] jh rfl (iE 0 rfl jh rfl (jF 1 rfl jh rfl (gG 2 rfl jh 0 underlying79 rfl sizeOf26 rfl (je 3 rfl jh (fun W hW => jE underlying26 rfl ((Kp.h hW)).get.2 rfl) (iE 4 rfl jh rfl (jF 5 rfl jh rfl (gG 6 rfl jh 1 underlying79 rfl sizeOf22 rfl (je 7 rfl jh (fun W hW => jE underlying22 rfl ((Kp.h hW)).get.2 rfl) (jc 8 rfl jh (fun _ => gY ((JL.f2).aT) underlying22 rfl) (jQ 9 rfl (wK rfl func42 (zU JL.f3)) ?_))))))))))
 rintro _ w1 ⟨rfl, H1⟩
 have WI := aB.kp (H1.f3.f3.f3)
 refine fF WI (by kernel_rfl) ?_
 refine jc 10 rfl WI (fun _ => fO rfl) (pU (aj (aJ (aI (.inl rfl) results49 rfl ?_))))
 exact ⟨rfl, H1.f3.f3⟩
end
end Go.Proofs.YtgndbccogcofjaaGreatDoor
end
