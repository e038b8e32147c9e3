import Derived.Test.YtgmpclifphbjkaaGreatDoorZ2
import Derived.Test.YtgmpclifphbjkaaGreatDoorZ14
set_option linter.unusedSimpArgs false
set_option linter.unusedVariables false
/- Texts of mine, joined, their names in short: EdF. -/
section
namespace Go.Proofs.YtgmpclifphbjkaaGreatDoor
open Go.RowKit
open _root_.Go.Proofs.Tryz
theorem VE : (prog.info? 120).map (fun i => (i.zero, i.size, i.bytes)) = some (some (.agg #[.int .i64 0, .slice none 0 0, .slice none 0 0]), 3, 56) := by kernel_rfl
def O6 (c : Nat) (g : List eH) : HP := sS fun (x : Value × List dH) => fact (x.2.map dH.says = g) • dA c (.cells #[x.1] 64 (0, 0)) • Row 120 3 x.1 x.2.length (x.2.flatMap dH.enc) • jT x.2
section
variable {w0 w : World} {F : HP} {e p c n m : Nat} {s : aY} {i j x : Int} {on : Bool} {v : Value} {g : List eH} {uU es : List dH} {xs : List Value}
theorem Dy (H : aB w0 w F) (hr : yM w0 F 3 v n xs) (hon : ∀ u ∈ xs, u.oneCell' = true) (hb : n ≤ 1099511627776) :
    fQ prog 81 #[v] w fun v' w' => aB w0 w' (Row 120 3 v' n xs • F) := by
  obtain ⟨hlen, a, c, rfl, h2, h3, h4⟩ := hr w H
  refine gX func81 ntmps81 ?_
  dsimp only [bg, Nat.reduceAdd]
  refine ay (ah (aV rfl (aA (aj (ay (ay (ah (aO rfl (aU (xU underlying64 rfl rfl) (aA (aj (aH rfl (fun h1 => ?_) (fun h1 => ?_)))))))))))))
  · (try simp only [aG] at h1)
    try (exfalso; first | contradiction | omega)
    all_goals
      refine ay (ah (aV rfl (aA (aj (aJ (aK (aP (.inl rfl) results81 rfl ?_)))))))
      obtain rfl : a = none := by simpa using h1
      obtain rfl : n = 0 := by
        rcases Nat.eq_zero_or_pos n with h | h
        · exact h
        · obtain ⟨b, o, e, _⟩ := h4 h; cases e
      obtain rfl : xs = [] := List.eq_nil_of_length_eq_zero (by omega)
      exact H.fZ none
  · (try simp only [aG] at h1)
    try (exfalso; first | contradiction | omega)
    all_goals
      refine aS (aj (ay (ah (iy (EN H underlying64 sizeOf120 zeroValue120) ?_))))
      rintro _ w1 H1
      refine aO rfl (iy (fK H1 underlying64 VE rfl rfl rfl (hr.under _ H1) hon (by omega) (by omega)) ?_)
      rintro _ w2 H2
      refine aV rfl (aA (aj (aJ (aP (.inl rfl) results81 rfl ?_))))
      exact H2.of_eq (by rw [Nat.zero_add, List.nil_append])
theorem aB.old (H : aB w0 w (O6 c g • F)) : ∃ v es, es.map dH.says = g ∧ aB w0 w (dA c (.cells #[v] 64 (0, 0)) • Row 120 3 v es.length (es.flatMap dH.enc) • jT es • F) := by
  obtain ⟨⟨v, es⟩, H⟩ := H.oh
  obtain ⟨h, H⟩ := H.flat.fact
  exact ⟨v, es, h, H.of_eq (by simp only [bV])⟩
theorem aB.TN (h : es.map dH.says = g) (H : aB w0 w (dA c (.cells #[v] 64 (0, 0)) • Row 120 3 v es.length (es.flatMap dH.enc) • jT es • F)) : aB w0 w (O6 c g • F) :=
  aB.iF (v, es) (aB.deep (aB.kJ h (H.of_eq (by simp only [bV]))))
theorem aB.VF (hg : g = []) (H : aB w0 w (dA c (.cells #[.slice none 0 0] 64 (0, 0)) • F)) : aB w0 w (O6 c g • F) :=
  aB.TN (v := .slice none 0 0) (es := []) hg.symm ((H.qL none).of_eq (by unfold Gl; ac_rfl))
theorem aB.Jm (hm : m = es.length) (H : aB w0 w (Row 120 3 v (uU.length + m) (uU.flatMap dH.enc ++ es.flatMap dH.enc) • jT uU • jT es • F)) : aB w0 w (Row 120 3 v (uU ++ es).length ((uU ++ es).flatMap dH.enc) • jT (uU ++ es) • F) := by
  subst hm
  have h1 : aB w0 w (jT uU • jT es • Row 120 3 v (uU.length + es.length) (uU.flatMap dH.enc ++ es.flatMap dH.enc) • F) := H.of_eq (by ac_rfl)
  have h2 : aB w0 w (jT (uU ++ es) • Row 120 3 v (uU.length + es.length) (uU.flatMap dH.enc ++ es.flatMap dH.enc) • F) := h1.DF (qQ (fun I h g => h.app g) _)
  exact h2.swap.of_eq (by rw [List.length_append, List.flatMap_append])
def TP (s : aY) (on : Bool) (uU : List dH) (G1 : List (List eH)) : Prop := dX G1 [] + uU.length = dX s.here [] ∧ (∀ e ∈ uU, wP e.says) ∧ s.gV on = G1 ++ [uU.map dH.says ++ s.put]
theorem Qs (hp : s.put ≠ []) (hn : on = false) : TP s on [] s.here := by
  subst hn
  refine ⟨by simp, by simp, ?_⟩
  unfold aY.gV
  rw [if_neg hp, if_neg (by decide)]
  rfl
theorem wR : ∀ {G : List (List eH)}, G ≠ [] → (G.dropLast.map List.length).sum + (G.getLastD []).length = (G.map List.length).sum := by
  intro G hG
  have h := List.dropLast_concat_getLast hG
  have h2 : G.getLastD [] = G.getLast hG := by rw [List.getLastD_eq_getLast?, List.getLast?_eq_some_getLast hG]; rfl
  rw [h2]
  conv => rhs; rw [← h]
  simp
theorem Le (hp : s.put ≠ []) (hn : on = true) (hO : ∀ g ∈ s.here, ∀ e ∈ g, wP e) (h : uU.map dH.says = s.here.getLastD []) : TP s on uU s.here.dropLast := by
  subst hn
  have hlen : uU.length = (s.here.getLastD []).length := by rw [← h]; simp
  have hm : ∀ e ∈ uU, e.says ∈ s.here.getLastD [] := fun e he => by rw [← h]; exact List.mem_map.2 ⟨e, he, rfl⟩
  unfold TP aY.gV
  rw [if_neg hp, if_pos rfl]
  by_cases h0 : s.here = []
  · rw [h0] at h hlen hm
    have : uU = [] := List.eq_nil_of_length_eq_zero (by simpa using hlen)
    subst this
    rw [h0]
    exact ⟨by simp, by simp, rfl⟩
  · have h2 : s.here.getLastD [] = s.here.getLast h0 := by rw [List.getLastD_eq_getLast?, List.getLast?_eq_some_getLast h0]; rfl
    refine ⟨?_, fun e he => hO _ (List.getLast_mem h0) _ (h2 ▸ hm e he), ?_⟩
    · have := wR h0
      show (s.here.dropLast.map List.length).sum + 0 + uU.length = (s.here.map List.length).sum + 0
      rw [hlen]; omega
    · rw [List.getLast?_eq_some_getLast h0, h, h2]
theorem Fe (G : List (List eH)) : zV G [] = G.reverse := by unfold zV jL; rw [if_pos rfl]
theorem NV (G : List (List eH)) : (zV G []).getD 0 [] = G.getLastD [] := by
  rw [Fe, List.getD_eq_getElem?_getD, List.getLastD_eq_getLast?]
  congr 1
  cases G.eq_nil_or_concat with
  | inl h => subst h; rfl
  | inr h => obtain ⟨L, b, rfl⟩ := h; simp
theorem TQ {G : List (List eH)} (h : Vm G [] 0) : (∀ g ∈ zV G [], ∀ e ∈ g, EB e) ∧ ∀ g ∈ zV G [], g.length ≤ 16384 := by
  rw [Fe]
  refine ⟨fun g hg => h.2.2.2.2.1 g (List.mem_reverse.1 hg), fun g hg => ?_⟩
  have h1 := Jf (List.mem_reverse.1 hg)
  have h2 := h.2.1
  unfold dX at h2
  simp at h2; omega
theorem Jo (G : List (List eH)) (N : List eH) : Xx G N (0 + 1) = jL G N ∧ Xy N (0 + 1) = [] ∧ Vo (0 + 1) = 0 := ⟨if_pos rfl, if_pos rfl, by unfold Vo; rw [if_neg (by decide)]; rfl⟩
theorem Ce (G : List (List eH)) : OD G [] = G.dropLast ∧ OE G [] = [] ∧ OG G [] 0 = 0 := by
  unfold OD OE OG jL
  by_cases h : G.length + ([] : List eH).length = 0
  · have : G = [] := List.eq_nil_of_length_eq_zero (by simpa using h)
    subst this
    simp
  · rw [if_neg h, if_neg h, if_neg h, if_pos rfl]; simp
theorem NW {s : aY} (h : s.put = []) : s.bG on = s := by unfold aY.bG; rw [if_pos h]
theorem mJ {s : aY} (h : s.put ≠ []) : s.bG on = { s.iY (s.gV on) with put := [] } := by unfold aY.bG; rw [if_neg h]
theorem TR (G : List (List eH)) (g : List eH) : dX (G ++ [g]) [] = dX G [] + g.length := by unfold dX; simp
theorem Fg (h : lg s) {G1 : List (List eH)} (hF : TP s on uU G1) (hp : s.put ≠ []) (hG : ∀ g ∈ G1, ∀ e ∈ g, wP e) : lg (s.bG on) := by
  rw [mJ hp]
  obtain ⟨h1, h2, h3, h4, h5, h6⟩ := h
  obtain ⟨f1, f2, f3⟩ := hF
  refine ⟨h1, h2, h3, by simp, ?_, ?_⟩
  · show dX (qY s.c.un s.c.place (s.gV on) s.c.place) [] ≤ 16384
    rw [eX, f3, TR]
    have := qA s.here s.put
    simp; omega
  · intro k g hg e he
    have hg' : g ∈ qY s.c.un s.c.place (s.gV on) k := hg
    by_cases hk : k = s.c.place
    · subst hk
      rw [eX, f3] at hg'
      rcases List.mem_append.1 hg' with hg' | hg'
      · exact hG g hg' e he
      · rw [List.mem_singleton.1 hg'] at he
        rcases List.mem_append.1 he with he | he
        · obtain ⟨q, hq, rfl⟩ := List.mem_map.1 he; exact f2 q hq
        · exact h4 e he
    · rw [qZ _ _ hk] at hg'; exact h6 k g hg' e he
theorem yY {es : List dH} {k : Nat} (hk : k < es.length) : (es.take (k + 1)).map dH.says = (es.take k).map dH.says ++ [(es.getD k default).says] := by
  rw [List.take_succ_eq_append_getElem hk, List.map_append, List.getD_eq_getElem?_getD, List.getElem?_eq_getElem hk]; rfl
theorem ku (H : aB w0 w (dD e s • F)) : fQ prog 53 #[.pointer (some ⟨e, 0, none⟩), .bool on] w fun _ w' => aB w0 w' (dD e (s.bG on) • F) := by
  refine gX func53 ntmps53 ?_
  dsimp only [bg, Nat.reduceAdd]
  refine ay (ay ?_)
  obtain ⟨nD, nN, nO, oG, nP, nR, nS, nT, mG, lu, lC, lD, lF, lG, lH, lI, lJ, lK, lM, lN, cZ, bC, gG, dn⟩ := (H).Ak
  have hput : dX s.here s.put ≤ 16384 := cZ.2.2.2.2.1
  have hsp := qA s.here s.put
  have hO : ∀ g ∈ s.here, ∀ x ∈ g, wP x := cZ.2.2.2.2.2 s.c.place
  have hPO : ∀ x ∈ mG, wP x.says := fun x hx => cZ.2.2.2.1 _ (by rw [← bC]; exact List.mem_map.2 ⟨x, hx, rfl⟩)
  have abZ := (dn.f10).Kq
  refine ah (aO rfl (bH rfl (aZ 33 underlying66 rfl sizeOf64 rfl (cO underlying64 rfl (dn).get.2 rfl (aU (fB ((dn.f9).aT) underlying64 rfl) (aU (dW rfl rfl) (aA (aj (aH rfl (fun h1 => ?_) (fun h1 => ?_))))))))))
  · (try simp only [aG] at h1)
    refine aJ (aK (dN (.inl rfl) results53 ?_))
    rw [NW (List.eq_nil_of_length_eq_zero (by omega))]
    exact aB.dG cZ bC dn.f11.f11.f11.f11.f11.f11.f11.f11.f11.f11.f11
  · (try simp only [aG] at h1)
    have hp : s.put ≠ [] := by rintro hz; rw [hz] at h1; simp at h1
    refine aS (aj (ay (ah (aO rfl (dw rfl func57 (uw dn.f6.f5.f3) ?_)))))
    rintro _ w2 ⟨lp2, rfl, H2⟩
    refine aV rfl (aA (aj (ay (ah (iy (dI (l := [_]) H2 zeroValue64 rfl) ?_)))))
    rintro _ w3 ⟨b3, rfl, H3⟩
    refine aA (aj (ay (ay ?_)))
    obtain ⟨R4, ZI, HR4⟩ := aB.YJ (H3.f2.f2)
    refine ah (aO rfl (aA (aj (aH rfl (fun h2 => ?_) (fun h2 => ?_)))))
    · (try simp only [aG] at h2)
      have hn : on = true := h2
      refine ay (ay (ah (aO rfl (dw rfl func120 (Dx HR4.f2) ?_))))
      rintro _ w5 ⟨bG5, rfl, H5⟩
      refine aA (aj (bf ?_))
      obtain ⟨_, _, _, _, k1, _⟩ := (H5.f2).rW
      obtain ⟨hB, hL⟩ := TQ k1
      have HF0 := aB.kJ (q := (0 : Nat) = 0) rfl H5
      obtain ⟨R6, hR6, HR6⟩ := aB.Gw (HF0.f4.f2.f3)
      refine wH rfl (KJ bG5 hB hL) (fun j => fact (j = 0) • dA b3 (.cells #[.slice none 0 0] 64 (0, 0)) • R6) (fact False) (fun id => if id = 0 then O6 b3 (s.here.getLastD []) • R6 else fact False) (HR6.f3.f3.f3.f3.f3.f3.comm) (by rfl) ?_ ?_ ?_ ?_
      · rintro l7 j Xt vs7 A7 ⟨u1, fs1, ZJ, rfl, rfl⟩ G7 w7 H7
        try simp only [bV, kH, rZ] at H7
        refine ⟨rfl, ?_⟩
        dsimp only [Ns]
        have HQ := (H7).YA
        obtain rfl : j = 0 := (HQ.f3).fact.1
        have hon := (HQ.f2).Kq
        have hlen1 : fs1.length ≤ 16384 := by
          have h9 := hL _ (vM (d := []) Xt)
          rw [← ZJ] at h9
          simpa using h9
        refine ah (aV rfl (aA ?_))
        refine Nr (HQ.g5) ?_
        intro G8 w8 H8
        try simp only [bV] at H8
        refine bf (ay (ah (aO rfl (dw rfl func81 (Dy H8 (fun W HW => (HW).aT) hon (by omega)) ?_))))
        rintro u9 w9 H9
        refine aI (aN 0 (l' := [_]) H9.f5 sizeOf64 rfl rfl (by first | rfl | exact Rd.one ((H9).aT)) rfl rfl) ?_
        rintro _ w10 oP
        refine aA (aj (fG ?_))
        refine zi (by decide) ?_
        refine SC ?_
        rw [if_pos rfl]
        exact (aB.TN (ZJ.trans (NV _)) oP.f3.right.f4.right.f3.f3.f3).deep
      · rintro D11 FT uV
        have RI := uV.ed
        try simp only [bV, kH, rZ] at RI
        have ZK := RI.Ol
        have hz := (ZK.f3).fact.1
        rw [Fe, List.length_reverse] at hz
        have hg0 : s.here.getLastD [] = [] := by show (s.c.un s.c.place).getLastD [] = []; rw [List.eq_nil_of_length_eq_zero hz]; rfl
        have NK := ZK.f4
        have NM := aB.VF hg0 NK
        have aa8 := NM.f4.right
        subst hR6
        subst ZI
        refine aQ (aj (ah (aO rfl (dw rfl func58 (uP aa8.f4) ?_))))
        rintro _ P8 ⟨u15, aci, rfl, ab0, yQ⟩
        have aa9 := yQ.right
        have SA := aa9.right
        have TK := SA.f4.right
        obtain ⟨ZL, ZM, ZN⟩ := Ce (s.c.un s.c.place)
        have HX := TK
        rw [ZL, ZM, ZN] at HX
        obtain ⟨ov, uU, XW, HO⟩ := (HX.f2).old
        have hF := Le hp hn hO XW
        have hG1 : ∀ g ∈ s.here.dropLast, ∀ x ∈ g, wP x := fun g hg => hO g (List.dropLast_subset _ hg)
        obtain ⟨G1, XY⟩ : ∃ q, q = (s.c.un s.c.place).dropLast := ⟨_, rfl⟩
        rw [show s.here.dropLast = (s.c.un s.c.place).dropLast from rfl] at hF hG1
        have ZO := HO
        rw [← XY] at hF hG1 ZO
        refine aA (aj (ay ?_))
        obtain ⟨hF1, hF2, hF3⟩ := hF
        have hl1 : uU.length ≤ 16384 := by omega
        have hl2 : s.put.length ≤ 16384 := by omega
        refine ah (aO rfl (dw rfl func121 (tJ ZO.f4 (by omega)) ?_))
        rintro _ UQ ⟨rfl, xk⟩
        refine aA (aj (ay (ay ?_)))
        have Hz := xk.drew
        have oH := aB.kp (Hz.f16.f16.f16.f16.f16.f16.f16.f16.f16.f16.f16.f16.f16.f16.f16.f16)
        refine uH [0, 4] oH rfl (gQ 0 rfl oH (fun W hW => iI underlying64 rfl ((Kp.h hW).f2).get.2 rfl) (fU 1 rfl oH rfl (iT 2 rfl oH rfl (dP 3 rfl oH 33 underlying66 rfl sizeOf64 rfl (gQ 4 rfl oH (fun W hW => iI underlying64 rfl ((Kp.h hW).f7).get.2 rfl) (fU 7 rfl oH rfl (jH 5 rfl (fK Hz.f3 underlying64 (show (prog.info? 120).map (fun i => (i.zero, i.size, i.bytes)) = some (some (.agg #[.int .i64 0, .slice none 0 0, .slice none 0 0]), 3, 56) by kernel_rfl) rfl rfl rfl ((Hz.f14).aT) (by assumption) (by omega) (by omega)) ?_)))))))
        rintro l20 Vh yR
        have Bf := aB.kp (yR.f16.f16.f16.f16.f16.f16.f16.f16.f16.f16.f16.f16.f16.f16.f16.f16)
        refine fA Bf (by kernel_rfl) ?_
        have abb := yR.f15.f5.f3
        have abd := aB.Jm gG.symm abb
        obtain ⟨AE, O7⟩ : ∃ q, q = uU ++ mG := ⟨_, rfl⟩
        have HA := abd
        rw [← O7] at HA
        have hAl : AE.length = uU.length + s.put.length := by rw [O7, List.length_append, gG]
        have hAs : AE.map dH.says = uU.map dH.says ++ s.put := by rw [O7, List.map_append, bC]
        have ZP : ∀ x ∈ AE, wP x.says := fun x hx => by
          rw [O7] at hx
          rcases List.mem_append.1 hx with hx | hx
          · exact hF2 x hx
          · exact hPO x hx
        refine iJ 6 rfl Bf (fun _ => fB ((HA).aT) underlying64 rfl) (mg (aj (bf ?_)))
        obtain ⟨R23, abe, abf⟩ := aB.Gw (HA.f2.f2.f3)
        refine fM [(0, _), (4, _), (32, _), (33, _)] (fun (i : Nat) => [(34, .int .i64 (i : Int))]) (fun (i : Nat) W => i ≤ AE.length ∧ aB w0 W (fH lp2 G1 ((AE.take i).map dH.says) (0 + 1) • Row 120 3 l20 AE.length (AE.flatMap dH.enc) • jT AE • R23)) (fun (i : Nat) => AE.length - i) (0) (Sub.cons rfl (Sub.cons rfl (Sub.cons rfl (Sub.cons rfl (Sub.nil _))))) (Sub.cons rfl (Sub.nil _)) ⟨by omega, abf⟩ ?_
        rintro i YS ⟨hi, HL⟩
        dsimp only [List.cons_append, List.nil_append]
        refine ay (ah (aU (dL rfl rfl) (aA (aj (ay (aH rfl (fun h3 => ?_) (fun h3 => ?_)))))))
        · (try simp only [aG] at h3)
          refine aS (aj (ay (bf (ay (ah ?_)))))
          obtain ⟨acj, ack, acm, abg⟩ := Rd.rG ((HL.f2).aT) (by omega)
          cases abg
          refine aU (eF underlying64 sizeOf120 rfl rfl (by omega)) (aU (gY (ys := [_, _, _]) ((HL.f2).aT) (by omega) underlying120 rfl sizeOf120 rfl (iQ dH.pI (by omega) default) rfl) ?_)
          have hkl : i < AE.length := by omega
          have hx : wP (AE.getD i default).says := ZP _ (by rw [List.getD_eq_getElem?_getD, List.getElem?_eq_getElem hkl]; exact List.getElem_mem hkl)
          have hx1 : (AE.getD i default).dl.length ≤ 1024 := hx.2.2.1
          have hx2 : (AE.getD i default).il.length ≤ 1024 := hx.2.2.2
          refine iy (dI (l := [_, _, _]) HL zeroValue120 rfl) ?_
          rintro _ Yt ⟨b25, rfl, G6⟩
          refine aI (bJ 0 (l' := [_, _, _]) (us := [_, _, _]) G6 sizeOf120 rfl rfl rfl (aC (by first | rfl | assumption) (aC (by first | rfl | exact Rd.one (((G6.f4).jQ hkl).1)) (aC (by first | rfl | exact Rd.one (((G6.f4).jQ hkl).2)) bn))) rfl rfl) ?_
          rintro _ Yu JZ
          refine aA (aj (ah (aO rfl (aU (bU underlying120 rfl sizeOf120 rfl rfl (JZ).get.2) (dw rfl func122 (wG JZ.f2 (fun W HW => ((HW.f3).jQ hkl).1) (fun W HW => ((HW.f3).jQ hkl).2) (by omega) (by omega)) ?_)))))
          rintro _ Yv ⟨rfl, FZ⟩
          have hadd : rH G1 ((AE.take i).map dH.says) (AE.getD i default).a (AE.getD i default).dl (AE.getD i default).il = 0 := by
            have hx3 : 0 < (AE.getD i default).dl.length + (AE.getD i default).il.length := hx.2.1
            have hx4 : 0 ≤ (AE.getD i default).a := hx.1
            have hx5 := qA G1 ((AE.take i).map dH.says)
            rw [List.length_map, List.length_take] at hx5
            unfold rH
            rw [if_neg (by omega), if_neg (by omega)]
          have HA2 := FZ
          rw [DT hadd (by decide), DU hadd (by decide)] at HA2
          refine aA (aQ (aj (ah (aU (eP rfl rfl (by omega)) (aO rfl (aA ?_))))))
          refine dK (i + 1) ?_ ?_ ?_ ?_
          · exact (Sub.cons rfl (Sub.nil _))
          · exact (Sub.cons rfl (Sub.cons rfl (Sub.cons rfl (Sub.cons rfl (Sub.nil _)))))
          · (try dsimp only)
            first | done | exact ⟨by omega, by rw [yY hkl]; exact HA2.f2.right.f3.f3.f3⟩
          · (try dsimp only); omega
        · (try simp only [aG] at h3)
          refine fG (aX ?_)
          have hil : i = AE.length := by omega
          have HB := HL
          rw [hil, List.take_length] at HB
          subst abe
          refine aX (bM (aj (ay (ah (aO rfl (dw rfl func123 (wJ HB) ?_))))))
          rintro _ w28 ⟨rfl, RN⟩
          obtain ⟨ZQ, ZR, ZT⟩ := Jo G1 (AE.map dH.says)
          have HC := RN
          rw [ZQ, ZR, ZT, hAs, oM (by intro hz; exact hp (List.append_eq_nil_iff.1 hz).2), ← hF3] at HC
          have XK := HC.f6
          have XL := aB.sN XK
          refine aA (aj (ah (aO rfl (bH rfl (aZ 33 underlying66 rfl sizeOf64 rfl (aI (aN 33 (l' := [_, _, _, _, _, _, _, _, _, _, _, _, _, _, _, _, _, _, _, _, _, _, _, _, _, _, _, _, _, _, _, _, _, _]) XL.f6 sizeOf64 rfl rfl (by first | rfl | assumption) rfl rfl) ?_))))))
          rintro _ Yw IQ
          refine aA ?_
          refine DJ (.inr rfl) (IQ.f6) (fun Xj FU => ?_)
          refine ⟨_, WX results53, ?_⟩
          rw [mJ hp]
          exact aB.E8 (s := { s.iY (s.gV on) with put := [] }) (mJ hp ▸ Fg cZ ⟨hF1, hF2, hF3⟩ hp hG1) rfl FU.f3.right.f3.right.f3.right.f9.right.f9.f9.f9.f5.f9.f7.f9.f9.f9
      · rintro D w H; exact absurd H.swap.fact.1 id
      · rintro id D33 w33 P9
        refine Decidable.byCases (fun hid : id = 0 => ?_) (fun hid => by rw [if_neg hid] at P9; exact absurd P9.swap.fact.1 fun h => h)
        subst hid
        rw [if_pos rfl] at P9
        have ZU := P9.ed
        try simp only [bV, kH, rZ] at ZU
        have abh := ZU.Ol
        subst hR6
        subst ZI
        refine bM (aj (ah (aO rfl (dw rfl func58 (uP abh.f4) ?_))))
        rintro _ w34 ⟨u34, acn, rfl, ab1, Tz⟩
        have abj := Tz.right
        have abk := abj.right
        have XZ := abk.f3.right
        obtain ⟨ZL, ZM, ZN⟩ := Ce (s.c.un s.c.place)
        have HX := XZ
        rw [ZL, ZM, ZN] at HX
        obtain ⟨ov, uU, XW, HO⟩ := (HX.f3).old
        have hF := Le hp hn hO XW
        have hG1 : ∀ g ∈ s.here.dropLast, ∀ x ∈ g, wP x := fun g hg => hO g (List.dropLast_subset _ hg)
        obtain ⟨G1, XY⟩ : ∃ q, q = (s.c.un s.c.place).dropLast := ⟨_, rfl⟩
        rw [show s.here.dropLast = (s.c.un s.c.place).dropLast from rfl] at hF hG1
        have ZO := HO
        rw [← XY] at hF hG1 ZO
        refine aA (aj (ay ?_))
        obtain ⟨hF1, hF2, hF3⟩ := hF
        have hl1 : uU.length ≤ 16384 := by omega
        have hl2 : s.put.length ≤ 16384 := by omega
        refine ah (aO rfl (dw rfl func121 (tJ ZO.f4 (by omega)) ?_))
        rintro _ Y3 ⟨rfl, NQ⟩
        refine aA (aj (ay (ay ?_)))
        have TS := NQ.drew
        have Aa := aB.kp (TS.f16.f16.f16.f16.f16.f16.f16.f16.f16.f16.f16.f16.f16.f16.f16.f16)
        refine uH [0, 4] Aa rfl (gQ 0 rfl Aa (fun W hW => iI underlying64 rfl ((Kp.h hW).f2).get.2 rfl) (fU 1 rfl Aa rfl (iT 2 rfl Aa rfl (dP 3 rfl Aa 33 underlying66 rfl sizeOf64 rfl (gQ 4 rfl Aa (fun W hW => iI underlying64 rfl ((Kp.h hW).f7).get.2 rfl) (fU 7 rfl Aa rfl (jH 5 rfl (fK TS.f3 underlying64 (show (prog.info? 120).map (fun i => (i.zero, i.size, i.bytes)) = some (some (.agg #[.int .i64 0, .slice none 0 0, .slice none 0 0]), 3, 56) by kernel_rfl) rfl rfl rfl ((TS.f14).aT) (by assumption) (by omega) (by omega)) ?_)))))))
        rintro l39 w39 H39
        have Lh := aB.kp (H39.f16.f16.f16.f16.f16.f16.f16.f16.f16.f16.f16.f16.f16.f16.f16.f16)
        refine fA Lh (by kernel_rfl) ?_
        have abl := H39.f15.f5.f3
        have abm := aB.Jm gG.symm abl
        obtain ⟨AE, O7⟩ : ∃ q, q = uU ++ mG := ⟨_, rfl⟩
        have HA := abm
        rw [← O7] at HA
        have hAl : AE.length = uU.length + s.put.length := by rw [O7, List.length_append, gG]
        have hAs : AE.map dH.says = uU.map dH.says ++ s.put := by rw [O7, List.map_append, bC]
        have ZP : ∀ x ∈ AE, wP x.says := fun x hx => by
          rw [O7] at hx
          rcases List.mem_append.1 hx with hx | hx
          · exact hF2 x hx
          · exact hPO x hx
        refine iJ 6 rfl Lh (fun _ => fB ((HA).aT) underlying64 rfl) (mg (aj (bf ?_)))
        obtain ⟨R42, abn, abo⟩ := aB.Gw (HA.f2.f2.f3)
        refine fM [(0, _), (4, _), (32, _), (33, _)] (fun (i : Nat) => [(34, .int .i64 (i : Int))]) (fun (i : Nat) W => i ≤ AE.length ∧ aB w0 W (fH lp2 G1 ((AE.take i).map dH.says) (0 + 1) • Row 120 3 l39 AE.length (AE.flatMap dH.enc) • jT AE • R42)) (fun (i : Nat) => AE.length - i) (0) (Sub.cons rfl (Sub.cons rfl (Sub.cons rfl (Sub.cons rfl (Sub.nil _))))) (Sub.cons rfl (Sub.nil _)) ⟨by omega, abo⟩ ?_
        rintro i w43 ⟨hi, HL⟩
        dsimp only [List.cons_append, List.nil_append]
        refine ay (ah (aU (dL rfl rfl) (aA (aj (ay (aH rfl (fun h4 => ?_) (fun h4 => ?_)))))))
        · (try simp only [aG] at h4)
          refine aS (aj (ay (bf (ay (ah ?_)))))
          obtain ⟨aco, acp, acq, abp⟩ := Rd.rG ((HL.f2).aT) (by omega)
          cases abp
          refine aU (eF underlying64 sizeOf120 rfl rfl (by omega)) (aU (gY (ys := [_, _, _]) ((HL.f2).aT) (by omega) underlying120 rfl sizeOf120 rfl (iQ dH.pI (by omega) default) rfl) ?_)
          have hkl : i < AE.length := by omega
          have hx : wP (AE.getD i default).says := ZP _ (by rw [List.getD_eq_getElem?_getD, List.getElem?_eq_getElem hkl]; exact List.getElem_mem hkl)
          have hx1 : (AE.getD i default).dl.length ≤ 1024 := hx.2.2.1
          have hx2 : (AE.getD i default).il.length ≤ 1024 := hx.2.2.2
          refine iy (dI (l := [_, _, _]) HL zeroValue120 rfl) ?_
          rintro _ w44 ⟨b44, rfl, Wv⟩
          refine aI (bJ 0 (l' := [_, _, _]) (us := [_, _, _]) Wv sizeOf120 rfl rfl rfl (aC (by first | rfl | assumption) (aC (by first | rfl | exact Rd.one (((Wv.f4).jQ hkl).1)) (aC (by first | rfl | exact Rd.one (((Wv.f4).jQ hkl).2)) bn))) rfl rfl) ?_
          rintro _ w45 MC
          refine aA (aj (ah (aO rfl (aU (bU underlying120 rfl sizeOf120 rfl rfl (MC).get.2) (dw rfl func122 (wG MC.f2 (fun W HW => ((HW.f3).jQ hkl).1) (fun W HW => ((HW.f3).jQ hkl).2) (by omega) (by omega)) ?_)))))
          rintro _ w46 ⟨rfl, H46⟩
          have hadd : rH G1 ((AE.take i).map dH.says) (AE.getD i default).a (AE.getD i default).dl (AE.getD i default).il = 0 := by
            have hx3 : 0 < (AE.getD i default).dl.length + (AE.getD i default).il.length := hx.2.1
            have hx4 : 0 ≤ (AE.getD i default).a := hx.1
            have hx5 := qA G1 ((AE.take i).map dH.says)
            rw [List.length_map, List.length_take] at hx5
            unfold rH
            rw [if_neg (by omega), if_neg (by omega)]
          have HA2 := H46
          rw [DT hadd (by decide), DU hadd (by decide)] at HA2
          refine aA (aQ (aj (ah (aU (eP rfl rfl (by omega)) (aO rfl (aA ?_))))))
          refine dK (i + 1) ?_ ?_ ?_ ?_
          · exact (Sub.cons rfl (Sub.nil _))
          · exact (Sub.cons rfl (Sub.cons rfl (Sub.cons rfl (Sub.cons rfl (Sub.nil _)))))
          · (try dsimp only)
            first | done | exact ⟨by omega, by rw [yY hkl]; exact HA2.f2.right.f3.f3.f3⟩
          · (try dsimp only); omega
        · (try simp only [aG] at h4)
          refine fG (aX ?_)
          have hil : i = AE.length := by omega
          have HB := HL
          rw [hil, List.take_length] at HB
          subst abn
          refine aX (bM (aj (ay (ah (aO rfl (dw rfl func123 (wJ HB) ?_))))))
          rintro _ w47 ⟨rfl, X0⟩
          obtain ⟨ZQ, ZR, ZT⟩ := Jo G1 (AE.map dH.says)
          have HC := X0
          rw [ZQ, ZR, ZT, hAs, oM (by intro hz; exact hp (List.append_eq_nil_iff.1 hz).2), ← hF3] at HC
          have abq := HC.f6
          have abr := aB.sN abq
          refine aA (aj (ah (aO rfl (bH rfl (aZ 33 underlying66 rfl sizeOf64 rfl (aI (aN 33 (l' := [_, _, _, _, _, _, _, _, _, _, _, _, _, _, _, _, _, _, _, _, _, _, _, _, _, _, _, _, _, _, _, _, _, _]) abr.f6 sizeOf64 rfl rfl (by first | rfl | assumption) rfl rfl) ?_))))))
          rintro _ w50 YC
          refine aA ?_
          refine DJ (.inr rfl) (YC.f6) (fun w51 XQ => ?_)
          refine ⟨_, WX results53, ?_⟩
          rw [mJ hp]
          exact aB.E8 (s := { s.iY (s.gV on) with put := [] }) (mJ hp ▸ Fg cZ ⟨hF1, hF2, hF3⟩ hp hG1) rfl XQ.f3.right.f3.right.f3.right.f9.right.f9.f9.f9.f5.f9.f7.f9.f9.f9
    · (try simp only [aG] at h2)
      have hn : on = false := h2
      obtain ⟨ov, uU, G1, hF, hG1, HF⟩ : ∃ ov uU G1, TP s on uU G1 ∧ (∀ g ∈ G1, ∀ x ∈ g, wP x) ∧ aB w0 w3 (dA b3 (.cells #[ov] 64 (0, 0)) • Row 120 3 ov uU.length (uU.flatMap dH.enc) • jT uU • fH lp2 G1 [] 0 • R4) :=
        ⟨.slice none 0 0, [], s.here, Qs hp hn, hO, (aB.qL HR4.f2.f2 none).of_eq (by unfold Gl; ac_rfl)⟩
      subst ZI
      refine aS (aj (ay ?_))
      obtain ⟨hF1, hF2, hF3⟩ := hF
      have hl1 : uU.length ≤ 16384 := by omega
      have hl2 : s.put.length ≤ 16384 := by omega
      refine ah (aO rfl (dw rfl func121 (tJ HF.f4 (by omega)) ?_))
      rintro _ w52 ⟨rfl, Wy⟩
      refine aA (aj (ay (ay ?_)))
      have TT := Wy.drew
      have Ac := aB.kp (TT.f15.f15.f15.f15.f15.f15.f15.f15.f15.f15.f15.f15.f15.f15.f15)
      refine uH [0, 4] Ac rfl (gQ 0 rfl Ac (fun W hW => iI underlying64 rfl ((Kp.h hW).f2).get.2 rfl) (fU 1 rfl Ac rfl (iT 2 rfl Ac rfl (dP 3 rfl Ac 33 underlying66 rfl sizeOf64 rfl (gQ 4 rfl Ac (fun W hW => iI underlying64 rfl ((Kp.h hW).f6).get.2 rfl) (fU 7 rfl Ac rfl (jH 5 rfl (fK TT.f3 underlying64 (show (prog.info? 120).map (fun i => (i.zero, i.size, i.bytes)) = some (some (.agg #[.int .i64 0, .slice none 0 0, .slice none 0 0]), 3, 56) by kernel_rfl) rfl rfl rfl ((TT.f13).aT) (by assumption) (by omega) (by omega)) ?_)))))))
      rintro l53 w53 YD
      have WI := aB.kp (YD.f15.f15.f15.f15.f15.f15.f15.f15.f15.f15.f15.f15.f15.f15.f15)
      refine fA WI (by kernel_rfl) ?_
      have abt := YD.f14.f5.f3
      have abu := aB.Jm gG.symm abt
      obtain ⟨AE, O7⟩ : ∃ q, q = uU ++ mG := ⟨_, rfl⟩
      have HA := abu
      rw [← O7] at HA
      have hAl : AE.length = uU.length + s.put.length := by rw [O7, List.length_append, gG]
      have hAs : AE.map dH.says = uU.map dH.says ++ s.put := by rw [O7, List.map_append, bC]
      have ZP : ∀ x ∈ AE, wP x.says := fun x hx => by
        rw [O7] at hx
        rcases List.mem_append.1 hx with hx | hx
        · exact hF2 x hx
        · exact hPO x hx
      refine iJ 6 rfl WI (fun _ => fB ((HA).aT) underlying64 rfl) (mg (aj (bf ?_)))
      obtain ⟨R56, abv, abw⟩ := aB.Gw (HA.f2.f2.f3)
      refine fM [(0, _), (4, _), (32, _), (33, _)] (fun (i : Nat) => [(34, .int .i64 (i : Int))]) (fun (i : Nat) W => i ≤ AE.length ∧ aB w0 W (fH lp2 G1 ((AE.take i).map dH.says) (0 + 1) • Row 120 3 l53 AE.length (AE.flatMap dH.enc) • jT AE • R56)) (fun (i : Nat) => AE.length - i) (0) (Sub.cons rfl (Sub.cons rfl (Sub.cons rfl (Sub.cons rfl (Sub.nil _))))) (Sub.cons rfl (Sub.nil _)) ⟨by omega, abw⟩ ?_
      rintro i w57 ⟨hi, HL⟩
      dsimp only [List.cons_append, List.nil_append]
      refine ay (ah (aU (dL rfl rfl) (aA (aj (ay (aH rfl (fun h5 => ?_) (fun h5 => ?_)))))))
      · (try simp only [aG] at h5)
        refine aS (aj (ay (bf (ay (ah ?_)))))
        obtain ⟨acr, acs, acu, abx⟩ := Rd.rG ((HL.f2).aT) (by omega)
        cases abx
        refine aU (eF underlying64 sizeOf120 rfl rfl (by omega)) (aU (gY (ys := [_, _, _]) ((HL.f2).aT) (by omega) underlying120 rfl sizeOf120 rfl (iQ dH.pI (by omega) default) rfl) ?_)
        have hkl : i < AE.length := by omega
        have hx : wP (AE.getD i default).says := ZP _ (by rw [List.getD_eq_getElem?_getD, List.getElem?_eq_getElem hkl]; exact List.getElem_mem hkl)
        have hx1 : (AE.getD i default).dl.length ≤ 1024 := hx.2.2.1
        have hx2 : (AE.getD i default).il.length ≤ 1024 := hx.2.2.2
        refine iy (dI (l := [_, _, _]) HL zeroValue120 rfl) ?_
        rintro _ w58 ⟨b58, rfl, Vz⟩
        refine aI (bJ 0 (l' := [_, _, _]) (us := [_, _, _]) Vz sizeOf120 rfl rfl rfl (aC (by first | rfl | assumption) (aC (by first | rfl | exact Rd.one (((Vz.f4).jQ hkl).1)) (aC (by first | rfl | exact Rd.one (((Vz.f4).jQ hkl).2)) bn))) rfl rfl) ?_
        rintro _ w59 Zy
        refine aA (aj (ah (aO rfl (aU (bU underlying120 rfl sizeOf120 rfl rfl (Zy).get.2) (dw rfl func122 (wG Zy.f2 (fun W HW => ((HW.f3).jQ hkl).1) (fun W HW => ((HW.f3).jQ hkl).2) (by omega) (by omega)) ?_)))))
        rintro _ w60 ⟨rfl, YE⟩
        have hadd : rH G1 ((AE.take i).map dH.says) (AE.getD i default).a (AE.getD i default).dl (AE.getD i default).il = 0 := by
          have hx3 : 0 < (AE.getD i default).dl.length + (AE.getD i default).il.length := hx.2.1
          have hx4 : 0 ≤ (AE.getD i default).a := hx.1
          have hx5 := qA G1 ((AE.take i).map dH.says)
          rw [List.length_map, List.length_take] at hx5
          unfold rH
          rw [if_neg (by omega), if_neg (by omega)]
        have HA2 := YE
        rw [DT hadd (by decide), DU hadd (by decide)] at HA2
        refine aA (aQ (aj (ah (aU (eP rfl rfl (by omega)) (aO rfl (aA ?_))))))
        refine dK (i + 1) ?_ ?_ ?_ ?_
        · exact (Sub.cons rfl (Sub.nil _))
        · exact (Sub.cons rfl (Sub.cons rfl (Sub.cons rfl (Sub.cons rfl (Sub.nil _)))))
        · (try dsimp only)
          first | done | exact ⟨by omega, by rw [yY hkl]; exact HA2.f2.right.f3.f3.f3⟩
        · (try dsimp only); omega
      · (try simp only [aG] at h5)
        refine fG (aX ?_)
        have hil : i = AE.length := by omega
        have HB := HL
        rw [hil, List.take_length] at HB
        subst abv
        refine aX (bM (aj (ay (ah (aO rfl (dw rfl func123 (wJ HB) ?_))))))
        rintro _ w61 ⟨rfl, H61⟩
        obtain ⟨ZQ, ZR, ZT⟩ := Jo G1 (AE.map dH.says)
        have HC := H61
        rw [ZQ, ZR, ZT, hAs, oM (by intro hz; exact hp (List.append_eq_nil_iff.1 hz).2), ← hF3] at HC
        have aby := HC.f5
        have abz := aB.sN aby
        refine aA (aj (ah (aO rfl (bH rfl (aZ 33 underlying66 rfl sizeOf64 rfl (aI (aN 33 (l' := [_, _, _, _, _, _, _, _, _, _, _, _, _, _, _, _, _, _, _, _, _, _, _, _, _, _, _, _, _, _, _, _, _, _]) abz.f5 sizeOf64 rfl rfl (by first | rfl | assumption) rfl rfl) ?_))))))
        rintro _ w64 ZE
        refine aA (dN (.inr rfl) results53 ?_)
        rw [mJ hp]
        exact aB.E8 (s := { s.iY (s.gV on) with put := [] }) (mJ hp ▸ Fg cZ ⟨hF1, hF2, hF3⟩ hp hG1) rfl ZE.f3.right.f3.right.f3.right.f9.right.f9.f9.f9.f5.f9.f7.f9.f9.f9
end
end Go.Proofs.YtgmpclifphbjkaaGreatDoor
end
