import Derived.Test.YtgofgnlkpeghcaaGreatDoorZ4
import Derived.Test.YtgofgnlkpeghcaaGreatDoorZ11
set_option linter.unusedSimpArgs false
set_option linter.unusedVariables false
/- Texts of mine, joined, their names in short: EdF. -/
section
namespace Go.Proofs.YtgofgnlkpeghcaaGreatDoor
open Go.RowKit
open _root_.Go.Proofs.Tryz
theorem acS : (prog.info? 183).map (fun i => (i.zero, i.size, i.bytes)) = some (some (.agg #[.int .i64 0, .slice none 0 0, .slice none 0 0]), 3, 56) := by kernel_rfl
def Yh (c : Nat) (g : List kC) : HP := yC fun (x : Value × List fJ) => fact (x.2.map fJ.says = g) • eF c (.cells #[x.1] 96 (0, 0)) • Row 183 3 x.1 x.2.length (x.2.flatMap fJ.enc) • nX x.2
section
variable {w0 w : World} {F : HP} {e p c n m : Nat} {s : dw} {i j x : Int} {on : Bool} {v : Value} {g : List kC} {Dl es : List fJ} {xs : List Value}
theorem LX (H : V w0 w F) (hr : EL w0 F 3 v n xs) (hon : ∀ u ∈ xs, u.oneCell' = true) (hb : n ≤ 1099511627776) :
    iM prog 105 #[v] w fun v' w' => V w0 w' (Row 183 3 v' n xs • F) := by
  obtain ⟨hlen, a, c, rfl, h2, h3, h4⟩ := hr w H
  refine iQ func105 ntmps105 ?_
  refine kQ O (aO (bY O (aW (zM aV O O) ?_)))
  refine jv O (fun h1 => ?_) (fun h1 => ?_)
  · (try simp only [aF] at h1)
    refine mP O (aC (fD results105 O ?_))
    obtain rfl : a = none := by simpa using h1
    obtain rfl : n = 0 := by
      rcases Nat.eq_zero_or_pos n with h | h
      · exact h
      · obtain ⟨b, o, e, _⟩ := h4 h; cases e
    obtain rfl : xs = [] := List.eq_nil_of_length_eq_zero (by omega)
    exact H.gG none
  · (try simp only [aF] at h1)
    refine iy (jw (iY (NT H aV bJ cO) ?_))
    rintro _ w1 H1
    refine bT O (iY (eX H1 aV acS O O O (hr.under _ H1) hon (by omega) (by omega)) ?_)
    rintro _ w2 H2
    refine ig O (fD results105 O ?_)
    exact H2.of_eq (by rw [Nat.zero_add, List.nil_append])
theorem V.old (H : V w0 w (Yh c g • F)) : ∃ v es, es.map fJ.says = g ∧ V w0 w (eF c (.cells #[v] 96 (0, 0)) • Row 183 3 v es.length (es.flatMap fJ.enc) • nX es • F) := by
  obtain ⟨⟨v, es⟩, H⟩ := H.pO
  obtain ⟨h, H⟩ := H.flat.fact
  exact ⟨v, es, h, H.of_eq (by simp only [dK])⟩
theorem V.abh (h : es.map fJ.says = g) (H : V w0 w (eF c (.cells #[v] 96 (0, 0)) • Row 183 3 v es.length (es.flatMap fJ.enc) • nX es • F)) : V w0 w (Yh c g • F) :=
  V.jG (v, es) (V.deep (V.oG h (H.of_eq (by simp only [dK]))))
theorem V.acT (hg : g = []) (H : V w0 w (eF c (.cells #[.slice none 0 0] 96 (0, 0)) • F)) : V w0 w (Yh c g • F) :=
  V.abh (v := .slice none 0 0) (es := []) hg.symm ((H.wF none).of_eq (by unfold MJ; ac_rfl))
theorem V.MZ (hm : m = es.length) (H : V w0 w (Row 183 3 v (Dl.length + m) (Dl.flatMap fJ.enc ++ es.flatMap fJ.enc) • nX Dl • nX es • F)) : V w0 w (Row 183 3 v (Dl ++ es).length ((Dl ++ es).flatMap fJ.enc) • nX (Dl ++ es) • F) := by
  subst hm
  have h1 : V w0 w (nX Dl • nX es • Row 183 3 v (Dl.length + es.length) (Dl.flatMap fJ.enc ++ es.flatMap fJ.enc) • F) := H.of_eq (by ac_rfl)
  have h2 : V w0 w (nX (Dl ++ es) • Row 183 3 v (Dl.length + es.length) (Dl.flatMap fJ.enc ++ es.flatMap fJ.enc) • F) := h1.F9 (vV (fun I h g => h.app g) _)
  exact h2.swap.of_eq (by rw [List.length_append, List.flatMap_append])
def abj (s : dw) (on : Bool) (Dl : List fJ) (G1 : List (List kC)) : Prop := iD G1 [] + Dl.length = iD s.here [] ∧ (∀ e ∈ Dl, zX e.says) ∧ s.lF on = G1 ++ [Dl.map fJ.says ++ s.put]
theorem Zc (hp : s.put ≠ []) (hn : on = false) : abj s on [] s.here := by
  subst hn
  refine ⟨by simp, by simp, ?_⟩
  unfold dw.lF
  rw [if_neg hp, if_neg (by decide)]
  rfl
theorem Jc : ∀ {G : List (List kC)}, G ≠ [] → (G.dropLast.map List.length).sum + (G.getLastD []).length = (G.map List.length).sum := by
  intro G hG
  have h := List.dropLast_concat_getLast hG
  have h2 : G.getLastD [] = G.getLast hG := by rw [List.getLastD_eq_getLast?, List.getLast?_eq_some_getLast hG]; rfl
  rw [h2]
  conv => rhs; rw [← h]
  simp
theorem U2 (hp : s.put ≠ []) (hn : on = true) (hO : ∀ g ∈ s.here, ∀ e ∈ g, zX e) (h : Dl.map fJ.says = s.here.getLastD []) : abj s on Dl s.here.dropLast := by
  subst hn
  have hlen : Dl.length = (s.here.getLastD []).length := by rw [← h]; simp
  have hm : ∀ e ∈ Dl, e.says ∈ s.here.getLastD [] := fun e he => by rw [← h]; exact List.mem_map.2 ⟨e, he, rfl⟩
  unfold abj dw.lF
  rw [if_neg hp, if_pos rfl]
  by_cases h0 : s.here = []
  · rw [h0] at h hlen hm
    have : Dl = [] := List.eq_nil_of_length_eq_zero (by simpa using hlen)
    subst this
    rw [h0]
    exact ⟨by simp, by simp, rfl⟩
  · have h2 : s.here.getLastD [] = s.here.getLast h0 := by rw [List.getLastD_eq_getLast?, List.getLast?_eq_some_getLast h0]; rfl
    refine ⟨?_, fun e he => hO _ (List.getLast_mem h0) _ (h2 ▸ hm e he), ?_⟩
    · have := Jc h0
      show (s.here.dropLast.map List.length).sum + 0 + Dl.length = (s.here.map List.length).sum + 0
      rw [hlen]; omega
    · rw [List.getLast?_eq_some_getLast h0, h, h2]
theorem OI (G : List (List kC)) : Ho G [] = G.reverse := by unfold Ho qU; rw [if_pos rfl]
theorem WW (G : List (List kC)) : (Ho G []).getD 0 [] = G.getLastD [] := by
  rw [OI, List.getD_eq_getElem?_getD, List.getLastD_eq_getLast?]
  congr 1
  cases G.eq_nil_or_concat with
  | inl h => subst h; rfl
  | inr h => obtain ⟨L, b, rfl⟩ := h; simp
theorem abk {G : List (List kC)} (h : UOk G [] 0) : (∀ g ∈ Ho G [], ∀ e ∈ g, EB e) ∧ ∀ g ∈ Ho G [], g.length ≤ 16384 := by
  rw [OI]
  refine ⟨fun g hg => h.2.2.2.2.1 g (List.mem_reverse.1 hg), fun g hg => ?_⟩
  have h1 := MV (List.mem_reverse.1 hg)
  have h2 := h.2.1
  unfold iD at h2
  simp at h2; omega
theorem SB (G : List (List kC)) (N : List kC) : ad8 G N (0 + 1) = qU G N ∧ ad9 N (0 + 1) = [] ∧ acM (0 + 1) = 0 := ⟨if_pos rfl, if_pos rfl, by unfold acM; rw [if_neg (by decide)]; rfl⟩
theorem QJ (G : List (List kC)) : XW G [] = G.dropLast ∧ XY G [] = [] ∧ XZ G [] 0 = 0 := by
  unfold XW XY XZ qU
  by_cases h : G.length + ([] : List kC).length = 0
  · have : G = [] := List.eq_nil_of_length_eq_zero (by simpa using h)
    subst this
    simp
  · rw [if_neg h, if_neg h, if_neg h, if_pos rfl]; simp
theorem BO {s : dw} (h : s.put = []) : s.fM on = s := by unfold dw.fM; rw [if_pos h]
theorem oW {s : dw} (h : s.put ≠ []) : s.fM on = { s.qR (s.lF on) with put := [] } := by unfold dw.fM; rw [if_neg h]
theorem Jd (G : List (List kC)) (g : List kC) : iD (G ++ [g]) [] = iD G [] + g.length := by unfold iD; simp
theorem OJ (h : pz s) {G1 : List (List kC)} (hF : abj s on Dl G1) (hp : s.put ≠ []) (hG : ∀ g ∈ G1, ∀ e ∈ g, zX e) : pz (s.fM on) := by
  rw [oW hp]
  obtain ⟨h1, h2, h3, h4, h5, h6⟩ := h
  obtain ⟨f1, f2, f3⟩ := hF
  refine ⟨h1, h2, h3, by simp, ?_, ?_⟩
  · show iD (sV s.c.un s.c.place (s.lF on) s.c.place) [] ≤ 16384
    rw [kL, f3, Jd]
    have := nH s.here s.put
    simp; omega
  · intro k g hg e he
    have hg' : g ∈ sV s.c.un s.c.place (s.lF on) k := hg
    by_cases hk : k = s.c.place
    · subst hk
      rw [kL, f3] at hg'
      rcases List.mem_append.1 hg' with hg' | hg'
      · exact hG g hg' e he
      · rw [List.mem_singleton.1 hg'] at he
        rcases List.mem_append.1 he with he | he
        · obtain ⟨q, hq, rfl⟩ := List.mem_map.1 he; exact f2 q hq
        · exact h4 e he
    · rw [uK _ _ hk] at hg'; exact h6 k g hg' e he
theorem J3 {es : List fJ} {k : Nat} (hk : k < es.length) : (es.take (k + 1)).map fJ.says = (es.take k).map fJ.says ++ [(es.getD k default).says] := by
  rw [List.take_succ_eq_append_getElem hk, List.map_append, List.getD_eq_getElem?_getD, List.getElem?_eq_getElem hk]; rfl
theorem sW (H : V w0 w (jq e s • F)) : iM prog 59 #[.pointer (some ⟨e, 0, none⟩), .bool on] w fun _ w' => V w0 w' (jq e (s.fM on) • F) := by
  refine qI func59 ntmps59 ?_
  refine aO (aO ?_)
  obtain ⟨Ap, Aq, Ar, Au, Aw, Az, AA, AB, yE, xk, xq, xu, xw, xA, xB, xC, xE, xG, xH, xI, jf, dX, nG, kF⟩ := (H).Ox
  have hput : iD s.here s.put ≤ 16384 := jf.2.2.2.2.1
  have hsp := nH s.here s.put
  have hO : ∀ g ∈ s.here, ∀ x ∈ g, zX x := jf.2.2.2.2.2 s.c.place
  have hPO : ∀ x ∈ yE, zX x.says := fun x hx => jf.2.2.2.1 _ (by rw [← dX]; exact List.mem_map.2 ⟨x, hx, rfl⟩)
  have aix := (kF.f10).II
  refine aA (mJ O O (bn 33 ah O bG O (fB aV O (kF).get.2 O (aW (fV ((kF.f9).aN) aV O) (aW (kP O O) (jv O (fun h1 => ?_) (fun h1 => ?_)))))))
  · (try simp only [aF] at h1)
    refine mZ (aC (we0 results59 ?_))
    rw [BO (List.eq_nil_of_length_eq_zero (by omega))]
    exact V.jX jf dX kF.f11.f11.f11.f11.f11.f11.f11.f11.f11.f11.f11
  · (try simp only [aF] at h1)
    have hp : s.put ≠ [] := by rintro hz; rw [hz] at h1; simp at h1
    refine iy (bY O (fE O func103 (Fe kF.f6.f5.f3) ?_))
    rintro _ w2 ⟨lp2, rfl, H2⟩
    refine iP O (jw (iY (fK (l := [_]) H2 pV O) ?_))
    rintro _ w3 ⟨b3, rfl, H3⟩
    refine rV (aO ?_)
    obtain ⟨R4, hR4, HR4⟩ := V.ae9 (H3.f2.f2)
    refine aA (bT O (jv O (fun h2 => ?_) (fun h2 => ?_)))
    · (try simp only [aF] at h2)
      have hn : on = true := h2
      refine aO (bY O (fE O func104 (LV HR4.f2) ?_))
      rintro _ w5 ⟨bG5, rfl, H5⟩
      refine jd (bg ?_)
      obtain ⟨_, _, _, _, k1, _⟩ := (H5.f2).Ah
      obtain ⟨hB, hL⟩ := abk k1
      have HF0 := V.oG (q := (0 : Nat) = 0) rfl H5
      obtain ⟨R6, hR6, HR6⟩ := V.Nl (HF0.f4.f2.f3)
      refine Am O (UL bG5 hB hL) (fun j => fact (j = 0) • eF b3 (.cells #[.slice none 0 0] 96 (0, 0)) • R6) (fact False) (fun id => if id = 0 then Yh b3 (s.here.getLastD []) • R6 else fact False) (HR6.f3.f3.f3.f3.f3.f3.comm) (by rfl) ?_ ?_ ?_ ?_
      · rintro l7 j acL vs7 A7 ⟨u1, fs1, afT, rfl, rfl⟩ G7 w7 H7
        try simp only [dK, qL, xK] at H7
        refine ⟨O, ?_⟩
        dsimp only [Uw]
        have HQ := (H7).edL
        obtain rfl : j = 0 := (HQ.f3).fact.1
        have hon := (HQ.f2).II
        have hlen1 : fs1.length ≤ 16384 := by
          have h9 := hL _ (Bh (d := []) acL)
          rw [← afT] at h9
          simpa using h9
        refine aA (iC O (bZ ?_))
        refine RS (HQ.g5) ?_
        intro G8 w8 H8
        try simp only [dK] at H8
        refine bg (bY O (fE O func105 (LX H8 (fun W HW => (HW).aN) hon (by omega)) ?_))
        rintro u9 w9 H9
        refine aI (eY 0 (l' := [_]) H9.f5 bG O O (by first | rfl | exact Rd.one ((H9).aN)) O O) ?_
        rintro _ w10 sF
        refine jd (eH ?_)
        refine vT (by decide) ?_
        refine aaG ?_
        rw [if_pos rfl]
        exact (V.abh (afT.trans (WW _)) sF.f3.right.f4.right.f3.f3.f3).deep
      · rintro D11 Iq sG
        have aax := sG.ed
        try simp only [dK, qL, xK] at aax
        have afU := aax.TS
        have hz := (afU.f3).fact.1
        rw [OI, List.length_reverse] at hz
        have hg0 : s.here.getLastD [] = [] := by show (s.c.un s.c.place).getLastD [] = []; rw [List.eq_nil_of_length_eq_zero hz]; rfl
        have WR := afU.f4
        have WS := V.acT hg0 WR
        have U3 := WS.f4.right
        subst hR6
        subst hR4
        refine aP (aZ (aA (bT O (fE O func106 (Gu U3.f4) ?_))))
        rintro _ Ws ⟨u15, aja, rfl, aiy, CG⟩
        have ahm := CG.right
        have RP := ahm.right
        have abf := RP.f4.right
        obtain ⟨h9a, h9b, h9c⟩ := QJ (s.c.un s.c.place)
        have HX := abf
        rw [h9a, h9b, h9c] at HX
        obtain ⟨ov, Dl, aep, HO⟩ := (HX.f2).old
        have hF := U2 hp hn hO aep
        have hG1 : ∀ g ∈ s.here.dropLast, ∀ x ∈ g, zX x := fun g hg => hO g (List.dropLast_subset _ hg)
        obtain ⟨G1, aeq⟩ : ∃ q, q = (s.c.un s.c.place).dropLast := ⟨_, rfl⟩
        rw [show s.here.dropLast = (s.c.un s.c.place).dropLast from rfl] at hF hG1
        have WX := HO
        rw [← aeq] at hF hG1 WX
        refine rV ?_
        obtain ⟨hF1, hF2, hF3⟩ := hF
        have hl1 : Dl.length ≤ 16384 := by omega
        have hl2 : s.put.length ≤ 16384 := by omega
        refine aA (bT O (fE O func107 (BL WX.f4 (by omega)) ?_))
        rintro _ ZO ⟨rfl, DY⟩
        refine rV (aO ?_)
        have QI := DY.drew
        have wK := V.kp (QI.f16.f16.f16.f16.f16.f16.f16.f16.f16.f16.f16.f16.f16.f16.f16.f16)
        refine uU [0, 4] wK O (iO 0 O wK (fun W hW => jT aV O ((Kp.h hW).f2).get.2 O) (gQ 1 O wK O (jQ 2 O wK O (fQ 3 O wK 33 ah O bG O (iO 4 O wK (fun W hW => jT aV O ((Kp.h hW).f7).get.2 O) (gQ 7 O wK O (lU 5 O (eX QI.f3 aV yw O O O ((QI.f14).aN) (by assumption) (by omega) (by omega)) ?_)))))))
        rintro l20 YT EI
        have I7 := V.kp (EI.f16.f16.f16.f16.f16.f16.f16.f16.f16.f16.f16.f16.f16.f16.f16.f16)
        refine fH I7 (by kernel_rfl) ?_
        have aer := EI.f15.f5.f3
        have aes := V.MZ nG.symm aer
        obtain ⟨AE, Yi⟩ : ∃ q, q = Dl ++ yE := ⟨_, rfl⟩
        have HA := aes
        rw [← Yi] at HA
        have hAl : AE.length = Dl.length + s.put.length := by rw [Yi, List.length_append, nG]
        have hAs : AE.map fJ.says = Dl.map fJ.says ++ s.put := by rw [Yi, List.map_append, dX]
        have hAO : ∀ x ∈ AE, zX x.says := fun x hx => by
          rw [Yi] at hx
          rcases List.mem_append.1 hx with hx | hx
          · exact hF2 x hx
          · exact hPO x hx
        refine iL 6 O I7 (fun _ => fV ((HA).aN) aV O) (qj (aZ (bg ?_)))
        obtain ⟨R23, ahn, aho⟩ := V.Nl (HA.f2.f2.f3)
        refine gq [(0, _), (4, _), (32, _), (33, _)] (fun (i : Nat) => [(34, .int .i64 (i : Int))]) (fun (i : Nat) W => i ≤ AE.length ∧ V w0 W (jW lp2 G1 ((AE.take i).map fJ.says) (0 + 1) • Row 183 3 l20 AE.length (AE.flatMap fJ.enc) • nX AE • R23)) (fun (i : Nat) => AE.length - i) (0) Wh oO ⟨by omega, aho⟩ ?_
        rintro i w24 ⟨hi, HL⟩
        dsimp only [List.cons_append, List.nil_append]
        refine jw (aW (fG O O) (rV (dA O (fun h3 => ?_) (fun h3 => ?_))))
        · (try simp only [aF] at h3)
          refine iy (aO (bg (jw ?_)))
          obtain ⟨ajb, ajc, ajd, ahp⟩ := Rd.nR ((HL.f2).aN) (by omega)
          cases ahp
          refine aW (dD aV bJ O O (by omega)) (aW (qo (ys := [_, _, _]) ((HL.f2).aN) (by omega) aU O bJ O (o8 fJ.IE (by omega) default) O) ?_)
          have hkl : i < AE.length := by omega
          have hx : zX (AE.getD i default).says := hAO _ (by rw [List.getD_eq_getElem?_getD, List.getElem?_eq_getElem hkl]; exact List.getElem_mem hkl)
          have hx1 : (AE.getD i default).dl.length ≤ 1024 := hx.2.2.1
          have hx2 : (AE.getD i default).il.length ≤ 1024 := hx.2.2.2
          refine iY (fK (l := [_, _, _]) HL cO O) ?_
          rintro _ w25 ⟨b25, rfl, NZ⟩
          refine aI (dG 0 (l' := [_, _, _]) (us := [_, _, _]) NZ bJ O O O (aG (aY (by first | rfl | exact Rd.one (((NZ.f4).uh hkl).1)) (aY (by first | rfl | exact Rd.one (((NZ.f4).uh hkl).2)) bK))) O O) ?_
          rintro _ w26 Gh
          refine jd (aA (bT O (aW (dI aU O bJ O O (Gh).get.2) (fE O func108 (Eh Gh.f2 (fun W HW => ((HW.f3).uh hkl).1) (fun W HW => ((HW.f3).uh hkl).2) (by omega) (by omega)) ?_))))
          rintro _ w27 ⟨rfl, JO⟩
          have hadd : yu G1 ((AE.take i).map fJ.says) (AE.getD i default).a (AE.getD i default).dl (AE.getD i default).il = 0 := by
            have hx3 : 0 < (AE.getD i default).dl.length + (AE.getD i default).il.length := hx.2.1
            have hx4 : 0 ≤ (AE.getD i default).a := hx.1
            have hx5 := nH G1 ((AE.take i).map fJ.says)
            rw [List.length_map, List.length_take] at hx5
            unfold yu
            rw [if_neg (by omega), if_neg (by omega)]
          have HA2 := JO
          rw [MQ hadd (by decide), MR hadd (by decide)] at HA2
          refine bZ (aP (aZ (aA (aW (fP O O (by omega)) (bT O (bZ ?_))))))
          refine dN (i + 1) ?_ ?_ ?_ ?_
          · exact oO
          · exact Wh
          · (try dsimp only)
            first | done | exact ⟨by omega, by rw [J3 hkl]; exact HA2.f2.right.f3.f3.f3⟩
          · (try dsimp only); omega
        · (try simp only [aF] at h3)
          refine eH (aT ?_)
          have hil : i = AE.length := by omega
          have HB := HL
          rw [hil, List.take_length] at HB
          subst ahn
          refine aT (bU (aZ (bY O (fE O func109 (Ei HB) ?_))))
          rintro _ w28 ⟨rfl, ZP⟩
          obtain ⟨h8a, h8b, h8c⟩ := SB G1 (AE.map fJ.says)
          have HC := ZP
          rw [h8a, h8b, h8c, hAs, wS (by intro hz; exact hp (List.append_eq_nil_iff.1 hz).2), ← hF3] at HC
          have ael := HC.f6
          have aem := V.DK ael
          refine jd (aA (mJ O O (bn 33 ah O bG O (aI (gV 33 aem.f6 bG) ?_))))
          rintro _ w31 Rz
          refine bZ ?_
          refine Iu (.inr O) (Rz.f6) (fun w32 Pn => ?_)
          refine ⟨_, adN results59, ?_⟩
          rw [oW hp]
          exact V.OC (s := { s.qR (s.lF on) with put := [] }) (oW hp ▸ OJ jf ⟨hF1, hF2, hF3⟩ hp hG1) O Pn.f3.right.f3.right.f3.right.f9.right.f9.f9.f9.f5.f9.f7.f9.f9.f9
      · rintro D w H; exact absurd H.swap.fact.1 id
      · rintro id D33 w33 TM
        refine Decidable.byCases (fun hid : id = 0 => ?_) (fun hid => by rw [if_neg hid] at TM; exact absurd TM.swap.fact.1 fun h => h)
        subst hid
        rw [if_pos rfl] at TM
        have afV := TM.ed
        try simp only [dK, qL, xK] at afV
        have ahq := afV.TS
        subst hR6
        subst hR4
        refine bU (aZ (aA (bT O (fE O func106 (Gu ahq.f4) ?_))))
        rintro _ w34 ⟨u34, aje, rfl, aiz, UU⟩
        have ahr := UU.right
        have ahs := ahr.right
        have aeu := ahs.f3.right
        obtain ⟨h9a, h9b, h9c⟩ := QJ (s.c.un s.c.place)
        have HX := aeu
        rw [h9a, h9b, h9c] at HX
        obtain ⟨ov, Dl, aep, HO⟩ := (HX.f3).old
        have hF := U2 hp hn hO aep
        have hG1 : ∀ g ∈ s.here.dropLast, ∀ x ∈ g, zX x := fun g hg => hO g (List.dropLast_subset _ hg)
        obtain ⟨G1, aeq⟩ : ∃ q, q = (s.c.un s.c.place).dropLast := ⟨_, rfl⟩
        rw [show s.here.dropLast = (s.c.un s.c.place).dropLast from rfl] at hF hG1
        have WX := HO
        rw [← aeq] at hF hG1 WX
        refine rV ?_
        obtain ⟨hF1, hF2, hF3⟩ := hF
        have hl1 : Dl.length ≤ 16384 := by omega
        have hl2 : s.put.length ≤ 16384 := by omega
        refine aA (bT O (fE O func107 (BL WX.f4 (by omega)) ?_))
        rintro _ w38 ⟨rfl, QG⟩
        refine rV (aO ?_)
        have abl := QG.drew
        have Hw := V.kp (abl.f16.f16.f16.f16.f16.f16.f16.f16.f16.f16.f16.f16.f16.f16.f16.f16)
        refine uU [0, 4] Hw O (iO 0 O Hw (fun W hW => jT aV O ((Kp.h hW).f2).get.2 O) (gQ 1 O Hw O (jQ 2 O Hw O (fQ 3 O Hw 33 ah O bG O (iO 4 O Hw (fun W hW => jT aV O ((Kp.h hW).f7).get.2 O) (gQ 7 O Hw O (lU 5 O (eX abl.f3 aV yw O O O ((abl.f14).aN) (by assumption) (by omega) (by omega)) ?_)))))))
        rintro l39 w39 H39
        have U4 := V.kp (H39.f16.f16.f16.f16.f16.f16.f16.f16.f16.f16.f16.f16.f16.f16.f16.f16)
        refine fH U4 (by kernel_rfl) ?_
        have aev := H39.f15.f5.f3
        have U5 := V.MZ nG.symm aev
        obtain ⟨AE, Yi⟩ : ∃ q, q = Dl ++ yE := ⟨_, rfl⟩
        have HA := U5
        rw [← Yi] at HA
        have hAl : AE.length = Dl.length + s.put.length := by rw [Yi, List.length_append, nG]
        have hAs : AE.map fJ.says = Dl.map fJ.says ++ s.put := by rw [Yi, List.map_append, dX]
        have hAO : ∀ x ∈ AE, zX x.says := fun x hx => by
          rw [Yi] at hx
          rcases List.mem_append.1 hx with hx | hx
          · exact hF2 x hx
          · exact hPO x hx
        refine iL 6 O U4 (fun _ => fV ((HA).aN) aV O) (qj (aZ (bg ?_)))
        obtain ⟨R42, aht, ahu⟩ := V.Nl (HA.f2.f2.f3)
        refine gq [(0, _), (4, _), (32, _), (33, _)] (fun (i : Nat) => [(34, .int .i64 (i : Int))]) (fun (i : Nat) W => i ≤ AE.length ∧ V w0 W (jW lp2 G1 ((AE.take i).map fJ.says) (0 + 1) • Row 183 3 l39 AE.length (AE.flatMap fJ.enc) • nX AE • R42)) (fun (i : Nat) => AE.length - i) (0) Wh oO ⟨by omega, ahu⟩ ?_
        rintro i w43 ⟨hi, HL⟩
        dsimp only [List.cons_append, List.nil_append]
        refine jw (aW (fG O O) (rV (dA O (fun h4 => ?_) (fun h4 => ?_))))
        · (try simp only [aF] at h4)
          refine iy (aO (bg (jw ?_)))
          obtain ⟨ajf, ajg, ajh, ahv⟩ := Rd.nR ((HL.f2).aN) (by omega)
          cases ahv
          refine aW (dD aV bJ O O (by omega)) (aW (qo (ys := [_, _, _]) ((HL.f2).aN) (by omega) aU O bJ O (o8 fJ.IE (by omega) default) O) ?_)
          have hkl : i < AE.length := by omega
          have hx : zX (AE.getD i default).says := hAO _ (by rw [List.getD_eq_getElem?_getD, List.getElem?_eq_getElem hkl]; exact List.getElem_mem hkl)
          have hx1 : (AE.getD i default).dl.length ≤ 1024 := hx.2.2.1
          have hx2 : (AE.getD i default).il.length ≤ 1024 := hx.2.2.2
          refine iY (fK (l := [_, _, _]) HL cO O) ?_
          rintro _ w44 ⟨b44, rfl, H44⟩
          refine aI (dG 0 (l' := [_, _, _]) (us := [_, _, _]) H44 bJ O O O (aG (aY (by first | rfl | exact Rd.one (((H44.f4).uh hkl).1)) (aY (by first | rfl | exact Rd.one (((H44.f4).uh hkl).2)) bK))) O O) ?_
          rintro _ w45 VR
          refine jd (aA (bT O (aW (dI aU O bJ O O (VR).get.2) (fE O func108 (Eh VR.f2 (fun W HW => ((HW.f3).uh hkl).1) (fun W HW => ((HW.f3).uh hkl).2) (by omega) (by omega)) ?_))))
          rintro _ w46 ⟨rfl, H46⟩
          have hadd : yu G1 ((AE.take i).map fJ.says) (AE.getD i default).a (AE.getD i default).dl (AE.getD i default).il = 0 := by
            have hx3 : 0 < (AE.getD i default).dl.length + (AE.getD i default).il.length := hx.2.1
            have hx4 : 0 ≤ (AE.getD i default).a := hx.1
            have hx5 := nH G1 ((AE.take i).map fJ.says)
            rw [List.length_map, List.length_take] at hx5
            unfold yu
            rw [if_neg (by omega), if_neg (by omega)]
          have HA2 := H46
          rw [MQ hadd (by decide), MR hadd (by decide)] at HA2
          refine bZ (aP (aZ (aA (aW (fP O O (by omega)) (bT O (bZ ?_))))))
          refine dN (i + 1) ?_ ?_ ?_ ?_
          · exact oO
          · exact Wh
          · (try dsimp only)
            first | done | exact ⟨by omega, by rw [J3 hkl]; exact HA2.f2.right.f3.f3.f3⟩
          · (try dsimp only); omega
        · (try simp only [aF] at h4)
          refine eH (aT ?_)
          have hil : i = AE.length := by omega
          have HB := HL
          rw [hil, List.take_length] at HB
          subst aht
          refine aT (bU (aZ (bY O (fE O func109 (Ei HB) ?_))))
          rintro _ w47 ⟨rfl, H47⟩
          obtain ⟨h8a, h8b, h8c⟩ := SB G1 (AE.map fJ.says)
          have HC := H47
          rw [h8a, h8b, h8c, hAs, wS (by intro hz; exact hp (List.append_eq_nil_iff.1 hz).2), ← hF3] at HC
          have ahw := HC.f6
          have ahx := V.DK ahw
          refine jd (aA (mJ O O (bn 33 ah O bG O (aI (gV 33 ahx.f6 bG) ?_))))
          rintro _ w50 H50
          refine bZ ?_
          refine Iu (.inr O) (H50.f6) (fun w51 H51 => ?_)
          refine ⟨_, adN results59, ?_⟩
          rw [oW hp]
          exact V.OC (s := { s.qR (s.lF on) with put := [] }) (oW hp ▸ OJ jf ⟨hF1, hF2, hF3⟩ hp hG1) O H51.f3.right.f3.right.f3.right.f9.right.f9.f9.f9.f5.f9.f7.f9.f9.f9
    · (try simp only [aF] at h2)
      have hn : on = false := h2
      obtain ⟨ov, Dl, G1, hF, hG1, HF⟩ : ∃ ov Dl G1, abj s on Dl G1 ∧ (∀ g ∈ G1, ∀ x ∈ g, zX x) ∧ V w0 w3 (eF b3 (.cells #[ov] 96 (0, 0)) • Row 183 3 ov Dl.length (Dl.flatMap fJ.enc) • nX Dl • jW lp2 G1 [] 0 • R4) :=
        ⟨.slice none 0 0, [], s.here, Zc hp hn, hO, (V.wF HR4.f2.f2 none).of_eq (by unfold MJ; ac_rfl)⟩
      subst hR4
      refine iy (aO ?_)
      obtain ⟨hF1, hF2, hF3⟩ := hF
      have hl1 : Dl.length ≤ 16384 := by omega
      have hl2 : s.put.length ≤ 16384 := by omega
      refine aA (bT O (fE O func107 (BL HF.f4 (by omega)) ?_))
      rintro _ w52 ⟨rfl, H52⟩
      refine rV (aO ?_)
      have abm := H52.drew
      have Hy := V.kp (abm.f15.f15.f15.f15.f15.f15.f15.f15.f15.f15.f15.f15.f15.f15.f15)
      refine uU [0, 4] Hy O (iO 0 O Hy (fun W hW => jT aV O ((Kp.h hW).f2).get.2 O) (gQ 1 O Hy O (jQ 2 O Hy O (fQ 3 O Hy 33 ah O bG O (iO 4 O Hy (fun W hW => jT aV O ((Kp.h hW).f6).get.2 O) (gQ 7 O Hy O (lU 5 O (eX abm.f3 aV yw O O O ((abm.f13).aN) (by assumption) (by omega) (by omega)) ?_)))))))
      rintro l53 w53 H53
      have adB := V.kp (H53.f15.f15.f15.f15.f15.f15.f15.f15.f15.f15.f15.f15.f15.f15.f15)
      refine fH adB (by kernel_rfl) ?_
      have ahy := H53.f14.f5.f3
      have ahz := V.MZ nG.symm ahy
      obtain ⟨AE, Yi⟩ : ∃ q, q = Dl ++ yE := ⟨_, rfl⟩
      have HA := ahz
      rw [← Yi] at HA
      have hAl : AE.length = Dl.length + s.put.length := by rw [Yi, List.length_append, nG]
      have hAs : AE.map fJ.says = Dl.map fJ.says ++ s.put := by rw [Yi, List.map_append, dX]
      have hAO : ∀ x ∈ AE, zX x.says := fun x hx => by
        rw [Yi] at hx
        rcases List.mem_append.1 hx with hx | hx
        · exact hF2 x hx
        · exact hPO x hx
      refine iL 6 O adB (fun _ => fV ((HA).aN) aV O) (qj (aZ (bg ?_)))
      obtain ⟨R56, ahA, ahB⟩ := V.Nl (HA.f2.f2.f3)
      refine gq [(0, _), (4, _), (32, _), (33, _)] (fun (i : Nat) => [(34, .int .i64 (i : Int))]) (fun (i : Nat) W => i ≤ AE.length ∧ V w0 W (jW lp2 G1 ((AE.take i).map fJ.says) (0 + 1) • Row 183 3 l53 AE.length (AE.flatMap fJ.enc) • nX AE • R56)) (fun (i : Nat) => AE.length - i) (0) Wh oO ⟨by omega, ahB⟩ ?_
      rintro i w57 ⟨hi, HL⟩
      dsimp only [List.cons_append, List.nil_append]
      refine jw (aW (fG O O) (rV (dA O (fun h5 => ?_) (fun h5 => ?_))))
      · (try simp only [aF] at h5)
        refine iy (aO (bg (jw ?_)))
        obtain ⟨aji, ajj, ajk, ahC⟩ := Rd.nR ((HL.f2).aN) (by omega)
        cases ahC
        refine aW (dD aV bJ O O (by omega)) (aW (qo (ys := [_, _, _]) ((HL.f2).aN) (by omega) aU O bJ O (o8 fJ.IE (by omega) default) O) ?_)
        have hkl : i < AE.length := by omega
        have hx : zX (AE.getD i default).says := hAO _ (by rw [List.getD_eq_getElem?_getD, List.getElem?_eq_getElem hkl]; exact List.getElem_mem hkl)
        have hx1 : (AE.getD i default).dl.length ≤ 1024 := hx.2.2.1
        have hx2 : (AE.getD i default).il.length ≤ 1024 := hx.2.2.2
        refine iY (fK (l := [_, _, _]) HL cO O) ?_
        rintro _ w58 ⟨b58, rfl, H58⟩
        refine aI (dG 0 (l' := [_, _, _]) (us := [_, _, _]) H58 bJ O O O (aG (aY (by first | rfl | exact Rd.one (((H58.f4).uh hkl).1)) (aY (by first | rfl | exact Rd.one (((H58.f4).uh hkl).2)) bK))) O O) ?_
        rintro _ w59 H59
        refine jd (aA (bT O (aW (dI aU O bJ O O (H59).get.2) (fE O func108 (Eh H59.f2 (fun W HW => ((HW.f3).uh hkl).1) (fun W HW => ((HW.f3).uh hkl).2) (by omega) (by omega)) ?_))))
        rintro _ w60 ⟨rfl, H60⟩
        have hadd : yu G1 ((AE.take i).map fJ.says) (AE.getD i default).a (AE.getD i default).dl (AE.getD i default).il = 0 := by
          have hx3 : 0 < (AE.getD i default).dl.length + (AE.getD i default).il.length := hx.2.1
          have hx4 : 0 ≤ (AE.getD i default).a := hx.1
          have hx5 := nH G1 ((AE.take i).map fJ.says)
          rw [List.length_map, List.length_take] at hx5
          unfold yu
          rw [if_neg (by omega), if_neg (by omega)]
        have HA2 := H60
        rw [MQ hadd (by decide), MR hadd (by decide)] at HA2
        refine bZ (aP (aZ (aA (aW (fP O O (by omega)) (bT O (bZ ?_))))))
        refine dN (i + 1) ?_ ?_ ?_ ?_
        · exact oO
        · exact Wh
        · (try dsimp only)
          first | done | exact ⟨by omega, by rw [J3 hkl]; exact HA2.f2.right.f3.f3.f3⟩
        · (try dsimp only); omega
      · (try simp only [aF] at h5)
        refine eH (aT ?_)
        have hil : i = AE.length := by omega
        have HB := HL
        rw [hil, List.take_length] at HB
        subst ahA
        refine aT (bU (aZ (bY O (fE O func109 (Ei HB) ?_))))
        rintro _ w61 ⟨rfl, H61⟩
        obtain ⟨h8a, h8b, h8c⟩ := SB G1 (AE.map fJ.says)
        have HC := H61
        rw [h8a, h8b, h8c, hAs, wS (by intro hz; exact hp (List.append_eq_nil_iff.1 hz).2), ← hF3] at HC
        have ahD := HC.f5
        have ahE := V.DK ahD
        refine jd (aA (mJ O O (bn 33 ah O bG O (aI (gV 33 ahE.f5 bG) ?_))))
        rintro _ w64 H64
        refine bZ (kY (.inr O) results59 ?_)
        rw [oW hp]
        exact V.OC (s := { s.qR (s.lF on) with put := [] }) (oW hp ▸ OJ jf ⟨hF1, hF2, hF3⟩ hp hG1) O H64.f3.right.f3.right.f3.right.f9.right.f9.f9.f9.f5.f9.f7.f9.f9.f9
end
end Go.Proofs.YtgofgnlkpeghcaaGreatDoor
end
