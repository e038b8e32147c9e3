import Derived.Test.YtpdeedplgmbopaaGreatDoorZ4
import Derived.Test.YtpdeedplgmbopaaGreatDoorZ12
set_option linter.unusedSimpArgs false
set_option linter.unusedVariables false
/- Texts of mine, joined, their names in short: EdF. -/
section
namespace Go.Proofs.YtpdeedplgmbopaaGreatDoor
open Go.RowKit
open _root_.Go.Proofs.Tryz
theorem Yd : (prog.info? 189).map (fun i => (i.zero, i.size, i.bytes)) = some (some (.agg #[.int .i64 0, .slice none 0 0, .slice none 0 0]), 3, 56) := by kernel_rfl
def Rn (c : Nat) (g : List iT) : HP := rQ fun (x : Value × List dQ) => fact (x.2.map dQ.says = g) • dL c (.cells #[x.1] 80 (0, 0)) • Row 189 3 x.1 x.2.length (x.2.flatMap dQ.enc) • kK x.2
section
variable {w0 w : World} {F : HP} {e p c n m : Nat} {s : dG} {i j x : Int} {on : Bool} {v : Value} {g : List iT} {yg es : List dQ} {xs : List Value}
theorem zy (H : V w0 w F) (hr : RP w0 F 3 v n xs) (hon : ∀ u ∈ xs, u.oneCell' = true) (hb : n ≤ 1099511627776) :
    gJ prog 122 #[v] w fun v' w' => V w0 w' (Row 189 3 v' n xs • F) := by
  obtain ⟨hlen, a, c, rfl, h2, h3, h4⟩ := hr w H
  refine iG func122 ntmps122 ?_
  refine jr O (aP (bT O (aV (zG aU O O) ?_)))
  refine je O (fun h1 => ?_) (fun h1 => ?_)
  · (try simp only [Z] at h1)
    refine jL O (aF (dH results122 O ?_))
    obtain rfl : a = none := by simpa using h1
    obtain rfl : n = 0 := by
      rcases Nat.eq_zero_or_pos n with h | h
      · exact h
      · obtain ⟨b, o, e, _⟩ := h4 h; cases e
    obtain rfl : xs = [] := List.eq_nil_of_length_eq_zero (by omega)
    exact H.iO none
  · (try simp only [Z] at h1)
    refine gq (iH (jv (Gq H aU dW gZ) ?_))
    rintro _ w1 H1
    refine bP O (jv (fU H1 aU Yd O O O (hr.under _ H1) hon (by omega) (by omega)) ?_)
    rintro _ w2 H2
    refine fC O (dH results122 O ?_)
    exact H2.of_eq (by rw [Nat.zero_add, List.nil_append])
theorem V.old (H : V w0 w (Rn c g • F)) : ∃ v es, es.map dQ.says = g ∧ V w0 w (dL c (.cells #[v] 80 (0, 0)) • Row 189 3 v es.length (es.flatMap dQ.enc) • kK es • F) := by
  obtain ⟨⟨v, es⟩, H⟩ := H.lQ
  obtain ⟨h, H⟩ := H.flat.fact
  exact ⟨v, es, h, H.of_eq (by simp only [bW])⟩
theorem V.VZ (h : es.map dQ.says = g) (H : V w0 w (dL c (.cells #[v] 80 (0, 0)) • Row 189 3 v es.length (es.flatMap dQ.enc) • kK es • F)) : V w0 w (Rn c g • F) :=
  V.iy (v, es) (V.deep (V.kD h (H.of_eq (by simp only [bW]))))
theorem V.Ye (hg : g = []) (H : V w0 w (dL c (.cells #[.slice none 0 0] 80 (0, 0)) • F)) : V w0 w (Rn c g • F) :=
  V.VZ (v := .slice none 0 0) (es := []) hg.symm ((H.rE none).of_eq (by unfold Js; ac_rfl))
theorem V.FC (hm : m = es.length) (H : V w0 w (Row 189 3 v (yg.length + m) (yg.flatMap dQ.enc ++ es.flatMap dQ.enc) • kK yg • kK es • F)) : V w0 w (Row 189 3 v (yg ++ es).length ((yg ++ es).flatMap dQ.enc) • kK (yg ++ es) • F) := by
  subst hm
  have h1 : V w0 w (kK yg • kK es • Row 189 3 v (yg.length + es.length) (yg.flatMap dQ.enc ++ es.flatMap dQ.enc) • F) := H.of_eq (by ac_rfl)
  have h2 : V w0 w (kK (yg ++ es) • Row 189 3 v (yg.length + es.length) (yg.flatMap dQ.enc ++ es.flatMap dQ.enc) • F) := h1.DR (tV (fun I h g => h.app g) _)
  exact h2.swap.of_eq (by rw [List.length_append, List.flatMap_append])
def V3 (s : dG) (on : Bool) (yg : List dQ) (G1 : List (List iT)) : Prop := iE G1 [] + yg.length = iE s.here [] ∧ (∀ e ∈ yg, xO e.says) ∧ s.lg on = G1 ++ [yg.map dQ.says ++ s.put]
theorem Tf (hp : s.put ≠ []) (hn : on = false) : V3 s on [] s.here := by
  subst hn
  refine ⟨by simp, by simp, ?_⟩
  unfold dG.lg
  rw [if_neg hp, if_neg (by decide)]
  rfl
theorem Dv : ∀ {G : List (List iT)}, G ≠ [] → (G.dropLast.map List.length).sum + (G.getLastD []).length = (G.map List.length).sum := by
  intro G hG
  have h := List.dropLast_concat_getLast hG
  have h2 : G.getLastD [] = G.getLast hG := by rw [List.getLastD_eq_getLast?, List.getLast?_eq_some_getLast hG]; rfl
  rw [h2]
  conv => rhs; rw [← h]
  simp
theorem NM (hp : s.put ≠ []) (hn : on = true) (hO : ∀ g ∈ s.here, ∀ e ∈ g, xO e) (h : yg.map dQ.says = s.here.getLastD []) : V3 s on yg s.here.dropLast := by
  subst hn
  have hlen : yg.length = (s.here.getLastD []).length := by rw [← h]; simp
  have hm : ∀ e ∈ yg, e.says ∈ s.here.getLastD [] := fun e he => by rw [← h]; exact List.mem_map.2 ⟨e, he, rfl⟩
  unfold V3 dG.lg
  rw [if_neg hp, if_pos rfl]
  by_cases h0 : s.here = []
  · rw [h0] at h hlen hm
    have : yg = [] := List.eq_nil_of_length_eq_zero (by simpa using hlen)
    subst this
    rw [h0]
    exact ⟨by simp, by simp, rfl⟩
  · have h2 : s.here.getLastD [] = s.here.getLast h0 := by rw [List.getLastD_eq_getLast?, List.getLast?_eq_some_getLast h0]; rfl
    refine ⟨?_, fun e he => hO _ (List.getLast_mem h0) _ (h2 ▸ hm e he), ?_⟩
    · have := Dv h0
      show (s.here.dropLast.map List.length).sum + 0 + yg.length = (s.here.map List.length).sum + 0
      rw [hlen]; omega
    · rw [List.getLast?_eq_some_getLast h0, h, h2]
theorem G6 (G : List (List iT)) : BI G [] = G.reverse := by unfold BI mG; rw [if_pos rfl]
theorem Qa (G : List (List iT)) : (BI G []).getD 0 [] = G.getLastD [] := by
  rw [G6, List.getD_eq_getElem?_getD, List.getLastD_eq_getLast?]
  congr 1
  cases G.eq_nil_or_concat with
  | inl h => subst h; rfl
  | inr h => obtain ⟨L, b, rfl⟩ := h; simp
theorem V4 {G : List (List iT)} (h : XO G [] 0) : (∀ g ∈ BI G [], ∀ e ∈ g, EB e) ∧ ∀ g ∈ BI G [], g.length ≤ 16384 := by
  rw [G6]
  refine ⟨fun g hg => h.2.2.2.2.1 g (List.mem_reverse.1 hg), fun g hg => ?_⟩
  have h1 := Fv (List.mem_reverse.1 hg)
  have h2 := h.2.1
  unfold iE at h2
  simp at h2; omega
theorem KU (G : List (List iT)) (N : List iT) : ZW G N (0 + 1) = mG G N ∧ ZX N (0 + 1) = [] ∧ XP (0 + 1) = 0 := ⟨if_pos rfl, if_pos rfl, by unfold XP; rw [if_neg (by decide)]; rfl⟩
theorem JG (G : List (List iT)) : QL G [] = G.dropLast ∧ QM G [] = [] ∧ QN G [] 0 = 0 := by
  unfold QL QM QN mG
  by_cases h : G.length + ([] : List iT).length = 0
  · have : G = [] := List.eq_nil_of_length_eq_zero (by simpa using h)
    subst this
    simp
  · rw [if_neg h, if_neg h, if_neg h, if_pos rfl]; simp
theorem y7 {s : dG} (h : s.put = []) : s.gG on = s := by unfold dG.gG; rw [if_pos h]
theorem lN {s : dG} (h : s.put ≠ []) : s.gG on = { s.wE (s.lg on) with put := [] } := by unfold dG.gG; rw [if_neg h]
theorem Dw (G : List (List iT)) (g : List iT) : iE (G ++ [g]) [] = iE G [] + g.length := by unfold iE; simp
theorem G9 (h : lT s) {G1 : List (List iT)} (hF : V3 s on yg G1) (hp : s.put ≠ []) (hG : ∀ g ∈ G1, ∀ e ∈ g, xO e) : lT (s.gG on) := by
  rw [lN hp]
  obtain ⟨h1, h2, h3, h4, h5, h6⟩ := h
  obtain ⟨f1, f2, f3⟩ := hF
  refine ⟨h1, h2, h3, by simp, ?_, ?_⟩
  · show iE (wU s.c.un s.c.place (s.lg on) s.c.place) [] ≤ 16384
    rw [nO, f3, Dw]
    have := og s.here s.put
    simp; omega
  · intro k g hg e he
    have hg' : g ∈ wU s.c.un s.c.place (s.lg on) k := hg
    by_cases hk : k = s.c.place
    · subst hk
      rw [nO, f3] at hg'
      rcases List.mem_append.1 hg' with hg' | hg'
      · exact hG g hg' e he
      · rw [List.mem_singleton.1 hg'] at he
        rcases List.mem_append.1 he with he | he
        · obtain ⟨q, hq, rfl⟩ := List.mem_map.1 he; exact f2 q hq
        · exact h4 e he
    · rw [tX _ _ hk] at hg'; exact h6 k g hg' e he
theorem Ej {es : List dQ} {k : Nat} (hk : k < es.length) : (es.take (k + 1)).map dQ.says = (es.take k).map dQ.says ++ [(es.getD k default).says] := by
  rw [List.take_succ_eq_append_getElem hk, List.map_append, List.getD_eq_getElem?_getD, List.getElem?_eq_getElem hk]; rfl
theorem pV (H : V w0 w (gB e s • F)) : gJ prog 84 #[.pointer (some ⟨e, 0, none⟩), .bool on] w fun _ w' => V w0 w' (gB e (s.gG on) • F) := by
  refine nT func84 ntmps84 ?_
  refine aP (aP ?_)
  obtain ⟨xQ, xR, xU, xW, xX, xY, xZ, yc, uN, su, sD, sF, sG, sH, sJ, sK, sN, sO, sQ, sS, iw, dF, lu, iI⟩ := (H).Gu
  have hput : iE s.here s.put ≤ 16384 := iw.2.2.2.2.1
  have hsp := og s.here s.put
  have hO : ∀ g ∈ s.here, ∀ x ∈ g, xO x := iw.2.2.2.2.2 s.c.place
  have hPO : ∀ x ∈ uN, xO x.says := fun x hx => iw.2.2.2.1 _ (by rw [← dF]; exact List.mem_map.2 ⟨x, hx, rfl⟩)
  have aeG := (iI.f10).zQ
  refine aC (nD O O (bD 33 ah O bH O (fZ aU O (iI).get.2 O (aV (jw ((iI.f9).aS) aU O) (aV (dR O O) (je O (fun h1 => ?_) (fun h1 => ?_)))))))
  · (try simp only [Z] at h1)
    refine lS (aF (we0 results84 ?_))
    rw [y7 (List.eq_nil_of_length_eq_zero (by omega))]
    exact V.iF iw dF iI.f11.f11.f11.f11.f11.f11.f11.f11.f11.f11.f11
  · (try simp only [Z] at h1)
    have hp : s.put ≠ [] := by rintro hz; rw [hz] at h1; simp at h1
    refine gq (bT O (dY O func134 (ND iI.f6.f5.f3) ?_))
    rintro _ w2 ⟨lp2, rfl, H2⟩
    refine gI O (iH (jv (fJ (l := [_]) H2 lH O) ?_))
    rintro _ w3 ⟨b3, rfl, H3⟩
    refine pK (aP ?_)
    obtain ⟨R4, hR4, HR4⟩ := V.aa4 (H3.f2.f2)
    refine aC (bP O (je O (fun h2 => ?_) (fun h2 => ?_)))
    · (try simp only [Z] at h2)
      have hn : on = true := h2
      refine aP (bT O (dY O func135 (EY HR4.f2) ?_))
      rintro _ w5 ⟨bG5, rfl, H5⟩
      refine iJ (aY ?_)
      obtain ⟨_, _, _, _, k1, _⟩ := (H5.f2).yA
      obtain ⟨hB, hL⟩ := V4 k1
      have HF0 := V.kD (q := (0 : Nat) = 0) rfl H5
      obtain ⟨R6, hR6, HR6⟩ := V.FK (HF0.f4.f2.f3)
      refine yU O (MZ bG5 hB hL) (fun j => fact (j = 0) • dL b3 (.cells #[.slice none 0 0] 80 (0, 0)) • R6) (fact False) (fun id => if id = 0 then Rn b3 (s.here.getLastD []) • R6 else fact False) (HR6.f3.f3.f3.f3.f3.f3.comm) (by rfl) ?_ ?_ ?_ ?_
      · rintro l7 j ZU vs7 A7 ⟨u1, fs1, ab8, rfl, rfl⟩ G7 w7 H7
        try simp only [bW, nG, uX] at H7
        refine ⟨O, ?_⟩
        dsimp only [Po]
        have HQ := (H7).ZO
        obtain rfl : j = 0 := (HQ.f3).fact.1
        have hon := (HQ.f2).zQ
        have hlen1 : fs1.length ≤ 16384 := by
          have h9 := hL _ (vK (d := []) ZU)
          rw [← ab8] at h9
          simpa using h9
        refine aC (fV O (bM ?_))
        refine Pn (HQ.g5) ?_
        intro G8 w8 H8
        try simp only [bW] at H8
        refine aY (bT O (dY O func122 (zy H8 (fun W HW => (HW).aS) hon (by omega)) ?_))
        rintro u9 w9 H9
        refine aH (fA 0 (l' := [_]) H9.f5 bH O O (by first | rfl | exact Rd.one ((H9).aS)) O O) ?_
        rintro _ w10 ql
        refine iJ (dB ?_)
        refine A8 (by decide) ?_
        refine UN ?_
        rw [if_pos rfl]
        exact (V.VZ (ab8.trans (Qa _)) ql.f3.right.f4.right.f3.f3.f3).deep
      · rintro D11 EH rF
        have ab9 := rF.ed
        try simp only [bW, nG, uX] at ab9
        have aca := ab9.Qz
        have hz := (aca.f3).fact.1
        rw [G6, List.length_reverse] at hz
        have hg0 : s.here.getLastD [] = [] := by show (s.c.un s.c.place).getLastD [] = []; rw [List.eq_nil_of_length_eq_zero hz]; rfl
        have PX := aca.f4
        have PY := V.Ye hg0 PX
        have Yf := PY.f4.right
        subst hR6
        subst hR4
        refine aJ (aX (aC (bP O (dY O func136 (Bd Yf.f4) ?_))))
        rintro _ Sz ⟨u15, ae4, rfl, aeH, yT⟩
        have adJ := yT.right
        have Pm := adJ.right
        have adK := Pm.f4.right
        obtain ⟨h9a, h9b, h9c⟩ := JG (s.c.un s.c.place)
        have HX := adK
        rw [h9a, h9b, h9c] at HX
        obtain ⟨ov, yg, aaA, HO⟩ := (HX.f2).old
        have hF := NM hp hn hO aaA
        have hG1 : ∀ g ∈ s.here.dropLast, ∀ x ∈ g, xO x := fun g hg => hO g (List.dropLast_subset _ hg)
        obtain ⟨G1, aaB⟩ : ∃ q, q = (s.c.un s.c.place).dropLast := ⟨_, rfl⟩
        rw [show s.here.dropLast = (s.c.un s.c.place).dropLast from rfl] at hF hG1
        have Ti := HO
        rw [← aaB] at hF hG1 Ti
        refine pK ?_
        obtain ⟨hF1, hF2, hF3⟩ := hF
        have hl1 : yg.length ≤ 16384 := by omega
        have hl2 : s.put.length ≤ 16384 := by omega
        refine aC (bP O (dY O func137 (wC Ti.f4 (by omega)) ?_))
        rintro _ w19 ⟨rfl, D8⟩
        refine pK (aP ?_)
        have V5 := D8.drew
        have BU := V.kp (V5.f16.f16.f16.f16.f16.f16.f16.f16.f16.f16.f16.f16.f16.f16.f16.f16)
        refine yw [0, 4] BU O (jT 0 O BU (fun W hW => kC aU O ((Kp.h hW).f2).get.2 O) (jB 1 O BU O (kJ 2 O BU O (gU 3 O BU 33 ah O bH O (jT 4 O BU (fun W hW => kC aU O ((Kp.h hW).f7).get.2 O) (jB 7 O BU O (oq 5 O (fU V5.f3 aU zS O O O ((V5.f14).aS) (by assumption) (by omega) (by omega)) ?_)))))))
        rintro l20 w20 OX
        have Dk := V.kp (OX.f16.f16.f16.f16.f16.f16.f16.f16.f16.f16.f16.f16.f16.f16.f16.f16)
        refine gV Dk (by kernel_rfl) ?_
        have aaC := OX.f15.f5.f3
        have aaD := V.FC lu.symm aaC
        obtain ⟨AE, Ro⟩ : ∃ q, q = yg ++ uN := ⟨_, rfl⟩
        have HA := aaD
        rw [← Ro] at HA
        have hAl : AE.length = yg.length + s.put.length := by rw [Ro, List.length_append, lu]
        have hAs : AE.map dQ.says = yg.map dQ.says ++ s.put := by rw [Ro, List.map_append, dF]
        have hAO : ∀ x ∈ AE, xO x.says := fun x hx => by
          rw [Ro] at hx
          rcases List.mem_append.1 hx with hx | hx
          · exact hF2 x hx
          · exact hPO x hx
        refine ji 6 O Dk (fun _ => jw ((HA).aS) aU O) (qU (aX (aY ?_)))
        obtain ⟨R23, adL, adM⟩ := V.FK (HA.f2.f2.f3)
        refine fF [(0, _), (4, _), (32, _), (33, _)] (fun (i : Nat) => [(34, .int .i64 (i : Int))]) (fun (i : Nat) W => i ≤ AE.length ∧ V w0 W (iP lp2 G1 ((AE.take i).map dQ.says) (0 + 1) • Row 189 3 l20 AE.length (AE.flatMap dQ.enc) • kK AE • R23)) (fun (i : Nat) => AE.length - i) (0) J6 lG ⟨by omega, adM⟩ ?_
        rintro i w24 ⟨hi, HL⟩
        dsimp only [List.cons_append, List.nil_append]
        refine iH (aV (gY O O) (pK (bI O (fun h3 => ?_) (fun h3 => ?_))))
        · (try simp only [Z] at h3)
          refine gq (aP (aY (iH ?_)))
          obtain ⟨ae5, ae6, ae7, adN⟩ := Rd.pJ ((HL.f2).aS) (by omega)
          cases adN
          refine aV (dD aU dW O O (by omega)) (aV (qL (ys := [_, _, _]) ((HL.f2).aS) (by omega) dA O dW O (rY dQ.C9 (by omega) default) O) ?_)
          have hkl : i < AE.length := by omega
          have hx : xO (AE.getD i default).says := hAO _ (by rw [List.getD_eq_getElem?_getD, List.getElem?_eq_getElem hkl]; exact List.getElem_mem hkl)
          have hx1 : (AE.getD i default).dl.length ≤ 1024 := hx.2.2.1
          have hx2 : (AE.getD i default).il.length ≤ 1024 := hx.2.2.2
          refine jv (fJ (l := [_, _, _]) HL gZ O) ?_
          rintro _ w25 ⟨b25, rfl, Ub⟩
          refine aH (bU 0 (l' := [_, _, _]) (us := [_, _, _]) Ub dW O O O (aA (aW (by first | rfl | exact Rd.one (((Ub.f4).oL hkl).1)) (aW (by first | rfl | exact Rd.one (((Ub.f4).oL hkl).2)) bF))) O O) ?_
          rintro _ w26 VO
          refine iJ (aC (bP O (aV (eY dA O dW O O (VO).get.2) (dY O func138 (yS VO.f2 (fun W HW => ((HW.f3).oL hkl).1) (fun W HW => ((HW.f3).oL hkl).2) (by omega) (by omega)) ?_))))
          rintro _ w27 ⟨rfl, NG⟩
          have hadd : uK G1 ((AE.take i).map dQ.says) (AE.getD i default).a (AE.getD i default).dl (AE.getD i default).il = 0 := by
            have hx3 : 0 < (AE.getD i default).dl.length + (AE.getD i default).il.length := hx.2.1
            have hx4 : 0 ≤ (AE.getD i default).a := hx.1
            have hx5 := og G1 ((AE.take i).map dQ.says)
            rw [List.length_map, List.length_take] at hx5
            unfold uK
            rw [if_neg (by omega), if_neg (by omega)]
          have HA2 := NG
          rw [Fj hadd (by decide), Fp hadd (by decide)] at HA2
          refine bM (aJ (aX (aC (aV (fQ O O (by omega)) (bP O (bM ?_))))))
          refine dK (i + 1) ?_ ?_ ?_ ?_
          · exact lG
          · exact J6
          · (try dsimp only)
            first | done | exact ⟨by omega, by rw [Ej hkl]; exact HA2.f2.right.f3.f3.f3⟩
          · (try dsimp only); omega
        · (try simp only [Z] at h3)
          refine dB (aI ?_)
          have hil : i = AE.length := by omega
          have HB := HL
          rw [hil, List.take_length] at HB
          subst adL
          refine aI (bf (aX (bT O (dY O func139 (yV HB) ?_))))
          rintro _ w28 ⟨rfl, H28⟩
          obtain ⟨h8a, h8b, h8c⟩ := KU G1 (AE.map dQ.says)
          have HC := H28
          rw [h8a, h8b, h8c, hAs, qN (by intro hz; exact hp (List.append_eq_nil_iff.1 hz).2), ← hF3] at HC
          have aav := HC.f6
          have aaw := V.D9 aav
          refine iJ (aC (nD O O (bD 33 ah O bH O (aH (eF 33 aaw.f6 bH) ?_))))
          rintro _ w31 SL
          refine bM ?_
          refine Fb (.inr O) (SL.f6) (fun w32 NH => ?_)
          refine ⟨_, Zx results84, ?_⟩
          rw [lN hp]
          exact V.GY (s := { s.wE (s.lg on) with put := [] }) (lN hp ▸ G9 iw ⟨hF1, hF2, hF3⟩ hp hG1) O NH.f3.right.f3.right.f3.right.f9.right.f9.f9.f9.f5.f9.f7.f9.f9.f9
      · rintro D w H; exact absurd H.swap.fact.1 id
      · rintro id D33 w33 Xk
        refine Decidable.byCases (fun hid : id = 0 => ?_) (fun hid => by rw [if_neg hid] at Xk; exact absurd Xk.swap.fact.1 fun h => h)
        subst hid
        rw [if_pos rfl] at Xk
        have acb := Xk.ed
        try simp only [bW, nG, uX] at acb
        have adO := acb.Qz
        subst hR6
        subst hR4
        refine bf (aX (aC (bP O (dY O func136 (Bd adO.f4) ?_))))
        rintro _ w34 ⟨u34, ae8, rfl, aeI, VQ⟩
        have adP := VQ.right
        have adQ := adP.right
        have aaE := adQ.f3.right
        obtain ⟨h9a, h9b, h9c⟩ := JG (s.c.un s.c.place)
        have HX := aaE
        rw [h9a, h9b, h9c] at HX
        obtain ⟨ov, yg, aaA, HO⟩ := (HX.f3).old
        have hF := NM hp hn hO aaA
        have hG1 : ∀ g ∈ s.here.dropLast, ∀ x ∈ g, xO x := fun g hg => hO g (List.dropLast_subset _ hg)
        obtain ⟨G1, aaB⟩ : ∃ q, q = (s.c.un s.c.place).dropLast := ⟨_, rfl⟩
        rw [show s.here.dropLast = (s.c.un s.c.place).dropLast from rfl] at hF hG1
        have Ti := HO
        rw [← aaB] at hF hG1 Ti
        refine pK ?_
        obtain ⟨hF1, hF2, hF3⟩ := hF
        have hl1 : yg.length ≤ 16384 := by omega
        have hl2 : s.put.length ≤ 16384 := by omega
        refine aC (bP O (dY O func137 (wC Ti.f4 (by omega)) ?_))
        rintro _ w38 ⟨rfl, P7⟩
        refine pK (aP ?_)
        have V6 := P7.drew
        have BX := V.kp (V6.f16.f16.f16.f16.f16.f16.f16.f16.f16.f16.f16.f16.f16.f16.f16.f16)
        refine yw [0, 4] BX O (jT 0 O BX (fun W hW => kC aU O ((Kp.h hW).f2).get.2 O) (jB 1 O BX O (kJ 2 O BX O (gU 3 O BX 33 ah O bH O (jT 4 O BX (fun W hW => kC aU O ((Kp.h hW).f7).get.2 O) (jB 7 O BX O (oq 5 O (fU V6.f3 aU zS O O O ((V6.f14).aS) (by assumption) (by omega) (by omega)) ?_)))))))
        rintro l39 w39 H39
        have NQ := V.kp (H39.f16.f16.f16.f16.f16.f16.f16.f16.f16.f16.f16.f16.f16.f16.f16.f16)
        refine gV NQ (by kernel_rfl) ?_
        have adR := H39.f15.f5.f3
        have adS := V.FC lu.symm adR
        obtain ⟨AE, Ro⟩ : ∃ q, q = yg ++ uN := ⟨_, rfl⟩
        have HA := adS
        rw [← Ro] at HA
        have hAl : AE.length = yg.length + s.put.length := by rw [Ro, List.length_append, lu]
        have hAs : AE.map dQ.says = yg.map dQ.says ++ s.put := by rw [Ro, List.map_append, dF]
        have hAO : ∀ x ∈ AE, xO x.says := fun x hx => by
          rw [Ro] at hx
          rcases List.mem_append.1 hx with hx | hx
          · exact hF2 x hx
          · exact hPO x hx
        refine ji 6 O NQ (fun _ => jw ((HA).aS) aU O) (qU (aX (aY ?_)))
        obtain ⟨R42, adT, adU⟩ := V.FK (HA.f2.f2.f3)
        refine fF [(0, _), (4, _), (32, _), (33, _)] (fun (i : Nat) => [(34, .int .i64 (i : Int))]) (fun (i : Nat) W => i ≤ AE.length ∧ V w0 W (iP lp2 G1 ((AE.take i).map dQ.says) (0 + 1) • Row 189 3 l39 AE.length (AE.flatMap dQ.enc) • kK AE • R42)) (fun (i : Nat) => AE.length - i) (0) J6 lG ⟨by omega, adU⟩ ?_
        rintro i w43 ⟨hi, HL⟩
        dsimp only [List.cons_append, List.nil_append]
        refine iH (aV (gY O O) (pK (bI O (fun h4 => ?_) (fun h4 => ?_))))
        · (try simp only [Z] at h4)
          refine gq (aP (aY (iH ?_)))
          obtain ⟨ae9, afa, afb, adV⟩ := Rd.pJ ((HL.f2).aS) (by omega)
          cases adV
          refine aV (dD aU dW O O (by omega)) (aV (qL (ys := [_, _, _]) ((HL.f2).aS) (by omega) dA O dW O (rY dQ.C9 (by omega) default) O) ?_)
          have hkl : i < AE.length := by omega
          have hx : xO (AE.getD i default).says := hAO _ (by rw [List.getD_eq_getElem?_getD, List.getElem?_eq_getElem hkl]; exact List.getElem_mem hkl)
          have hx1 : (AE.getD i default).dl.length ≤ 1024 := hx.2.2.1
          have hx2 : (AE.getD i default).il.length ≤ 1024 := hx.2.2.2
          refine jv (fJ (l := [_, _, _]) HL gZ O) ?_
          rintro _ w44 ⟨b44, rfl, Zf⟩
          refine aH (bU 0 (l' := [_, _, _]) (us := [_, _, _]) Zf dW O O O (aA (aW (by first | rfl | exact Rd.one (((Zf.f4).oL hkl).1)) (aW (by first | rfl | exact Rd.one (((Zf.f4).oL hkl).2)) bF))) O O) ?_
          rintro _ w45 OD
          refine iJ (aC (bP O (aV (eY dA O dW O O (OD).get.2) (dY O func138 (yS OD.f2 (fun W HW => ((HW.f3).oL hkl).1) (fun W HW => ((HW.f3).oL hkl).2) (by omega) (by omega)) ?_))))
          rintro _ w46 ⟨rfl, H46⟩
          have hadd : uK G1 ((AE.take i).map dQ.says) (AE.getD i default).a (AE.getD i default).dl (AE.getD i default).il = 0 := by
            have hx3 : 0 < (AE.getD i default).dl.length + (AE.getD i default).il.length := hx.2.1
            have hx4 : 0 ≤ (AE.getD i default).a := hx.1
            have hx5 := og G1 ((AE.take i).map dQ.says)
            rw [List.length_map, List.length_take] at hx5
            unfold uK
            rw [if_neg (by omega), if_neg (by omega)]
          have HA2 := H46
          rw [Fj hadd (by decide), Fp hadd (by decide)] at HA2
          refine bM (aJ (aX (aC (aV (fQ O O (by omega)) (bP O (bM ?_))))))
          refine dK (i + 1) ?_ ?_ ?_ ?_
          · exact lG
          · exact J6
          · (try dsimp only)
            first | done | exact ⟨by omega, by rw [Ej hkl]; exact HA2.f2.right.f3.f3.f3⟩
          · (try dsimp only); omega
        · (try simp only [Z] at h4)
          refine dB (aI ?_)
          have hil : i = AE.length := by omega
          have HB := HL
          rw [hil, List.take_length] at HB
          subst adT
          refine aI (bf (aX (bT O (dY O func139 (yV HB) ?_))))
          rintro _ w47 ⟨rfl, H47⟩
          obtain ⟨h8a, h8b, h8c⟩ := KU G1 (AE.map dQ.says)
          have HC := H47
          rw [h8a, h8b, h8c, hAs, qN (by intro hz; exact hp (List.append_eq_nil_iff.1 hz).2), ← hF3] at HC
          have adW := HC.f6
          have adX := V.D9 adW
          refine iJ (aC (nD O O (bD 33 ah O bH O (aH (eF 33 adX.f6 bH) ?_))))
          rintro _ w50 H50
          refine bM ?_
          refine Fb (.inr O) (H50.f6) (fun w51 H51 => ?_)
          refine ⟨_, Zx results84, ?_⟩
          rw [lN hp]
          exact V.GY (s := { s.wE (s.lg on) with put := [] }) (lN hp ▸ G9 iw ⟨hF1, hF2, hF3⟩ hp hG1) O H51.f3.right.f3.right.f3.right.f9.right.f9.f9.f9.f5.f9.f7.f9.f9.f9
    · (try simp only [Z] at h2)
      have hn : on = false := h2
      obtain ⟨ov, yg, G1, hF, hG1, HF⟩ : ∃ ov yg G1, V3 s on yg G1 ∧ (∀ g ∈ G1, ∀ x ∈ g, xO x) ∧ V w0 w3 (dL b3 (.cells #[ov] 80 (0, 0)) • Row 189 3 ov yg.length (yg.flatMap dQ.enc) • kK yg • iP lp2 G1 [] 0 • R4) :=
        ⟨.slice none 0 0, [], s.here, Tf hp hn, hO, (V.rE HR4.f2.f2 none).of_eq (by unfold Js; ac_rfl)⟩
      subst hR4
      refine gq (aP ?_)
      obtain ⟨hF1, hF2, hF3⟩ := hF
      have hl1 : yg.length ≤ 16384 := by omega
      have hl2 : s.put.length ≤ 16384 := by omega
      refine aC (bP O (dY O func137 (wC HF.f4 (by omega)) ?_))
      rintro _ w52 ⟨rfl, Zh⟩
      refine pK (aP ?_)
      have V7 := Zh.drew
      have BZ := V.kp (V7.f15.f15.f15.f15.f15.f15.f15.f15.f15.f15.f15.f15.f15.f15.f15)
      refine yw [0, 4] BZ O (jT 0 O BZ (fun W hW => kC aU O ((Kp.h hW).f2).get.2 O) (jB 1 O BZ O (kJ 2 O BZ O (gU 3 O BZ 33 ah O bH O (jT 4 O BZ (fun W hW => kC aU O ((Kp.h hW).f6).get.2 O) (jB 7 O BZ O (oq 5 O (fU V7.f3 aU zS O O O ((V7.f13).aS) (by assumption) (by omega) (by omega)) ?_)))))))
      rintro l53 w53 H53
      have Zk := V.kp (H53.f15.f15.f15.f15.f15.f15.f15.f15.f15.f15.f15.f15.f15.f15.f15)
      refine gV Zk (by kernel_rfl) ?_
      have adY := H53.f14.f5.f3
      have adZ := V.FC lu.symm adY
      obtain ⟨AE, Ro⟩ : ∃ q, q = yg ++ uN := ⟨_, rfl⟩
      have HA := adZ
      rw [← Ro] at HA
      have hAl : AE.length = yg.length + s.put.length := by rw [Ro, List.length_append, lu]
      have hAs : AE.map dQ.says = yg.map dQ.says ++ s.put := by rw [Ro, List.map_append, dF]
      have hAO : ∀ x ∈ AE, xO x.says := fun x hx => by
        rw [Ro] at hx
        rcases List.mem_append.1 hx with hx | hx
        · exact hF2 x hx
        · exact hPO x hx
      refine ji 6 O Zk (fun _ => jw ((HA).aS) aU O) (qU (aX (aY ?_)))
      obtain ⟨R56, ad0, ad1⟩ := V.FK (HA.f2.f2.f3)
      refine fF [(0, _), (4, _), (32, _), (33, _)] (fun (i : Nat) => [(34, .int .i64 (i : Int))]) (fun (i : Nat) W => i ≤ AE.length ∧ V w0 W (iP lp2 G1 ((AE.take i).map dQ.says) (0 + 1) • Row 189 3 l53 AE.length (AE.flatMap dQ.enc) • kK AE • R56)) (fun (i : Nat) => AE.length - i) (0) J6 lG ⟨by omega, ad1⟩ ?_
      rintro i w57 ⟨hi, HL⟩
      dsimp only [List.cons_append, List.nil_append]
      refine iH (aV (gY O O) (pK (bI O (fun h5 => ?_) (fun h5 => ?_))))
      · (try simp only [Z] at h5)
        refine gq (aP (aY (iH ?_)))
        obtain ⟨afc, afd, afe, ad2⟩ := Rd.pJ ((HL.f2).aS) (by omega)
        cases ad2
        refine aV (dD aU dW O O (by omega)) (aV (qL (ys := [_, _, _]) ((HL.f2).aS) (by omega) dA O dW O (rY dQ.C9 (by omega) default) O) ?_)
        have hkl : i < AE.length := by omega
        have hx : xO (AE.getD i default).says := hAO _ (by rw [List.getD_eq_getElem?_getD, List.getElem?_eq_getElem hkl]; exact List.getElem_mem hkl)
        have hx1 : (AE.getD i default).dl.length ≤ 1024 := hx.2.2.1
        have hx2 : (AE.getD i default).il.length ≤ 1024 := hx.2.2.2
        refine jv (fJ (l := [_, _, _]) HL gZ O) ?_
        rintro _ w58 ⟨b58, rfl, Yc⟩
        refine aH (bU 0 (l' := [_, _, _]) (us := [_, _, _]) Yc dW O O O (aA (aW (by first | rfl | exact Rd.one (((Yc.f4).oL hkl).1)) (aW (by first | rfl | exact Rd.one (((Yc.f4).oL hkl).2)) bF))) O O) ?_
        rintro _ w59 H59
        refine iJ (aC (bP O (aV (eY dA O dW O O (H59).get.2) (dY O func138 (yS H59.f2 (fun W HW => ((HW.f3).oL hkl).1) (fun W HW => ((HW.f3).oL hkl).2) (by omega) (by omega)) ?_))))
        rintro _ w60 ⟨rfl, H60⟩
        have hadd : uK G1 ((AE.take i).map dQ.says) (AE.getD i default).a (AE.getD i default).dl (AE.getD i default).il = 0 := by
          have hx3 : 0 < (AE.getD i default).dl.length + (AE.getD i default).il.length := hx.2.1
          have hx4 : 0 ≤ (AE.getD i default).a := hx.1
          have hx5 := og G1 ((AE.take i).map dQ.says)
          rw [List.length_map, List.length_take] at hx5
          unfold uK
          rw [if_neg (by omega), if_neg (by omega)]
        have HA2 := H60
        rw [Fj hadd (by decide), Fp hadd (by decide)] at HA2
        refine bM (aJ (aX (aC (aV (fQ O O (by omega)) (bP O (bM ?_))))))
        refine dK (i + 1) ?_ ?_ ?_ ?_
        · exact lG
        · exact J6
        · (try dsimp only)
          first | done | exact ⟨by omega, by rw [Ej hkl]; exact HA2.f2.right.f3.f3.f3⟩
        · (try dsimp only); omega
      · (try simp only [Z] at h5)
        refine dB (aI ?_)
        have hil : i = AE.length := by omega
        have HB := HL
        rw [hil, List.take_length] at HB
        subst ad0
        refine aI (bf (aX (bT O (dY O func139 (yV HB) ?_))))
        rintro _ w61 ⟨rfl, H61⟩
        obtain ⟨h8a, h8b, h8c⟩ := KU G1 (AE.map dQ.says)
        have HC := H61
        rw [h8a, h8b, h8c, hAs, qN (by intro hz; exact hp (List.append_eq_nil_iff.1 hz).2), ← hF3] at HC
        have ad3 := HC.f5
        have ad4 := V.D9 ad3
        refine iJ (aC (nD O O (bD 33 ah O bH O (aH (eF 33 ad4.f5 bH) ?_))))
        rintro _ w64 H64
        refine bM (lY (.inr O) results84 ?_)
        rw [lN hp]
        exact V.GY (s := { s.wE (s.lg on) with put := [] }) (lN hp ▸ G9 iw ⟨hF1, hF2, hF3⟩ hp hG1) O H64.f3.right.f3.right.f3.right.f9.right.f9.f9.f9.f5.f9.f7.f9.f9.f9
end
end Go.Proofs.YtpdeedplgmbopaaGreatDoor
end
