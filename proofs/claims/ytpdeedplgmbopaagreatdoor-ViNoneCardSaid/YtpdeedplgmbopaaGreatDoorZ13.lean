import Derived.Test.YtpdeedplgmbopaaGreatDoorZ4
import Derived.Test.YtpdeedplgmbopaaGreatDoorZ12
set_option linter.unusedSimpArgs false
set_option linter.unusedVariables false
/- Texts of mine, joined, their names in short: EdF. -/
section
namespace Go.Proofs.YtpdeedplgmbopaaGreatDoor
open Go.RowKit
open _root_.Go.Proofs.Tryz
theorem Yd : (prog.info? 189).map (fun i => (i.zero, i.size, i.bytes)) = some (some (.agg #[.int .i64 0, .slice none 0 0, .slice none 0 0]), 3, 56) := by kernel_rfl
def Rl (c : Nat) (g : List iR) : HP := rH fun (x : Value × List dQ) => fact (x.2.map dQ.says = g) • dK c (.cells #[x.1] 80 (0, 0)) • Row 189 3 x.1 x.2.length (x.2.flatMap dQ.enc) • kE x.2
section
variable {w0 w : World} {F : HP} {e p c n m : Nat} {s : dF} {i j x : Int} {on : Bool} {v : Value} {g : List iR} {xQ es : List dQ} {xs : List Value}
theorem zh (H : V w0 w F) (hr : Ul w0 F 3 v n xs) (hon : ∀ u ∈ xs, u.oneCell' = true) (hb : n ≤ 1099511627776) :
    gI prog 122 #[v] w fun v' w' => V w0 w' (Row 189 3 v' n xs • F) := by
  obtain ⟨hlen, a, c, rfl, h2, h3, h4⟩ := hr w H
  refine gG func122 ntmps122 ?_
  refine jg O (aP (bP O (aV (zq aU O O) ?_)))
  refine jh O (fun h1 => ?_) (fun h1 => ?_)
  · (try simp only [Z] at h1)
    refine jC O (aF (dG results122 O ?_))
    obtain rfl : a = none := by simpa using h1
    obtain rfl : n = 0 := by
      rcases Nat.eq_zero_or_pos n with h | h
      · exact h
      · obtain ⟨b, o, e, _⟩ := h4 h; cases e
    obtain rfl : xs = [] := List.eq_nil_of_length_eq_zero (by omega)
    exact H.iP none
  · (try simp only [Z] at h1)
    refine fZ (iE (jr (Gl H aU dW gZ) ?_))
    rintro _ w1 H1
    refine bQ O (jr (fQ H1 aU Yd O O O (hr.under _ H1) hon (by omega) (by omega)) ?_)
    rintro _ w2 H2
    refine eY O (dG results122 O ?_)
    exact H2.of_eq (by rw [Nat.zero_add, List.nil_append])
theorem V.old (H : V w0 w (Rl c g • F)) : ∃ v es, es.map dQ.says = g ∧ V w0 w (dK c (.cells #[v] 80 (0, 0)) • Row 189 3 v es.length (es.flatMap dQ.enc) • kE es • F) := by
  obtain ⟨⟨v, es⟩, H⟩ := H.lJ
  obtain ⟨h, H⟩ := H.flat.fact
  exact ⟨v, es, h, H.of_eq (by simp only [bW])⟩
theorem V.V3 (h : es.map dQ.says = g) (H : V w0 w (dK c (.cells #[v] 80 (0, 0)) • Row 189 3 v es.length (es.flatMap dQ.enc) • kE es • F)) : V w0 w (Rl c g • F) :=
  V.iy (v, es) (V.deep (V.jY h (H.of_eq (by simp only [bW]))))
theorem V.Ye (hg : g = []) (H : V w0 w (dK c (.cells #[.slice none 0 0] 80 (0, 0)) • F)) : V w0 w (Rl c g • F) :=
  V.V3 (v := .slice none 0 0) (es := []) hg.symm ((H.qY none).of_eq (by unfold Jp; ac_rfl))
theorem V.Fh (hm : m = es.length) (H : V w0 w (Row 189 3 v (xQ.length + m) (xQ.flatMap dQ.enc ++ es.flatMap dQ.enc) • kE xQ • kE es • F)) : V w0 w (Row 189 3 v (xQ ++ es).length ((xQ ++ es).flatMap dQ.enc) • kE (xQ ++ es) • F) := by
  subst hm
  have h1 : V w0 w (kE xQ • kE es • Row 189 3 v (xQ.length + es.length) (xQ.flatMap dQ.enc ++ es.flatMap dQ.enc) • F) := H.of_eq (by ac_rfl)
  have h2 : V w0 w (kE (xQ ++ es) • Row 189 3 v (xQ.length + es.length) (xQ.flatMap dQ.enc ++ es.flatMap dQ.enc) • F) := h1.DC (sZ (fun I h g => h.app g) _)
  exact h2.swap.of_eq (by rw [List.length_append, List.flatMap_append])
def V4 (s : dF) (on : Bool) (xQ : List dQ) (G1 : List (List iR)) : Prop := iG G1 [] + xQ.length = iG s.here [] ∧ (∀ e ∈ xQ, xC e.says) ∧ s.kT on = G1 ++ [xQ.map dQ.says ++ s.put]
theorem Tf (hp : s.put ≠ []) (hn : on = false) : V4 s on [] s.here := by
  subst hn
  refine ⟨by simp, by simp, ?_⟩
  unfold dF.kT
  rw [if_neg hp, if_neg (by decide)]
  rfl
theorem Dk : ∀ {G : List (List iR)}, G ≠ [] → (G.dropLast.map List.length).sum + (G.getLastD []).length = (G.map List.length).sum := by
  intro G hG
  have h := List.dropLast_concat_getLast hG
  have h2 : G.getLastD [] = G.getLast hG := by rw [List.getLastD_eq_getLast?, List.getLast?_eq_some_getLast hG]; rfl
  rw [h2]
  conv => rhs; rw [← h]
  simp
theorem ND (hp : s.put ≠ []) (hn : on = true) (hO : ∀ g ∈ s.here, ∀ e ∈ g, xC e) (h : xQ.map dQ.says = s.here.getLastD []) : V4 s on xQ s.here.dropLast := by
  subst hn
  have hlen : xQ.length = (s.here.getLastD []).length := by rw [← h]; simp
  have hm : ∀ e ∈ xQ, e.says ∈ s.here.getLastD [] := fun e he => by rw [← h]; exact List.mem_map.2 ⟨e, he, rfl⟩
  unfold V4 dF.kT
  rw [if_neg hp, if_pos rfl]
  by_cases h0 : s.here = []
  · rw [h0] at h hlen hm
    have : xQ = [] := List.eq_nil_of_length_eq_zero (by simpa using hlen)
    subst this
    rw [h0]
    exact ⟨by simp, by simp, rfl⟩
  · have h2 : s.here.getLastD [] = s.here.getLast h0 := by rw [List.getLastD_eq_getLast?, List.getLast?_eq_some_getLast h0]; rfl
    refine ⟨?_, fun e he => hO _ (List.getLast_mem h0) _ (h2 ▸ hm e he), ?_⟩
    · have := Dk h0
      show (s.here.dropLast.map List.length).sum + 0 + xQ.length = (s.here.map List.length).sum + 0
      rw [hlen]; omega
    · rw [List.getLast?_eq_some_getLast h0, h, h2]
theorem GY (G : List (List iR)) : Bz G [] = G.reverse := by unfold Bz mF; rw [if_pos rfl]
theorem P5 (G : List (List iR)) : (Bz G []).getD 0 [] = G.getLastD [] := by
  rw [GY, List.getD_eq_getElem?_getD, List.getLastD_eq_getLast?]
  congr 1
  cases G.eq_nil_or_concat with
  | inl h => subst h; rfl
  | inr h => obtain ⟨L, b, rfl⟩ := h; simp
theorem V5 {G : List (List iR)} (h : XO G [] 0) : (∀ g ∈ Bz G [], ∀ e ∈ g, EB e) ∧ ∀ g ∈ Bz G [], g.length ≤ 16384 := by
  rw [GY]
  refine ⟨fun g hg => h.2.2.2.2.1 g (List.mem_reverse.1 hg), fun g hg => ?_⟩
  have h1 := Fb (List.mem_reverse.1 hg)
  have h2 := h.2.1
  unfold iG at h2
  simp at h2; omega
theorem KQ (G : List (List iR)) (N : List iR) : ZX G N (0 + 1) = mF G N ∧ ZY N (0 + 1) = [] ∧ XP (0 + 1) = 0 := ⟨if_pos rfl, if_pos rfl, by unfold XP; rw [if_neg (by decide)]; rfl⟩
theorem JD (G : List (List iR)) : QK G [] = G.dropLast ∧ QL G [] = [] ∧ QM G [] 0 = 0 := by
  unfold QK QL QM mF
  by_cases h : G.length + ([] : List iR).length = 0
  · have : G = [] := List.eq_nil_of_length_eq_zero (by simpa using h)
    subst this
    simp
  · rw [if_neg h, if_neg h, if_neg h, if_pos rfl]; simp
theorem yT {s : dF} (h : s.put = []) : s.gK on = s := by unfold dF.gK; rw [if_pos h]
theorem lH {s : dF} (h : s.put ≠ []) : s.gK on = { s.vX (s.kT on) with put := [] } := by unfold dF.gK; rw [if_neg h]
theorem Dl (G : List (List iR)) (g : List iR) : iG (G ++ [g]) [] = iG G [] + g.length := by unfold iG; simp
theorem GZ (h : lM s) {G1 : List (List iR)} (hF : V4 s on xQ G1) (hp : s.put ≠ []) (hG : ∀ g ∈ G1, ∀ e ∈ g, xC e) : lM (s.gK on) := by
  rw [lH hp]
  obtain ⟨h1, h2, h3, h4, h5, h6⟩ := h
  obtain ⟨f1, f2, f3⟩ := hF
  refine ⟨h1, h2, h3, by simp, ?_, ?_⟩
  · show iG (wL s.c.un s.c.place (s.kT on) s.c.place) [] ≤ 16384
    rw [nN, f3, Dl]
    have := nY s.here s.put
    simp; omega
  · intro k g hg e he
    have hg' : g ∈ wL s.c.un s.c.place (s.kT on) k := hg
    by_cases hk : k = s.c.place
    · subst hk
      rw [nN, f3] at hg'
      rcases List.mem_append.1 hg' with hg' | hg'
      · exact hG g hg' e he
      · rw [List.mem_singleton.1 hg'] at he
        rcases List.mem_append.1 he with he | he
        · obtain ⟨q, hq, rfl⟩ := List.mem_map.1 he; exact f2 q hq
        · exact h4 e he
    · rw [tq _ _ hk] at hg'; exact h6 k g hg' e he
theorem Eb {es : List dQ} {k : Nat} (hk : k < es.length) : (es.take (k + 1)).map dQ.says = (es.take k).map dQ.says ++ [(es.getD k default).says] := by
  rw [List.take_succ_eq_append_getElem hk, List.map_append, List.getD_eq_getElem?_getD, List.getElem?_eq_getElem hk]; rfl
theorem pG (H : V w0 w (gB e s • F)) : gI prog 84 #[.pointer (some ⟨e, 0, none⟩), .bool on] w fun _ w' => V w0 w' (gB e (s.gK on) • F) := by
  refine oq func84 ntmps84 ?_
  refine aP (aP ?_)
  obtain ⟨xG, xH, xI, xJ, xK, xM, xO, xP, uy, rV, rW, rX, rY, rZ, su, sD, sF, sG, sH, sJ, iw, dD, kV, iI⟩ := (H).Gp
  have hput : iG s.here s.put ≤ 16384 := iw.2.2.2.2.1
  have hsp := nY s.here s.put
  have hO : ∀ g ∈ s.here, ∀ x ∈ g, xC x := iw.2.2.2.2.2 s.c.place
  have hPO : ∀ x ∈ uy, xC x.says := fun x hx => iw.2.2.2.1 _ (by rw [← dD]; exact List.mem_map.2 ⟨x, hx, rfl⟩)
  have aez := (iI.f10).zH
  refine aC (nD O O (bD 33 ah O bH O (fG aU O (iI).get.2 O (aV (jw ((iI.f9).aS) aU O) (aV (dV O O) (jh O (fun h1 => ?_) (fun h1 => ?_)))))))
  · (try simp only [Z] at h1)
    refine mD (aF (we0 results84 ?_))
    rw [yT (List.eq_nil_of_length_eq_zero (by omega))]
    exact V.iH iw dD iI.f11.f11.f11.f11.f11.f11.f11.f11.f11.f11.f11
  · (try simp only [Z] at h1)
    have hp : s.put ≠ [] := by rintro hz; rw [hz] at h1; simp at h1
    refine fZ (bP O (dS O func134 (Nu iI.f6.f5.f3) ?_))
    rintro _ w2 ⟨lp2, rfl, H2⟩
    refine gJ O (iE (jr (fH (l := [_]) H2 lq O) ?_))
    rintro _ w3 ⟨b3, rfl, H3⟩
    refine pJ (aP ?_)
    obtain ⟨R4, hR4, HR4⟩ := V.aa4 (H3.f2.f2)
    refine aC (bQ O (jh O (fun h2 => ?_) (fun h2 => ?_)))
    · (try simp only [Z] at h2)
      have hn : on = true := h2
      refine aP (bP O (dS O func135 (EP HR4.f2) ?_))
      rintro _ w5 ⟨bG5, rfl, H5⟩
      refine iJ (aY ?_)
      obtain ⟨_, _, _, _, k1, _⟩ := (H5.f2).xZ
      obtain ⟨hB, hL⟩ := V5 k1
      have HF0 := V.jY (q := (0 : Nat) = 0) rfl H5
      obtain ⟨R6, hR6, HR6⟩ := V.Fv (HF0.f4.f2.f3)
      refine yN O (MQ bG5 hB hL) (fun j => fact (j = 0) • dK b3 (.cells #[.slice none 0 0] 80 (0, 0)) • R6) (fact False) (fun id => if id = 0 then Rl b3 (s.here.getLastD []) • R6 else fact False) (HR6.f3.f3.f3.f3.f3.f3.comm) (by rfl) ?_ ?_ ?_ ?_
      · rintro l7 j ZV vs7 A7 ⟨u1, fs1, ab7, rfl, rfl⟩ G7 w7 H7
        try simp only [bW, nG, uK] at H7
        refine ⟨O, ?_⟩
        dsimp only [Ph]
        have HQ := (H7).ZP
        obtain rfl : j = 0 := (HQ.f3).fact.1
        have hon := (HQ.f2).zH
        have hlen1 : fs1.length ≤ 16384 := by
          have h9 := hL _ (vC (d := []) ZV)
          rw [← ab7] at h9
          simpa using h9
        refine aC (fU O (bM ?_))
        refine Pg (HQ.g5) ?_
        intro G8 w8 H8
        try simp only [bW] at H8
        refine aY (bP O (dS O func122 (zh H8 (fun W HW => (HW).aS) hon (by omega)) ?_))
        rintro u9 w9 H9
        refine aH (eX 0 (l' := [_]) H9.f5 bH O O (by first | rfl | exact Rd.one ((H9).aS)) O O) ?_
        rintro _ w10 pV
        refine iJ (dB ?_)
        refine AO (by decide) ?_
        refine UQ ?_
        rw [if_pos rfl]
        exact (V.V3 (ab7.trans (P5 _)) pV.f3.right.f4.right.f3.f3.f3).deep
      · rintro D11 DU qo
        have ab8 := qo.ed
        try simp only [bW, nG, uK] at ab8
        have ab9 := ab8.Qx
        have hz := (ab9.f3).fact.1
        rw [GY, List.length_reverse] at hz
        have hg0 : s.here.getLastD [] = [] := by show (s.c.un s.c.place).getLastD [] = []; rw [List.eq_nil_of_length_eq_zero hz]; rfl
        have PO := ab9.f4
        have PS := V.Ye hg0 PO
        have Yf := PS.f4.right
        subst hR6
        subst hR4
        refine aJ (aX (aC (bQ O (dS O func136 (AU Yf.f4) ?_))))
        rintro _ Sr ⟨u15, aeX, rfl, aeA, yM⟩
        have adE := yM.right
        have Pe := adE.right
        have adF := Pe.f4.right
        obtain ⟨h9a, h9b, h9c⟩ := JD (s.c.un s.c.place)
        have HX := adF
        rw [h9a, h9b, h9c] at HX
        obtain ⟨ov, xQ, aaA, HO⟩ := (HX.f2).old
        have hF := ND hp hn hO aaA
        have hG1 : ∀ g ∈ s.here.dropLast, ∀ x ∈ g, xC x := fun g hg => hO g (List.dropLast_subset _ hg)
        obtain ⟨G1, aaB⟩ : ∃ q, q = (s.c.un s.c.place).dropLast := ⟨_, rfl⟩
        rw [show s.here.dropLast = (s.c.un s.c.place).dropLast from rfl] at hF hG1
        have Ti := HO
        rw [← aaB] at hF hG1 Ti
        refine pJ ?_
        obtain ⟨hF1, hF2, hF3⟩ := hF
        have hl1 : xQ.length ≤ 16384 := by omega
        have hl2 : s.put.length ≤ 16384 := by omega
        refine aC (bQ O (dS O func137 (vW Ti.f4 (by omega)) ?_))
        rintro _ w19 ⟨rfl, DW⟩
        refine pJ (aP ?_)
        have V6 := DW.drew
        have BL := V.kp (V6.f16.f16.f16.f16.f16.f16.f16.f16.f16.f16.f16.f16.f16.f16.f16.f16)
        refine yC [0, 4] BL O (jS 0 O BL (fun W hW => jX aU O ((Kp.h hW).f2).get.2 O) (jG 1 O BL O (kD 2 O BL O (gV 3 O BL 33 ah O bH O (jS 4 O BL (fun W hW => jX aU O ((Kp.h hW).f7).get.2 O) (jG 7 O BL O (og 5 O (fQ V6.f3 aU zI O O O ((V6.f14).aS) (by assumption) (by omega) (by omega)) ?_)))))))
        rintro l20 w20 OU
        have CZ := V.kp (OU.f16.f16.f16.f16.f16.f16.f16.f16.f16.f16.f16.f16.f16.f16.f16.f16)
        refine gW CZ (by kernel_rfl) ?_
        have aaC := OU.f15.f5.f3
        have aaD := V.Fh kV.symm aaC
        obtain ⟨AE, Rn⟩ : ∃ q, q = xQ ++ uy := ⟨_, rfl⟩
        have HA := aaD
        rw [← Rn] at HA
        have hAl : AE.length = xQ.length + s.put.length := by rw [Rn, List.length_append, kV]
        have hAs : AE.map dQ.says = xQ.map dQ.says ++ s.put := by rw [Rn, List.map_append, dD]
        have hAO : ∀ x ∈ AE, xC x.says := fun x hx => by
          rw [Rn] at hx
          rcases List.mem_append.1 hx with hx | hx
          · exact hF2 x hx
          · exact hPO x hx
        refine jB 6 O CZ (fun _ => jw ((HA).aS) aU O) (qR (aX (aY ?_)))
        obtain ⟨R23, adG, adH⟩ := V.Fv (HA.f2.f2.f3)
        refine fF [(0, _), (4, _), (32, _), (33, _)] (fun (i : Nat) => [(34, .int .i64 (i : Int))]) (fun (i : Nat) W => i ≤ AE.length ∧ V w0 W (iQ lp2 G1 ((AE.take i).map dQ.says) (0 + 1) • Row 189 3 l20 AE.length (AE.flatMap dQ.enc) • kE AE • R23)) (fun (i : Nat) => AE.length - i) (0) J3 lI ⟨by omega, adH⟩ ?_
        rintro i w24 ⟨hi, HL⟩
        dsimp only [List.cons_append, List.nil_append]
        refine iE (aV (iL O O) (pJ (bJ O (fun h3 => ?_) (fun h3 => ?_))))
        · (try simp only [Z] at h3)
          refine fZ (aP (aY (iE ?_)))
          obtain ⟨aeY, aeZ, ae0, adI⟩ := Rd.pW ((HL.f2).aS) (by omega)
          cases adI
          refine aV (dI aU dW O O (by omega)) (aV (qI (ys := [_, _, _]) ((HL.f2).aS) (by omega) dA O dW O (rQ dQ.CS (by omega) default) O) ?_)
          have hkl : i < AE.length := by omega
          have hx : xC (AE.getD i default).says := hAO _ (by rw [List.getD_eq_getElem?_getD, List.getElem?_eq_getElem hkl]; exact List.getElem_mem hkl)
          have hx1 : (AE.getD i default).dl.length ≤ 1024 := hx.2.2.1
          have hx2 : (AE.getD i default).il.length ≤ 1024 := hx.2.2.2
          refine jr (fH (l := [_, _, _]) HL gZ O) ?_
          rintro _ w25 ⟨b25, rfl, Uc⟩
          refine aH (bU 0 (l' := [_, _, _]) (us := [_, _, _]) Uc dW O O O (ay (aW (by first | rfl | exact Rd.one (((Uc.f4).oJ hkl).1)) (aW (by first | rfl | exact Rd.one (((Uc.f4).oJ hkl).2)) bF))) O O) ?_
          rintro _ w26 VP
          refine iJ (aC (bQ O (aV (eU dA O dW O O (VP).get.2) (dS O func138 (yL VP.f2 (fun W HW => ((HW.f3).oJ hkl).1) (fun W HW => ((HW.f3).oJ hkl).2) (by omega) (by omega)) ?_))))
          rintro _ w27 ⟨rfl, Nv⟩
          have hadd : uq G1 ((AE.take i).map dQ.says) (AE.getD i default).a (AE.getD i default).dl (AE.getD i default).il = 0 := by
            have hx3 : 0 < (AE.getD i default).dl.length + (AE.getD i default).il.length := hx.2.1
            have hx4 : 0 ≤ (AE.getD i default).a := hx.1
            have hx5 := nY G1 ((AE.take i).map dQ.says)
            rw [List.length_map, List.length_take] at hx5
            unfold uq
            rw [if_neg (by omega), if_neg (by omega)]
          have HA2 := Nv
          rw [E5 hadd (by decide), E8 hadd (by decide)] at HA2
          refine bM (aJ (aX (aC (aV (gy O O (by omega)) (bQ O (bM ?_))))))
          refine dL (i + 1) ?_ ?_ ?_ ?_
          · exact lI
          · exact J3
          · (try dsimp only)
            first | done | exact ⟨by omega, by rw [Eb hkl]; exact HA2.f2.right.f3.f3.f3⟩
          · (try dsimp only); omega
        · (try simp only [Z] at h3)
          refine dB (aI ?_)
          have hil : i = AE.length := by omega
          have HB := HL
          rw [hil, List.take_length] at HB
          subst adG
          refine aI (aZ (aX (bP O (dS O func139 (yO HB) ?_))))
          rintro _ w28 ⟨rfl, H28⟩
          obtain ⟨h8a, h8b, h8c⟩ := KQ G1 (AE.map dQ.says)
          have HC := H28
          rw [h8a, h8b, h8c, hAs, qK (by intro hz; exact hp (List.append_eq_nil_iff.1 hz).2), ← hF3] at HC
          have aav := HC.f6
          have aaw := V.DX aav
          refine iJ (aC (nD O O (bD 33 ah O bH O (aH (dZ 33 aaw.f6 bH) ?_))))
          rintro _ w31 SI
          refine bM ?_
          refine EW (.inr O) (SI.f6) (fun w32 Nw => ?_)
          refine ⟨_, Zy results84, ?_⟩
          rw [lH hp]
          exact V.GV (s := { s.vX (s.kT on) with put := [] }) (lH hp ▸ GZ iw ⟨hF1, hF2, hF3⟩ hp hG1) O Nw.f3.right.f3.right.f3.right.f9.right.f9.f9.f9.f5.f9.f7.f9.f9.f9
      · rintro D w H; exact absurd H.swap.fact.1 id
      · rintro id D33 w33 Xj
        refine Decidable.byCases (fun hid : id = 0 => ?_) (fun hid => by rw [if_neg hid] at Xj; exact absurd Xj.swap.fact.1 fun h => h)
        subst hid
        rw [if_pos rfl] at Xj
        have aca := Xj.ed
        try simp only [bW, nG, uK] at aca
        have adJ := aca.Qx
        subst hR6
        subst hR4
        refine aZ (aX (aC (bQ O (dS O func136 (AU adJ.f4) ?_))))
        rintro _ w34 ⟨u34, ae1, rfl, aeB, VR⟩
        have adK := VR.right
        have adL := adK.right
        have aaE := adL.f3.right
        obtain ⟨h9a, h9b, h9c⟩ := JD (s.c.un s.c.place)
        have HX := aaE
        rw [h9a, h9b, h9c] at HX
        obtain ⟨ov, xQ, aaA, HO⟩ := (HX.f3).old
        have hF := ND hp hn hO aaA
        have hG1 : ∀ g ∈ s.here.dropLast, ∀ x ∈ g, xC x := fun g hg => hO g (List.dropLast_subset _ hg)
        obtain ⟨G1, aaB⟩ : ∃ q, q = (s.c.un s.c.place).dropLast := ⟨_, rfl⟩
        rw [show s.here.dropLast = (s.c.un s.c.place).dropLast from rfl] at hF hG1
        have Ti := HO
        rw [← aaB] at hF hG1 Ti
        refine pJ ?_
        obtain ⟨hF1, hF2, hF3⟩ := hF
        have hl1 : xQ.length ≤ 16384 := by omega
        have hl2 : s.put.length ≤ 16384 := by omega
        refine aC (bQ O (dS O func137 (vW Ti.f4 (by omega)) ?_))
        rintro _ w38 ⟨rfl, PX⟩
        refine pJ (aP ?_)
        have V7 := PX.drew
        have BM := V.kp (V7.f16.f16.f16.f16.f16.f16.f16.f16.f16.f16.f16.f16.f16.f16.f16.f16)
        refine yC [0, 4] BM O (jS 0 O BM (fun W hW => jX aU O ((Kp.h hW).f2).get.2 O) (jG 1 O BM O (kD 2 O BM O (gV 3 O BM 33 ah O bH O (jS 4 O BM (fun W hW => jX aU O ((Kp.h hW).f7).get.2 O) (jG 7 O BM O (og 5 O (fQ V7.f3 aU zI O O O ((V7.f14).aS) (by assumption) (by omega) (by omega)) ?_)))))))
        rintro l39 w39 H39
        have NG := V.kp (H39.f16.f16.f16.f16.f16.f16.f16.f16.f16.f16.f16.f16.f16.f16.f16.f16)
        refine gW NG (by kernel_rfl) ?_
        have adM := H39.f15.f5.f3
        have adN := V.Fh kV.symm adM
        obtain ⟨AE, Rn⟩ : ∃ q, q = xQ ++ uy := ⟨_, rfl⟩
        have HA := adN
        rw [← Rn] at HA
        have hAl : AE.length = xQ.length + s.put.length := by rw [Rn, List.length_append, kV]
        have hAs : AE.map dQ.says = xQ.map dQ.says ++ s.put := by rw [Rn, List.map_append, dD]
        have hAO : ∀ x ∈ AE, xC x.says := fun x hx => by
          rw [Rn] at hx
          rcases List.mem_append.1 hx with hx | hx
          · exact hF2 x hx
          · exact hPO x hx
        refine jB 6 O NG (fun _ => jw ((HA).aS) aU O) (qR (aX (aY ?_)))
        obtain ⟨R42, adO, adP⟩ := V.Fv (HA.f2.f2.f3)
        refine fF [(0, _), (4, _), (32, _), (33, _)] (fun (i : Nat) => [(34, .int .i64 (i : Int))]) (fun (i : Nat) W => i ≤ AE.length ∧ V w0 W (iQ lp2 G1 ((AE.take i).map dQ.says) (0 + 1) • Row 189 3 l39 AE.length (AE.flatMap dQ.enc) • kE AE • R42)) (fun (i : Nat) => AE.length - i) (0) J3 lI ⟨by omega, adP⟩ ?_
        rintro i w43 ⟨hi, HL⟩
        dsimp only [List.cons_append, List.nil_append]
        refine iE (aV (iL O O) (pJ (bJ O (fun h4 => ?_) (fun h4 => ?_))))
        · (try simp only [Z] at h4)
          refine fZ (aP (aY (iE ?_)))
          obtain ⟨ae2, ae3, ae4, adQ⟩ := Rd.pW ((HL.f2).aS) (by omega)
          cases adQ
          refine aV (dI aU dW O O (by omega)) (aV (qI (ys := [_, _, _]) ((HL.f2).aS) (by omega) dA O dW O (rQ dQ.CS (by omega) default) O) ?_)
          have hkl : i < AE.length := by omega
          have hx : xC (AE.getD i default).says := hAO _ (by rw [List.getD_eq_getElem?_getD, List.getElem?_eq_getElem hkl]; exact List.getElem_mem hkl)
          have hx1 : (AE.getD i default).dl.length ≤ 1024 := hx.2.2.1
          have hx2 : (AE.getD i default).il.length ≤ 1024 := hx.2.2.2
          refine jr (fH (l := [_, _, _]) HL gZ O) ?_
          rintro _ w44 ⟨b44, rfl, Zh⟩
          refine aH (bU 0 (l' := [_, _, _]) (us := [_, _, _]) Zh dW O O O (ay (aW (by first | rfl | exact Rd.one (((Zh.f4).oJ hkl).1)) (aW (by first | rfl | exact Rd.one (((Zh.f4).oJ hkl).2)) bF))) O O) ?_
          rintro _ w45 OB
          refine iJ (aC (bQ O (aV (eU dA O dW O O (OB).get.2) (dS O func138 (yL OB.f2 (fun W HW => ((HW.f3).oJ hkl).1) (fun W HW => ((HW.f3).oJ hkl).2) (by omega) (by omega)) ?_))))
          rintro _ w46 ⟨rfl, H46⟩
          have hadd : uq G1 ((AE.take i).map dQ.says) (AE.getD i default).a (AE.getD i default).dl (AE.getD i default).il = 0 := by
            have hx3 : 0 < (AE.getD i default).dl.length + (AE.getD i default).il.length := hx.2.1
            have hx4 : 0 ≤ (AE.getD i default).a := hx.1
            have hx5 := nY G1 ((AE.take i).map dQ.says)
            rw [List.length_map, List.length_take] at hx5
            unfold uq
            rw [if_neg (by omega), if_neg (by omega)]
          have HA2 := H46
          rw [E5 hadd (by decide), E8 hadd (by decide)] at HA2
          refine bM (aJ (aX (aC (aV (gy O O (by omega)) (bQ O (bM ?_))))))
          refine dL (i + 1) ?_ ?_ ?_ ?_
          · exact lI
          · exact J3
          · (try dsimp only)
            first | done | exact ⟨by omega, by rw [Eb hkl]; exact HA2.f2.right.f3.f3.f3⟩
          · (try dsimp only); omega
        · (try simp only [Z] at h4)
          refine dB (aI ?_)
          have hil : i = AE.length := by omega
          have HB := HL
          rw [hil, List.take_length] at HB
          subst adO
          refine aI (aZ (aX (bP O (dS O func139 (yO HB) ?_))))
          rintro _ w47 ⟨rfl, H47⟩
          obtain ⟨h8a, h8b, h8c⟩ := KQ G1 (AE.map dQ.says)
          have HC := H47
          rw [h8a, h8b, h8c, hAs, qK (by intro hz; exact hp (List.append_eq_nil_iff.1 hz).2), ← hF3] at HC
          have adR := HC.f6
          have adS := V.DX adR
          refine iJ (aC (nD O O (bD 33 ah O bH O (aH (dZ 33 adS.f6 bH) ?_))))
          rintro _ w50 H50
          refine bM ?_
          refine EW (.inr O) (H50.f6) (fun w51 H51 => ?_)
          refine ⟨_, Zy results84, ?_⟩
          rw [lH hp]
          exact V.GV (s := { s.vX (s.kT on) with put := [] }) (lH hp ▸ GZ iw ⟨hF1, hF2, hF3⟩ hp hG1) O H51.f3.right.f3.right.f3.right.f9.right.f9.f9.f9.f5.f9.f7.f9.f9.f9
    · (try simp only [Z] at h2)
      have hn : on = false := h2
      obtain ⟨ov, xQ, G1, hF, hG1, HF⟩ : ∃ ov xQ G1, V4 s on xQ G1 ∧ (∀ g ∈ G1, ∀ x ∈ g, xC x) ∧ V w0 w3 (dK b3 (.cells #[ov] 80 (0, 0)) • Row 189 3 ov xQ.length (xQ.flatMap dQ.enc) • kE xQ • iQ lp2 G1 [] 0 • R4) :=
        ⟨.slice none 0 0, [], s.here, Tf hp hn, hO, (V.qY HR4.f2.f2 none).of_eq (by unfold Jp; ac_rfl)⟩
      subst hR4
      refine fZ (aP ?_)
      obtain ⟨hF1, hF2, hF3⟩ := hF
      have hl1 : xQ.length ≤ 16384 := by omega
      have hl2 : s.put.length ≤ 16384 := by omega
      refine aC (bQ O (dS O func137 (vW HF.f4 (by omega)) ?_))
      rintro _ w52 ⟨rfl, Zj⟩
      refine pJ (aP ?_)
      have V8 := Zj.drew
      have BN := V.kp (V8.f15.f15.f15.f15.f15.f15.f15.f15.f15.f15.f15.f15.f15.f15.f15)
      refine yC [0, 4] BN O (jS 0 O BN (fun W hW => jX aU O ((Kp.h hW).f2).get.2 O) (jG 1 O BN O (kD 2 O BN O (gV 3 O BN 33 ah O bH O (jS 4 O BN (fun W hW => jX aU O ((Kp.h hW).f6).get.2 O) (jG 7 O BN O (og 5 O (fQ V8.f3 aU zI O O O ((V8.f13).aS) (by assumption) (by omega) (by omega)) ?_)))))))
      rintro l53 w53 H53
      have Zm := V.kp (H53.f15.f15.f15.f15.f15.f15.f15.f15.f15.f15.f15.f15.f15.f15.f15)
      refine gW Zm (by kernel_rfl) ?_
      have adT := H53.f14.f5.f3
      have adU := V.Fh kV.symm adT
      obtain ⟨AE, Rn⟩ : ∃ q, q = xQ ++ uy := ⟨_, rfl⟩
      have HA := adU
      rw [← Rn] at HA
      have hAl : AE.length = xQ.length + s.put.length := by rw [Rn, List.length_append, kV]
      have hAs : AE.map dQ.says = xQ.map dQ.says ++ s.put := by rw [Rn, List.map_append, dD]
      have hAO : ∀ x ∈ AE, xC x.says := fun x hx => by
        rw [Rn] at hx
        rcases List.mem_append.1 hx with hx | hx
        · exact hF2 x hx
        · exact hPO x hx
      refine jB 6 O Zm (fun _ => jw ((HA).aS) aU O) (qR (aX (aY ?_)))
      obtain ⟨R56, adV, adW⟩ := V.Fv (HA.f2.f2.f3)
      refine fF [(0, _), (4, _), (32, _), (33, _)] (fun (i : Nat) => [(34, .int .i64 (i : Int))]) (fun (i : Nat) W => i ≤ AE.length ∧ V w0 W (iQ lp2 G1 ((AE.take i).map dQ.says) (0 + 1) • Row 189 3 l53 AE.length (AE.flatMap dQ.enc) • kE AE • R56)) (fun (i : Nat) => AE.length - i) (0) J3 lI ⟨by omega, adW⟩ ?_
      rintro i w57 ⟨hi, HL⟩
      dsimp only [List.cons_append, List.nil_append]
      refine iE (aV (iL O O) (pJ (bJ O (fun h5 => ?_) (fun h5 => ?_))))
      · (try simp only [Z] at h5)
        refine fZ (aP (aY (iE ?_)))
        obtain ⟨ae5, ae6, ae7, adX⟩ := Rd.pW ((HL.f2).aS) (by omega)
        cases adX
        refine aV (dI aU dW O O (by omega)) (aV (qI (ys := [_, _, _]) ((HL.f2).aS) (by omega) dA O dW O (rQ dQ.CS (by omega) default) O) ?_)
        have hkl : i < AE.length := by omega
        have hx : xC (AE.getD i default).says := hAO _ (by rw [List.getD_eq_getElem?_getD, List.getElem?_eq_getElem hkl]; exact List.getElem_mem hkl)
        have hx1 : (AE.getD i default).dl.length ≤ 1024 := hx.2.2.1
        have hx2 : (AE.getD i default).il.length ≤ 1024 := hx.2.2.2
        refine jr (fH (l := [_, _, _]) HL gZ O) ?_
        rintro _ w58 ⟨b58, rfl, Yc⟩
        refine aH (bU 0 (l' := [_, _, _]) (us := [_, _, _]) Yc dW O O O (ay (aW (by first | rfl | exact Rd.one (((Yc.f4).oJ hkl).1)) (aW (by first | rfl | exact Rd.one (((Yc.f4).oJ hkl).2)) bF))) O O) ?_
        rintro _ w59 H59
        refine iJ (aC (bQ O (aV (eU dA O dW O O (H59).get.2) (dS O func138 (yL H59.f2 (fun W HW => ((HW.f3).oJ hkl).1) (fun W HW => ((HW.f3).oJ hkl).2) (by omega) (by omega)) ?_))))
        rintro _ w60 ⟨rfl, H60⟩
        have hadd : uq G1 ((AE.take i).map dQ.says) (AE.getD i default).a (AE.getD i default).dl (AE.getD i default).il = 0 := by
          have hx3 : 0 < (AE.getD i default).dl.length + (AE.getD i default).il.length := hx.2.1
          have hx4 : 0 ≤ (AE.getD i default).a := hx.1
          have hx5 := nY G1 ((AE.take i).map dQ.says)
          rw [List.length_map, List.length_take] at hx5
          unfold uq
          rw [if_neg (by omega), if_neg (by omega)]
        have HA2 := H60
        rw [E5 hadd (by decide), E8 hadd (by decide)] at HA2
        refine bM (aJ (aX (aC (aV (gy O O (by omega)) (bQ O (bM ?_))))))
        refine dL (i + 1) ?_ ?_ ?_ ?_
        · exact lI
        · exact J3
        · (try dsimp only)
          first | done | exact ⟨by omega, by rw [Eb hkl]; exact HA2.f2.right.f3.f3.f3⟩
        · (try dsimp only); omega
      · (try simp only [Z] at h5)
        refine dB (aI ?_)
        have hil : i = AE.length := by omega
        have HB := HL
        rw [hil, List.take_length] at HB
        subst adV
        refine aI (aZ (aX (bP O (dS O func139 (yO HB) ?_))))
        rintro _ w61 ⟨rfl, H61⟩
        obtain ⟨h8a, h8b, h8c⟩ := KQ G1 (AE.map dQ.says)
        have HC := H61
        rw [h8a, h8b, h8c, hAs, qK (by intro hz; exact hp (List.append_eq_nil_iff.1 hz).2), ← hF3] at HC
        have adY := HC.f5
        have adZ := V.DX adY
        refine iJ (aC (nD O O (bD 33 ah O bH O (aH (dZ 33 adZ.f5 bH) ?_))))
        rintro _ w64 H64
        refine bM (lg (.inr O) results84 ?_)
        rw [lH hp]
        exact V.GV (s := { s.vX (s.kT on) with put := [] }) (lH hp ▸ GZ iw ⟨hF1, hF2, hF3⟩ hp hG1) O H64.f3.right.f3.right.f3.right.f9.right.f9.f9.f9.f5.f9.f7.f9.f9.f9
end
end Go.Proofs.YtpdeedplgmbopaaGreatDoor
end
