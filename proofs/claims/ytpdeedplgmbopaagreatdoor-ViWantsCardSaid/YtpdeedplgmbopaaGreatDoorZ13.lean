import Derived.Test.YtpdeedplgmbopaaGreatDoorZ4
import Derived.Test.YtpdeedplgmbopaaGreatDoorZ12
set_option linter.unusedSimpArgs false
set_option linter.unusedVariables false
/- Texts of mine, joined, their names in short: EdK EdF. -/
section
namespace Go.Proofs.YtpdeedplgmbopaaGreatDoor
open Go.RowKit
section
variable {w0 w : World} {F : HP} {e p h pr : Nat} {s : dJ} {i j x : Int} {back : Bool} {v : Value} {l : List Int}
theorem V4 {E : List (List Int)} (h : ∀ x ∈ E, x.length ≤ 1024) (k : Nat) : (E.getD k []).length ≤ 1024 := by
  rw [List.getD_eq_getElem?_getD]
  cases hk : E[k]? with
  | none => simp
  | some x => exact h x (List.mem_of_getElem? hk)
end
end Go.Proofs.YtpdeedplgmbopaaGreatDoor
end
section
namespace Go.Proofs.YtpdeedplgmbopaaGreatDoor
open Go.RowKit
open _root_.Go.Proofs.Tryz
theorem Yf : (prog.info? 189).map (fun i => (i.zero, i.size, i.bytes)) = some (some (.agg #[.int .i64 0, .slice none 0 0, .slice none 0 0]), 3, 56) := by kernel_rfl
def Rt (c : Nat) (g : List iU) : HP := rV fun (x : Value × List dV) => fact (x.2.map dV.says = g) • dM c (.cells #[x.1] 80 (0, 0)) • Row 189 3 x.1 x.2.length (x.2.flatMap dV.enc) • kK x.2
section
variable {w0 w : World} {F : HP} {e p c n m : Nat} {s : dJ} {i j x : Int} {on : Bool} {v : Value} {g : List iU} {xZ es : List dV} {xs : List Value}
theorem zo (H : V w0 w F) (hr : OO w0 F 3 v n xs) (hon : ∀ u ∈ xs, u.oneCell' = true) (hb : n ≤ 1099511627776) :
    gQ prog 122 #[v] w fun v' w' => V w0 w' (Row 189 3 v' n xs • F) := by
  obtain ⟨hlen, a, c, rfl, h2, h3, h4⟩ := hr w H
  refine iC func122 ntmps122 ?_
  refine jk O (aO (bT O (Z (zB aV O O) ?_)))
  refine iV O (fun h1 => ?_) (fun h1 => ?_)
  · (try simp only [aF] at h1)
    refine jd O (aG (dG results122 O ?_))
    obtain rfl : a = none := by simpa using h1
    obtain rfl : n = 0 := by
      rcases Nat.eq_zero_or_pos n with h | h
      · exact h
      · obtain ⟨b, o, e, _⟩ := h4 h; cases e
    obtain rfl : xs = [] := List.eq_nil_of_length_eq_zero (by omega)
    exact H.iP none
  · (try simp only [aF] at h1)
    refine fV (iy (jy (Gw H aV dY ig) ?_))
    rintro _ w1 H1
    refine bQ O (jy (fZ H1 aV Yf O O O (hr.under _ H1) hon (by omega) (by omega)) ?_)
    rintro _ w2 H2
    refine fF O (dG results122 O ?_)
    exact H2.of_eq (by rw [Nat.zero_add, List.nil_append])
theorem V.old (H : V w0 w (Rt c g • F)) : ∃ v es, es.map dV.says = g ∧ V w0 w (dM c (.cells #[v] 80 (0, 0)) • Row 189 3 v es.length (es.flatMap dV.enc) • kK es • F) := by
  obtain ⟨⟨v, es⟩, H⟩ := H.lQ
  obtain ⟨h, H⟩ := H.flat.fact
  exact ⟨v, es, h, H.of_eq (by simp only [bZ])⟩
theorem V.V5 (h : es.map dV.says = g) (H : V w0 w (dM c (.cells #[v] 80 (0, 0)) • Row 189 3 v es.length (es.flatMap dV.enc) • kK es • F)) : V w0 w (Rt c g • F) :=
  V.iD (v, es) (V.deep (V.kE h (H.of_eq (by simp only [bZ]))))
theorem V.Yg (hg : g = []) (H : V w0 w (dM c (.cells #[.slice none 0 0] 80 (0, 0)) • F)) : V w0 w (Rt c g • F) :=
  V.V5 (v := .slice none 0 0) (es := []) hg.symm ((H.rD none).of_eq (by unfold Jv; ac_rfl))
theorem V.FH (hm : m = es.length) (H : V w0 w (Row 189 3 v (xZ.length + m) (xZ.flatMap dV.enc ++ es.flatMap dV.enc) • kK xZ • kK es • F)) : V w0 w (Row 189 3 v (xZ ++ es).length ((xZ ++ es).flatMap dV.enc) • kK (xZ ++ es) • F) := by
  subst hm
  have h1 : V w0 w (kK xZ • kK es • Row 189 3 v (xZ.length + es.length) (xZ.flatMap dV.enc ++ es.flatMap dV.enc) • F) := H.of_eq (by ac_rfl)
  have h2 : V w0 w (kK (xZ ++ es) • Row 189 3 v (xZ.length + es.length) (xZ.flatMap dV.enc ++ es.flatMap dV.enc) • F) := h1.DW (tV (fun I h g => h.app g) _)
  exact h2.swap.of_eq (by rw [List.length_append, List.flatMap_append])
def V6 (s : dJ) (on : Bool) (xZ : List dV) (G1 : List (List iU)) : Prop := iH G1 [] + xZ.length = iH s.here [] ∧ (∀ e ∈ xZ, xK e.says) ∧ s.kY on = G1 ++ [xZ.map dV.says ++ s.put]
theorem Tq (hp : s.put ≠ []) (hn : on = false) : V6 s on [] s.here := by
  subst hn
  refine ⟨by simp, by simp, ?_⟩
  unfold dJ.kY
  rw [if_neg hp, if_neg (by decide)]
  rfl
theorem Dz : ∀ {G : List (List iU)}, G ≠ [] → (G.dropLast.map List.length).sum + (G.getLastD []).length = (G.map List.length).sum := by
  intro G hG
  have h := List.dropLast_concat_getLast hG
  have h2 : G.getLastD [] = G.getLast hG := by rw [List.getLastD_eq_getLast?, List.getLast?_eq_some_getLast hG]; rfl
  rw [h2]
  conv => rhs; rw [← h]
  simp
theorem NQ (hp : s.put ≠ []) (hn : on = true) (hO : ∀ g ∈ s.here, ∀ e ∈ g, xK e) (h : xZ.map dV.says = s.here.getLastD []) : V6 s on xZ s.here.dropLast := by
  subst hn
  have hlen : xZ.length = (s.here.getLastD []).length := by rw [← h]; simp
  have hm : ∀ e ∈ xZ, e.says ∈ s.here.getLastD [] := fun e he => by rw [← h]; exact List.mem_map.2 ⟨e, he, rfl⟩
  unfold V6 dJ.kY
  rw [if_neg hp, if_pos rfl]
  by_cases h0 : s.here = []
  · rw [h0] at h hlen hm
    have : xZ = [] := List.eq_nil_of_length_eq_zero (by simpa using hlen)
    subst this
    rw [h0]
    exact ⟨by simp, by simp, rfl⟩
  · have h2 : s.here.getLastD [] = s.here.getLast h0 := by rw [List.getLastD_eq_getLast?, List.getLast?_eq_some_getLast h0]; rfl
    refine ⟨?_, fun e he => hO _ (List.getLast_mem h0) _ (h2 ▸ hm e he), ?_⟩
    · have := Dz h0
      show (s.here.dropLast.map List.length).sum + 0 + xZ.length = (s.here.map List.length).sum + 0
      rw [hlen]; omega
    · rw [List.getLast?_eq_some_getLast h0, h, h2]
theorem Ho (G : List (List iU)) : BN G [] = G.reverse := by unfold BN mJ; rw [if_pos rfl]
theorem Qd (G : List (List iU)) : (BN G []).getD 0 [] = G.getLastD [] := by
  rw [Ho, List.getD_eq_getElem?_getD, List.getLastD_eq_getLast?]
  congr 1
  cases G.eq_nil_or_concat with
  | inl h => subst h; rfl
  | inr h => obtain ⟨L, b, rfl⟩ := h; simp
theorem V7 {G : List (List iU)} (h : XP G [] 0) : (∀ g ∈ BN G [], ∀ e ∈ g, EB e) ∧ ∀ g ∈ BN G [], g.length ≤ 16384 := by
  rw [Ho]
  refine ⟨fun g hg => h.2.2.2.2.1 g (List.mem_reverse.1 hg), fun g hg => ?_⟩
  have h1 := FB (List.mem_reverse.1 hg)
  have h2 := h.2.1
  unfold iH at h2
  simp at h2; omega
theorem Lc (G : List (List iU)) (N : List iU) : ZW G N (0 + 1) = mJ G N ∧ ZX N (0 + 1) = [] ∧ XQ (0 + 1) = 0 := ⟨if_pos rfl, if_pos rfl, by unfold XQ; rw [if_neg (by decide)]; rfl⟩
theorem JL (G : List (List iU)) : QS G [] = G.dropLast ∧ QT G [] = [] ∧ QU G [] 0 = 0 := by
  unfold QS QT QU mJ
  by_cases h : G.length + ([] : List iU).length = 0
  · have : G = [] := List.eq_nil_of_length_eq_zero (by simpa using h)
    subst this
    simp
  · rw [if_neg h, if_neg h, if_neg h, if_pos rfl]; simp
theorem yY {s : dJ} (h : s.put = []) : s.gI on = s := by unfold dJ.gI; rw [if_pos h]
theorem lN {s : dJ} (h : s.put ≠ []) : s.gI on = { s.wB (s.kY on) with put := [] } := by unfold dJ.gI; rw [if_neg h]
theorem DC (G : List (List iU)) (g : List iU) : iH (G ++ [g]) [] = iH G [] + g.length := by unfold iH; simp
theorem Hr (h : lT s) {G1 : List (List iU)} (hF : V6 s on xZ G1) (hp : s.put ≠ []) (hG : ∀ g ∈ G1, ∀ e ∈ g, xK e) : lT (s.gI on) := by
  rw [lN hp]
  obtain ⟨h1, h2, h3, h4, h5, h6⟩ := h
  obtain ⟨f1, f2, f3⟩ := hF
  refine ⟨h1, h2, h3, by simp, ?_, ?_⟩
  · show iH (wQ s.c.un s.c.place (s.kY on) s.c.place) [] ≤ 16384
    rw [nS, f3, DC]
    have := oq s.here s.put
    simp; omega
  · intro k g hg e he
    have hg' : g ∈ wQ s.c.un s.c.place (s.kY on) k := hg
    by_cases hk : k = s.c.place
    · subst hk
      rw [nS, f3] at hg'
      rcases List.mem_append.1 hg' with hg' | hg'
      · exact hG g hg' e he
      · rw [List.mem_singleton.1 hg'] at he
        rcases List.mem_append.1 he with he | he
        · obtain ⟨q, hq, rfl⟩ := List.mem_map.1 he; exact f2 q hq
        · exact h4 e he
    · rw [tX _ _ hk] at hg'; exact h6 k g hg' e he
theorem Ej {es : List dV} {k : Nat} (hk : k < es.length) : (es.take (k + 1)).map dV.says = (es.take k).map dV.says ++ [(es.getD k default).says] := by
  rw [List.take_succ_eq_append_getElem hk, List.map_append, List.getD_eq_getElem?_getD, List.getElem?_eq_getElem hk]; rfl
theorem pV (H : V w0 w (gG e s • F)) : gQ prog 84 #[.pointer (some ⟨e, 0, none⟩), .bool on] w fun _ w' => V w0 w' (gG e (s.gI on) • F) := by
  refine nH func84 ntmps84 ?_
  refine aO (aO ?_)
  obtain ⟨xO, xP, xQ, xR, xU, xW, xX, xY, uK, sG, sH, sJ, sK, sN, sO, sQ, sS, sU, sV, sW, iw, dI, lg, iL⟩ := (H).Gz
  have hput : iH s.here s.put ≤ 16384 := iw.2.2.2.2.1
  have hsp := oq s.here s.put
  have hO : ∀ g ∈ s.here, ∀ x ∈ g, xK x := iw.2.2.2.2.2 s.c.place
  have hPO : ∀ x ∈ uK, xK x.says := fun x hx => iw.2.2.2.1 _ (by rw [← dI]; exact List.mem_map.2 ⟨x, hx, rfl⟩)
  have aex := (iL.f10).zN
  refine aB (nG O O (bF 33 ah O bJ O (gq aV O (iL).get.2 O (Z (iW ((iL.f9).aT) aV O) (Z (dO O O) (iV O (fun h1 => ?_) (fun h1 => ?_)))))))
  · (try simp only [aF] at h1)
    refine mG (aG (we0 results84 ?_))
    rw [yY (List.eq_nil_of_length_eq_zero (by omega))]
    exact V.iI iw dI iL.f11.f11.f11.f11.f11.f11.f11.f11.f11.f11.f11
  · (try simp only [aF] at h1)
    have hp : s.put ≠ [] := by rintro hz; rw [hz] at h1; simp at h1
    refine fV (bT O (eG O func134 (NG iL.f6.f5.f3) ?_))
    rintro _ w2 ⟨lp2, rfl, H2⟩
    refine gB O (iy (jy (fM (l := [_]) H2 lG O) ?_))
    rintro _ w3 ⟨b3, rfl, H3⟩
    refine pJ (aO ?_)
    obtain ⟨R4, hR4, HR4⟩ := V.aa1 (H3.f2.f2)
    refine aB (bQ O (iV O (fun h2 => ?_) (fun h2 => ?_)))
    · (try simp only [aF] at h2)
      have hn : on = true := h2
      refine aO (bT O (eG O func135 (E5 HR4.f2) ?_))
      rintro _ w5 ⟨bG5, rfl, H5⟩
      refine iK (aZ ?_)
      obtain ⟨_, _, _, _, k1, _⟩ := (H5.f2).yw
      obtain ⟨hB, hL⟩ := V7 k1
      have HF0 := V.kE (q := (0 : Nat) = 0) rfl H5
      obtain ⟨R6, hR6, HR6⟩ := V.FN (HF0.f4.f2.f3)
      refine yR O (Nb bG5 hB hL) (fun j => fact (j = 0) • dM b3 (.cells #[.slice none 0 0] 80 (0, 0)) • R6) (fact False) (fun id => if id = 0 then Rt b3 (s.here.getLastD []) • R6 else fact False) (HR6.f3.f3.f3.f3.f3.f3.comm) (by rfl) ?_ ?_ ?_ ?_
      · rintro l7 j ZU vs7 A7 ⟨u1, fs1, ab4, rfl, rfl⟩ G7 w7 H7
        try simp only [bZ, nI, uU] at H7
        refine ⟨O, ?_⟩
        dsimp only [Pv]
        have HQ := (H7).ZO
        obtain rfl : j = 0 := (HQ.f3).fact.1
        have hon := (HQ.f2).zN
        have hlen1 : fs1.length ≤ 16384 := by
          have h9 := hL _ (vJ (d := []) ZU)
          rw [← ab4] at h9
          simpa using h9
        refine aB (fU O (bP ?_))
        refine Pq (HQ.g5) ?_
        intro G8 w8 H8
        try simp only [bZ] at H8
        refine aZ (bT O (eG O func122 (zo H8 (fun W HW => (HW).aT) hon (by omega)) ?_))
        rintro u9 w9 H9
        refine aK (fE 0 (l' := [_]) H9.f5 bJ O O (by first | rfl | exact Rd.one ((H9).aT)) O O) ?_
        rintro _ w10 ql
        refine iK (dn ?_)
        refine Bc (by decide) ?_
        refine UW ?_
        rw [if_pos rfl]
        exact (V.V5 (ab4.trans (Qd _)) ql.f3.right.f4.right.f3.f3.f3).deep
      · rintro D11 EI rE
        have ab5 := rE.ed
        try simp only [bZ, nI, uU] at ab5
        have ab6 := ab5.QC
        have hz := (ab6.f3).fact.1
        rw [Ho, List.length_reverse] at hz
        have hg0 : s.here.getLastD [] = [] := by show (s.c.un s.c.place).getLastD [] = []; rw [List.eq_nil_of_length_eq_zero hz]; rfl
        have P5 := ab6.f4
        have P6 := V.Yg hg0 P5
        have Yh := P6.f4.right
        subst hR6
        subst hR4
        refine aJ (aW (aB (bQ O (eG O func136 (Bg Yh.f4) ?_))))
        rintro _ SA ⟨u15, aeY, rfl, aey, yQ⟩
        have adC := yQ.right
        have Po := adC.right
        have adD := Po.f4.right
        obtain ⟨h9a, h9b, h9c⟩ := JL (s.c.un s.c.place)
        have HX := adD
        rw [h9a, h9b, h9c] at HX
        obtain ⟨ov, xZ, aay, HO⟩ := (HX.f2).old
        have hF := NQ hp hn hO aay
        have hG1 : ∀ g ∈ s.here.dropLast, ∀ x ∈ g, xK x := fun g hg => hO g (List.dropLast_subset _ hg)
        obtain ⟨G1, aaz⟩ : ∃ q, q = (s.c.un s.c.place).dropLast := ⟨_, rfl⟩
        rw [show s.here.dropLast = (s.c.un s.c.place).dropLast from rfl] at hF hG1
        have Tt := HO
        rw [← aaz] at hF hG1 Tt
        refine pJ ?_
        obtain ⟨hF1, hF2, hF3⟩ := hF
        have hl1 : xZ.length ≤ 16384 := by omega
        have hl2 : s.put.length ≤ 16384 := by omega
        refine aB (bQ O (eG O func137 (wz Tt.f4 (by omega)) ?_))
        rintro _ w19 ⟨rfl, Ec⟩
        refine pJ (aO ?_)
        have V8 := Ec.drew
        have Cb := V.kp (V8.f16.f16.f16.f16.f16.f16.f16.f16.f16.f16.f16.f16.f16.f16.f16.f16)
        refine yj [0, 4] Cb O (jQ 0 O Cb (fun W hW => kC aV O ((Kp.h hW).f2).get.2 O) (jE 1 O Cb O (kJ 2 O Cb O (gU 3 O Cb 33 ah O bJ O (jQ 4 O Cb (fun W hW => kC aV O ((Kp.h hW).f7).get.2 O) (jE 7 O Cb O (oC 5 O (fZ V8.f3 aV zO O O O ((V8.f14).aT) (by assumption) (by omega) (by omega)) ?_)))))))
        rintro l20 w20 OZ
        have Dl := V.kp (OZ.f16.f16.f16.f16.f16.f16.f16.f16.f16.f16.f16.f16.f16.f16.f16.f16)
        refine gV Dl (by kernel_rfl) ?_
        have aaA := OZ.f15.f5.f3
        have aaB := V.FH lg.symm aaA
        obtain ⟨AE, Ru⟩ : ∃ q, q = xZ ++ uK := ⟨_, rfl⟩
        have HA := aaB
        rw [← Ru] at HA
        have hAl : AE.length = xZ.length + s.put.length := by rw [Ru, List.length_append, lg]
        have hAs : AE.map dV.says = xZ.map dV.says ++ s.put := by rw [Ru, List.map_append, dI]
        have hAO : ∀ x ∈ AE, xK x.says := fun x hx => by
          rw [Ru] at hx
          rcases List.mem_append.1 hx with hx | hx
          · exact hF2 x hx
          · exact hPO x hx
        refine jC 6 O Dl (fun _ => iW ((HA).aT) aV O) (qR (aW (aZ ?_)))
        obtain ⟨R23, adE, adF⟩ := V.FN (HA.f2.f2.f3)
        refine fC [(0, _), (4, _), (32, _), (33, _)] (fun (i : Nat) => [(34, .int .i64 (i : Int))]) (fun (i : Nat) W => i ≤ AE.length ∧ V w0 W (iQ lp2 G1 ((AE.take i).map dV.says) (0 + 1) • Row 189 3 l20 AE.length (AE.flatMap dV.enc) • kK AE • R23)) (fun (i : Nat) => AE.length - i) (0) Kq kD ⟨by omega, adF⟩ ?_
        rintro i w24 ⟨hi, HL⟩
        dsimp only [List.cons_append, List.nil_append]
        refine iy (Z (gZ O O) (pJ (bG O (fun h3 => ?_) (fun h3 => ?_))))
        · (try simp only [aF] at h3)
          refine fV (aO (aZ (iy ?_)))
          obtain ⟨aeZ, ae0, ae1, adG⟩ := Rd.nX ((HL.f2).aT) (by omega)
          cases adG
          refine Z (dw aV dY O O (by omega)) (Z (qL (ys := [_, _, _]) ((HL.f2).aT) (by omega) dF O dY O (sD dV.Dc (by omega) default) O) ?_)
          have hkl : i < AE.length := by omega
          have hx : xK (AE.getD i default).says := hAO _ (by rw [List.getD_eq_getElem?_getD, List.getElem?_eq_getElem hkl]; exact List.getElem_mem hkl)
          have hx1 : (AE.getD i default).dl.length ≤ 1024 := hx.2.2.1
          have hx2 : (AE.getD i default).il.length ≤ 1024 := hx.2.2.2
          refine jy (fM (l := [_, _, _]) HL ig O) ?_
          rintro _ w25 ⟨b25, rfl, Uh⟩
          refine aK (bW 0 (l' := [_, _, _]) (us := [_, _, _]) Uh dY O O O (aA (aX (by first | rfl | exact Rd.one (((Uh.f4).oM hkl).1)) (aX (by first | rfl | exact Rd.one (((Uh.f4).oM hkl).2)) bD))) O O) ?_
          rintro _ w26 VR
          refine iK (aB (bQ O (Z (fD dF O dY O O (VR).get.2) (eG O func138 (yP VR.f2 (fun W HW => ((HW.f3).oM hkl).1) (fun W HW => ((HW.f3).oM hkl).2) (by omega) (by omega)) ?_))))
          rintro _ w27 ⟨rfl, NH⟩
          have hadd : uI G1 ((AE.take i).map dV.says) (AE.getD i default).a (AE.getD i default).dl (AE.getD i default).il = 0 := by
            have hx3 : 0 < (AE.getD i default).dl.length + (AE.getD i default).il.length := hx.2.1
            have hx4 : 0 ≤ (AE.getD i default).a := hx.1
            have hx5 := oq G1 ((AE.take i).map dV.says)
            rw [List.length_map, List.length_take] at hx5
            unfold uI
            rw [if_neg (by omega), if_neg (by omega)]
          have HA2 := NH
          rw [Fq hadd (by decide), Fv hadd (by decide)] at HA2
          refine bP (aJ (aW (aB (Z (fK O O (by omega)) (bQ O (bP ?_))))))
          refine dH (i + 1) ?_ ?_ ?_ ?_
          · exact kD
          · exact Kq
          · (try dsimp only)
            first | done | exact ⟨by omega, by rw [Ej hkl]; exact HA2.f2.right.f3.f3.f3⟩
          · (try dsimp only); omega
        · (try simp only [aF] at h3)
          refine dn (aI ?_)
          have hil : i = AE.length := by omega
          have HB := HL
          rw [hil, List.take_length] at HB
          subst adE
          refine aI (aY (aW (bT O (eG O func139 (yS HB) ?_))))
          rintro _ w28 ⟨rfl, H28⟩
          obtain ⟨h8a, h8b, h8c⟩ := Lc G1 (AE.map dV.says)
          have HC := H28
          rw [h8a, h8b, h8c, hAs, qN (by intro hz; exact hp (List.append_eq_nil_iff.1 hz).2), ← hF3] at HC
          have aat := HC.f6
          have aau := V.Ed aat
          refine iK (aB (nG O O (bF 33 ah O bJ O (aK (eP 33 aau.f6 bJ) ?_))))
          rintro _ w31 SN
          refine bP ?_
          refine Fg (.inr O) (SN.f6) (fun w32 NI => ?_)
          refine ⟨_, Zx results84, ?_⟩
          rw [lN hp]
          exact V.Hg (s := { s.wB (s.kY on) with put := [] }) (lN hp ▸ Hr iw ⟨hF1, hF2, hF3⟩ hp hG1) O NI.f3.right.f3.right.f3.right.f9.right.f9.f9.f9.f5.f9.f7.f9.f9.f9
      · rintro D w H; exact absurd H.swap.fact.1 id
      · rintro id D33 w33 Xl
        refine Decidable.byCases (fun hid : id = 0 => ?_) (fun hid => by rw [if_neg hid] at Xl; exact absurd Xl.swap.fact.1 fun h => h)
        subst hid
        rw [if_pos rfl] at Xl
        have ab7 := Xl.ed
        try simp only [bZ, nI, uU] at ab7
        have adH := ab7.QC
        subst hR6
        subst hR4
        refine aY (aW (aB (bQ O (eG O func136 (Bg adH.f4) ?_))))
        rintro _ w34 ⟨u34, ae2, rfl, aez, VU⟩
        have adI := VU.right
        have adJ := adI.right
        have aaC := adJ.f3.right
        obtain ⟨h9a, h9b, h9c⟩ := JL (s.c.un s.c.place)
        have HX := aaC
        rw [h9a, h9b, h9c] at HX
        obtain ⟨ov, xZ, aay, HO⟩ := (HX.f3).old
        have hF := NQ hp hn hO aay
        have hG1 : ∀ g ∈ s.here.dropLast, ∀ x ∈ g, xK x := fun g hg => hO g (List.dropLast_subset _ hg)
        obtain ⟨G1, aaz⟩ : ∃ q, q = (s.c.un s.c.place).dropLast := ⟨_, rfl⟩
        rw [show s.here.dropLast = (s.c.un s.c.place).dropLast from rfl] at hF hG1
        have Tt := HO
        rw [← aaz] at hF hG1 Tt
        refine pJ ?_
        obtain ⟨hF1, hF2, hF3⟩ := hF
        have hl1 : xZ.length ≤ 16384 := by omega
        have hl2 : s.put.length ≤ 16384 := by omega
        refine aB (bQ O (eG O func137 (wz Tt.f4 (by omega)) ?_))
        rintro _ w38 ⟨rfl, Qa⟩
        refine pJ (aO ?_)
        have V9 := Qa.drew
        have Cc := V.kp (V9.f16.f16.f16.f16.f16.f16.f16.f16.f16.f16.f16.f16.f16.f16.f16.f16)
        refine yj [0, 4] Cc O (jQ 0 O Cc (fun W hW => kC aV O ((Kp.h hW).f2).get.2 O) (jE 1 O Cc O (kJ 2 O Cc O (gU 3 O Cc 33 ah O bJ O (jQ 4 O Cc (fun W hW => kC aV O ((Kp.h hW).f7).get.2 O) (jE 7 O Cc O (oC 5 O (fZ V9.f3 aV zO O O O ((V9.f14).aT) (by assumption) (by omega) (by omega)) ?_)))))))
        rintro l39 w39 H39
        have NR := V.kp (H39.f16.f16.f16.f16.f16.f16.f16.f16.f16.f16.f16.f16.f16.f16.f16.f16)
        refine gV NR (by kernel_rfl) ?_
        have adK := H39.f15.f5.f3
        have adL := V.FH lg.symm adK
        obtain ⟨AE, Ru⟩ : ∃ q, q = xZ ++ uK := ⟨_, rfl⟩
        have HA := adL
        rw [← Ru] at HA
        have hAl : AE.length = xZ.length + s.put.length := by rw [Ru, List.length_append, lg]
        have hAs : AE.map dV.says = xZ.map dV.says ++ s.put := by rw [Ru, List.map_append, dI]
        have hAO : ∀ x ∈ AE, xK x.says := fun x hx => by
          rw [Ru] at hx
          rcases List.mem_append.1 hx with hx | hx
          · exact hF2 x hx
          · exact hPO x hx
        refine jC 6 O NR (fun _ => iW ((HA).aT) aV O) (qR (aW (aZ ?_)))
        obtain ⟨R42, adM, adN⟩ := V.FN (HA.f2.f2.f3)
        refine fC [(0, _), (4, _), (32, _), (33, _)] (fun (i : Nat) => [(34, .int .i64 (i : Int))]) (fun (i : Nat) W => i ≤ AE.length ∧ V w0 W (iQ lp2 G1 ((AE.take i).map dV.says) (0 + 1) • Row 189 3 l39 AE.length (AE.flatMap dV.enc) • kK AE • R42)) (fun (i : Nat) => AE.length - i) (0) Kq kD ⟨by omega, adN⟩ ?_
        rintro i w43 ⟨hi, HL⟩
        dsimp only [List.cons_append, List.nil_append]
        refine iy (Z (gZ O O) (pJ (bG O (fun h4 => ?_) (fun h4 => ?_))))
        · (try simp only [aF] at h4)
          refine fV (aO (aZ (iy ?_)))
          obtain ⟨ae3, ae4, ae5, adO⟩ := Rd.nX ((HL.f2).aT) (by omega)
          cases adO
          refine Z (dw aV dY O O (by omega)) (Z (qL (ys := [_, _, _]) ((HL.f2).aT) (by omega) dF O dY O (sD dV.Dc (by omega) default) O) ?_)
          have hkl : i < AE.length := by omega
          have hx : xK (AE.getD i default).says := hAO _ (by rw [List.getD_eq_getElem?_getD, List.getElem?_eq_getElem hkl]; exact List.getElem_mem hkl)
          have hx1 : (AE.getD i default).dl.length ≤ 1024 := hx.2.2.1
          have hx2 : (AE.getD i default).il.length ≤ 1024 := hx.2.2.2
          refine jy (fM (l := [_, _, _]) HL ig O) ?_
          rintro _ w44 ⟨b44, rfl, Zg⟩
          refine aK (bW 0 (l' := [_, _, _]) (us := [_, _, _]) Zg dY O O O (aA (aX (by first | rfl | exact Rd.one (((Zg.f4).oM hkl).1)) (aX (by first | rfl | exact Rd.one (((Zg.f4).oM hkl).2)) bD))) O O) ?_
          rintro _ w45 OD
          refine iK (aB (bQ O (Z (fD dF O dY O O (OD).get.2) (eG O func138 (yP OD.f2 (fun W HW => ((HW.f3).oM hkl).1) (fun W HW => ((HW.f3).oM hkl).2) (by omega) (by omega)) ?_))))
          rintro _ w46 ⟨rfl, H46⟩
          have hadd : uI G1 ((AE.take i).map dV.says) (AE.getD i default).a (AE.getD i default).dl (AE.getD i default).il = 0 := by
            have hx3 : 0 < (AE.getD i default).dl.length + (AE.getD i default).il.length := hx.2.1
            have hx4 : 0 ≤ (AE.getD i default).a := hx.1
            have hx5 := oq G1 ((AE.take i).map dV.says)
            rw [List.length_map, List.length_take] at hx5
            unfold uI
            rw [if_neg (by omega), if_neg (by omega)]
          have HA2 := H46
          rw [Fq hadd (by decide), Fv hadd (by decide)] at HA2
          refine bP (aJ (aW (aB (Z (fK O O (by omega)) (bQ O (bP ?_))))))
          refine dH (i + 1) ?_ ?_ ?_ ?_
          · exact kD
          · exact Kq
          · (try dsimp only)
            first | done | exact ⟨by omega, by rw [Ej hkl]; exact HA2.f2.right.f3.f3.f3⟩
          · (try dsimp only); omega
        · (try simp only [aF] at h4)
          refine dn (aI ?_)
          have hil : i = AE.length := by omega
          have HB := HL
          rw [hil, List.take_length] at HB
          subst adM
          refine aI (aY (aW (bT O (eG O func139 (yS HB) ?_))))
          rintro _ w47 ⟨rfl, H47⟩
          obtain ⟨h8a, h8b, h8c⟩ := Lc G1 (AE.map dV.says)
          have HC := H47
          rw [h8a, h8b, h8c, hAs, qN (by intro hz; exact hp (List.append_eq_nil_iff.1 hz).2), ← hF3] at HC
          have adP := HC.f6
          have adQ := V.Ed adP
          refine iK (aB (nG O O (bF 33 ah O bJ O (aK (eP 33 adQ.f6 bJ) ?_))))
          rintro _ w50 H50
          refine bP ?_
          refine Fg (.inr O) (H50.f6) (fun w51 H51 => ?_)
          refine ⟨_, Zx results84, ?_⟩
          rw [lN hp]
          exact V.Hg (s := { s.wB (s.kY on) with put := [] }) (lN hp ▸ Hr iw ⟨hF1, hF2, hF3⟩ hp hG1) O H51.f3.right.f3.right.f3.right.f9.right.f9.f9.f9.f5.f9.f7.f9.f9.f9
    · (try simp only [aF] at h2)
      have hn : on = false := h2
      obtain ⟨ov, xZ, G1, hF, hG1, HF⟩ : ∃ ov xZ G1, V6 s on xZ G1 ∧ (∀ g ∈ G1, ∀ x ∈ g, xK x) ∧ V w0 w3 (dM b3 (.cells #[ov] 80 (0, 0)) • Row 189 3 ov xZ.length (xZ.flatMap dV.enc) • kK xZ • iQ lp2 G1 [] 0 • R4) :=
        ⟨.slice none 0 0, [], s.here, Tq hp hn, hO, (V.rD HR4.f2.f2 none).of_eq (by unfold Jv; ac_rfl)⟩
      subst hR4
      refine fV (aO ?_)
      obtain ⟨hF1, hF2, hF3⟩ := hF
      have hl1 : xZ.length ≤ 16384 := by omega
      have hl2 : s.put.length ≤ 16384 := by omega
      refine aB (bQ O (eG O func137 (wz HF.f4 (by omega)) ?_))
      rintro _ w52 ⟨rfl, Zi⟩
      refine pJ (aO ?_)
      have Wh := Zi.drew
      have Ce := V.kp (Wh.f15.f15.f15.f15.f15.f15.f15.f15.f15.f15.f15.f15.f15.f15.f15)
      refine yj [0, 4] Ce O (jQ 0 O Ce (fun W hW => kC aV O ((Kp.h hW).f2).get.2 O) (jE 1 O Ce O (kJ 2 O Ce O (gU 3 O Ce 33 ah O bJ O (jQ 4 O Ce (fun W hW => kC aV O ((Kp.h hW).f6).get.2 O) (jE 7 O Ce O (oC 5 O (fZ Wh.f3 aV zO O O O ((Wh.f13).aT) (by assumption) (by omega) (by omega)) ?_)))))))
      rintro l53 w53 H53
      have Zl := V.kp (H53.f15.f15.f15.f15.f15.f15.f15.f15.f15.f15.f15.f15.f15.f15.f15)
      refine gV Zl (by kernel_rfl) ?_
      have adR := H53.f14.f5.f3
      have adS := V.FH lg.symm adR
      obtain ⟨AE, Ru⟩ : ∃ q, q = xZ ++ uK := ⟨_, rfl⟩
      have HA := adS
      rw [← Ru] at HA
      have hAl : AE.length = xZ.length + s.put.length := by rw [Ru, List.length_append, lg]
      have hAs : AE.map dV.says = xZ.map dV.says ++ s.put := by rw [Ru, List.map_append, dI]
      have hAO : ∀ x ∈ AE, xK x.says := fun x hx => by
        rw [Ru] at hx
        rcases List.mem_append.1 hx with hx | hx
        · exact hF2 x hx
        · exact hPO x hx
      refine jC 6 O Zl (fun _ => iW ((HA).aT) aV O) (qR (aW (aZ ?_)))
      obtain ⟨R56, adT, adU⟩ := V.FN (HA.f2.f2.f3)
      refine fC [(0, _), (4, _), (32, _), (33, _)] (fun (i : Nat) => [(34, .int .i64 (i : Int))]) (fun (i : Nat) W => i ≤ AE.length ∧ V w0 W (iQ lp2 G1 ((AE.take i).map dV.says) (0 + 1) • Row 189 3 l53 AE.length (AE.flatMap dV.enc) • kK AE • R56)) (fun (i : Nat) => AE.length - i) (0) Kq kD ⟨by omega, adU⟩ ?_
      rintro i w57 ⟨hi, HL⟩
      dsimp only [List.cons_append, List.nil_append]
      refine iy (Z (gZ O O) (pJ (bG O (fun h5 => ?_) (fun h5 => ?_))))
      · (try simp only [aF] at h5)
        refine fV (aO (aZ (iy ?_)))
        obtain ⟨ae6, ae7, ae8, adV⟩ := Rd.nX ((HL.f2).aT) (by omega)
        cases adV
        refine Z (dw aV dY O O (by omega)) (Z (qL (ys := [_, _, _]) ((HL.f2).aT) (by omega) dF O dY O (sD dV.Dc (by omega) default) O) ?_)
        have hkl : i < AE.length := by omega
        have hx : xK (AE.getD i default).says := hAO _ (by rw [List.getD_eq_getElem?_getD, List.getElem?_eq_getElem hkl]; exact List.getElem_mem hkl)
        have hx1 : (AE.getD i default).dl.length ≤ 1024 := hx.2.2.1
        have hx2 : (AE.getD i default).il.length ≤ 1024 := hx.2.2.2
        refine jy (fM (l := [_, _, _]) HL ig O) ?_
        rintro _ w58 ⟨b58, rfl, Ye⟩
        refine aK (bW 0 (l' := [_, _, _]) (us := [_, _, _]) Ye dY O O O (aA (aX (by first | rfl | exact Rd.one (((Ye.f4).oM hkl).1)) (aX (by first | rfl | exact Rd.one (((Ye.f4).oM hkl).2)) bD))) O O) ?_
        rintro _ w59 H59
        refine iK (aB (bQ O (Z (fD dF O dY O O (H59).get.2) (eG O func138 (yP H59.f2 (fun W HW => ((HW.f3).oM hkl).1) (fun W HW => ((HW.f3).oM hkl).2) (by omega) (by omega)) ?_))))
        rintro _ w60 ⟨rfl, H60⟩
        have hadd : uI G1 ((AE.take i).map dV.says) (AE.getD i default).a (AE.getD i default).dl (AE.getD i default).il = 0 := by
          have hx3 : 0 < (AE.getD i default).dl.length + (AE.getD i default).il.length := hx.2.1
          have hx4 : 0 ≤ (AE.getD i default).a := hx.1
          have hx5 := oq G1 ((AE.take i).map dV.says)
          rw [List.length_map, List.length_take] at hx5
          unfold uI
          rw [if_neg (by omega), if_neg (by omega)]
        have HA2 := H60
        rw [Fq hadd (by decide), Fv hadd (by decide)] at HA2
        refine bP (aJ (aW (aB (Z (fK O O (by omega)) (bQ O (bP ?_))))))
        refine dH (i + 1) ?_ ?_ ?_ ?_
        · exact kD
        · exact Kq
        · (try dsimp only)
          first | done | exact ⟨by omega, by rw [Ej hkl]; exact HA2.f2.right.f3.f3.f3⟩
        · (try dsimp only); omega
      · (try simp only [aF] at h5)
        refine dn (aI ?_)
        have hil : i = AE.length := by omega
        have HB := HL
        rw [hil, List.take_length] at HB
        subst adT
        refine aI (aY (aW (bT O (eG O func139 (yS HB) ?_))))
        rintro _ w61 ⟨rfl, H61⟩
        obtain ⟨h8a, h8b, h8c⟩ := Lc G1 (AE.map dV.says)
        have HC := H61
        rw [h8a, h8b, h8c, hAs, qN (by intro hz; exact hp (List.append_eq_nil_iff.1 hz).2), ← hF3] at HC
        have adW := HC.f5
        have adX := V.Ed adW
        refine iK (aB (nG O O (bF 33 ah O bJ O (aK (eP 33 adX.f5 bJ) ?_))))
        rintro _ w64 H64
        refine bP (lX (.inr O) results84 ?_)
        rw [lN hp]
        exact V.Hg (s := { s.wB (s.kY on) with put := [] }) (lN hp ▸ Hr iw ⟨hF1, hF2, hF3⟩ hp hG1) O H64.f3.right.f3.right.f3.right.f9.right.f9.f9.f9.f5.f9.f7.f9.f9.f9
end
end Go.Proofs.YtpdeedplgmbopaaGreatDoor
end
