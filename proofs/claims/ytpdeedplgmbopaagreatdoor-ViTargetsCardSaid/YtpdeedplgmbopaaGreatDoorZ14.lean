import Derived.Test.YtpdeedplgmbopaaGreatDoorZ4
import Derived.Test.YtpdeedplgmbopaaGreatDoorZ13
set_option linter.unusedSimpArgs false
set_option linter.unusedVariables false
/- Texts of mine, joined, their names in short: EdF. -/
section
namespace Go.Proofs.YtpdeedplgmbopaaGreatDoor
open Go.RowKit
open _root_.Go.Proofs.Tryz
theorem Y7 : (prog.info? 189).map (fun i => (i.zero, i.size, i.bytes)) = some (some (.agg #[.int .i64 0, .slice none 0 0, .slice none 0 0]), 3, 56) := by kernel_rfl
def S9 (c : Nat) (g : List jq) : HP := uf fun (x : Value × List eG) => fact (x.2.map eG.says = g) • dS c (.cells #[x.1] 80 (0, 0)) • Row 189 3 x.1 x.2.length (x.2.flatMap eG.enc) • kW x.2
section
variable {w0 w : World} {F : HP} {e p c n m : Nat} {s : dN} {i j x : Int} {on : Bool} {v : Value} {g : List jq} {yQ es : List eG} {xs : List Value}
theorem Af (H : V w0 w F) (hr : TI w0 F 3 v n xs) (hon : ∀ u ∈ xs, u.oneCell' = true) (hb : n ≤ 1099511627776) :
    ig prog 122 #[v] w fun v' w' => V w0 w' (Row 189 3 v' n xs • F) := by
  obtain ⟨hlen, a, c, rfl, h2, h3, h4⟩ := hr w H
  refine iK func122 ntmps122 ?_
  refine jy O (aK (bM O (Z (Am aZ O O) ?_)))
  refine gQ O (fun h1 => ?_) (fun h1 => ?_)
  · (try simp only [aC] at h1)
    refine jB O (ay (dF results122 O ?_))
    obtain rfl : a = none := by simpa using h1
    obtain rfl : n = 0 := by
      rcases Nat.eq_zero_or_pos n with h | h
      · exact h
      · obtain ⟨b, o, e, _⟩ := h4 h; cases e
    obtain rfl : xs = [] := List.eq_nil_of_length_eq_zero (by omega)
    exact H.jk none
  · (try simp only [aC] at h1)
    refine fG (gW (jL (Ih H aZ fA iO) ?_))
    rintro _ w1 H1
    refine bG O (jL (gZ H1 aZ Y7 O O O (hr.under _ H1) hon (by omega) (by omega)) ?_)
    rintro _ w2 H2
    refine dU O (dF results122 O ?_)
    exact H2.of_eq (by rw [Nat.zero_add, List.nil_append])
theorem V.old (H : V w0 w (S9 c g • F)) : ∃ v es, es.map eG.says = g ∧ V w0 w (dS c (.cells #[v] 80 (0, 0)) • Row 189 3 v es.length (es.flatMap eG.enc) • kW es • F) := by
  obtain ⟨⟨v, es⟩, H⟩ := H.lZ
  obtain ⟨h, H⟩ := H.flat.fact
  exact ⟨v, es, h, H.of_eq (by simp only [dB])⟩
theorem V.Xp (h : es.map eG.says = g) (H : V w0 w (dS c (.cells #[v] 80 (0, 0)) • Row 189 3 v es.length (es.flatMap eG.enc) • kW es • F)) : V w0 w (S9 c g • F) :=
  V.iV (v, es) (V.deep (V.kR h (H.of_eq (by simp only [dB]))))
theorem V.Y8 (hg : g = []) (H : V w0 w (dS c (.cells #[.slice none 0 0] 80 (0, 0)) • F)) : V w0 w (S9 c g • F) :=
  V.Xp (v := .slice none 0 0) (es := []) hg.symm ((H.tu none).of_eq (by unfold Kw; ac_rfl))
theorem V.Gv (hm : m = es.length) (H : V w0 w (Row 189 3 v (yQ.length + m) (yQ.flatMap eG.enc ++ es.flatMap eG.enc) • kW yQ • kW es • F)) : V w0 w (Row 189 3 v (yQ ++ es).length ((yQ ++ es).flatMap eG.enc) • kW (yQ ++ es) • F) := by
  subst hm
  have h1 : V w0 w (kW yQ • kW es • Row 189 3 v (yQ.length + es.length) (yQ.flatMap eG.enc ++ es.flatMap eG.enc) • F) := H.of_eq (by ac_rfl)
  have h2 : V w0 w (kW (yQ ++ es) • Row 189 3 v (yQ.length + es.length) (yQ.flatMap eG.enc ++ es.flatMap eG.enc) • F) := h1.EF (vG (fun I h g => h.app g) _)
  exact h2.swap.of_eq (by rw [List.length_append, List.flatMap_append])
def Xq (s : dN) (on : Bool) (yQ : List eG) (G1 : List (List jq)) : Prop := jd G1 [] + yQ.length = jd s.here [] ∧ (∀ e ∈ yQ, yG e.says) ∧ s.lH on = G1 ++ [yQ.map eG.says ++ s.put]
theorem Uu (hp : s.put ≠ []) (hn : on = false) : Xq s on [] s.here := by
  subst hn
  refine ⟨by simp, by simp, ?_⟩
  unfold dN.lH
  rw [if_neg hp, if_neg (by decide)]
  rfl
theorem Ei : ∀ {G : List (List jq)}, G ≠ [] → (G.dropLast.map List.length).sum + (G.getLastD []).length = (G.map List.length).sum := by
  intro G hG
  have h := List.dropLast_concat_getLast hG
  have h2 : G.getLastD [] = G.getLast hG := by rw [List.getLastD_eq_getLast?, List.getLast?_eq_some_getLast hG]; rfl
  rw [h2]
  conv => rhs; rw [← h]
  simp
theorem OV (hp : s.put ≠ []) (hn : on = true) (hO : ∀ g ∈ s.here, ∀ e ∈ g, yG e) (h : yQ.map eG.says = s.here.getLastD []) : Xq s on yQ s.here.dropLast := by
  subst hn
  have hlen : yQ.length = (s.here.getLastD []).length := by rw [← h]; simp
  have hm : ∀ e ∈ yQ, e.says ∈ s.here.getLastD [] := fun e he => by rw [← h]; exact List.mem_map.2 ⟨e, he, rfl⟩
  unfold Xq dN.lH
  rw [if_neg hp, if_pos rfl]
  by_cases h0 : s.here = []
  · rw [h0] at h hlen hm
    have : yQ = [] := List.eq_nil_of_length_eq_zero (by simpa using hlen)
    subst this
    rw [h0]
    exact ⟨by simp, by simp, rfl⟩
  · have h2 : s.here.getLastD [] = s.here.getLast h0 := by rw [List.getLastD_eq_getLast?, List.getLast?_eq_some_getLast h0]; rfl
    refine ⟨?_, fun e he => hO _ (List.getLast_mem h0) _ (h2 ▸ hm e he), ?_⟩
    · have := Ei h0
      show (s.here.dropLast.map List.length).sum + 0 + yQ.length = (s.here.map List.length).sum + 0
      rw [hlen]; omega
    · rw [List.getLast?_eq_some_getLast h0, h, h2]
theorem IU (G : List (List jq)) : C9 G [] = G.reverse := by unfold C9 mZ; rw [if_pos rfl]
theorem QV (G : List (List jq)) : (C9 G []).getD 0 [] = G.getLastD [] := by
  rw [IU, List.getD_eq_getElem?_getD, List.getLastD_eq_getLast?]
  congr 1
  cases G.eq_nil_or_concat with
  | inl h => subst h; rfl
  | inr h => obtain ⟨L, b, rfl⟩ := h; simp
theorem Xt {G : List (List jq)} (h : YM G [] 0) : (∀ g ∈ C9 G [], ∀ e ∈ g, EB e) ∧ ∀ g ∈ C9 G [], g.length ≤ 16384 := by
  rw [IU]
  refine ⟨fun g hg => h.2.2.2.2.1 g (List.mem_reverse.1 hg), fun g hg => ?_⟩
  have h1 := Gt (List.mem_reverse.1 hg)
  have h2 := h.2.1
  unfold jd at h2
  simp at h2; omega
theorem MF (G : List (List jq)) (N : List jq) : aaJ G N (0 + 1) = mZ G N ∧ aaK N (0 + 1) = [] ∧ YN (0 + 1) = 0 := ⟨if_pos rfl, if_pos rfl, by unfold YN; rw [if_neg (by decide)]; rfl⟩
theorem KN (G : List (List jq)) : RY G [] = G.dropLast ∧ RZ G [] = [] ∧ Si G [] 0 = 0 := by
  unfold RY RZ Si mZ
  by_cases h : G.length + ([] : List jq).length = 0
  · have : G = [] := List.eq_nil_of_length_eq_zero (by simpa using h)
    subst this
    simp
  · rw [if_neg h, if_neg h, if_neg h, if_pos rfl]; simp
theorem zS {s : dN} (h : s.put = []) : s.iF on = s := by unfold dN.iF; rw [if_pos h]
theorem lX {s : dN} (h : s.put ≠ []) : s.iF on = { s.xA (s.lH on) with put := [] } := by unfold dN.iF; rw [if_neg h]
theorem Ej (G : List (List jq)) (g : List jq) : jd (G ++ [g]) [] = jd G [] + g.length := by unfold jd; simp
theorem IV (h : mF s) {G1 : List (List jq)} (hF : Xq s on yQ G1) (hp : s.put ≠ []) (hG : ∀ g ∈ G1, ∀ e ∈ g, yG e) : mF (s.iF on) := by
  rw [lX hp]
  obtain ⟨h1, h2, h3, h4, h5, h6⟩ := h
  obtain ⟨f1, f2, f3⟩ := hF
  refine ⟨h1, h2, h3, by simp, ?_, ?_⟩
  · show jd (xQ s.c.un s.c.place (s.lH on) s.c.place) [] ≤ 16384
    rw [oK, f3, Ej]
    have := pz s.here s.put
    simp; omega
  · intro k g hg e he
    have hg' : g ∈ xQ s.c.un s.c.place (s.lH on) k := hg
    by_cases hk : k = s.c.place
    · subst hk
      rw [oK, f3] at hg'
      rcases List.mem_append.1 hg' with hg' | hg'
      · exact hG g hg' e he
      · rw [List.mem_singleton.1 hg'] at he
        rcases List.mem_append.1 he with he | he
        · obtain ⟨q, hq, rfl⟩ := List.mem_map.1 he; exact f2 q hq
        · exact h4 e he
    · rw [vH _ _ hk] at hg'; exact h6 k g hg' e he
theorem EX {es : List eG} {k : Nat} (hk : k < es.length) : (es.take (k + 1)).map eG.says = (es.take k).map eG.says ++ [(es.getD k default).says] := by
  rw [List.take_succ_eq_append_getElem hk, List.map_append, List.getD_eq_getElem?_getD, List.getElem?_eq_getElem hk]; rfl
theorem qV (H : V w0 w (iC e s • F)) : ig prog 84 #[.pointer (some ⟨e, 0, none⟩), .bool on] w fun _ w' => V w0 w' (iC e (s.iF on) • F) := by
  refine nC func84 ntmps84 ?_
  refine aK (aK ?_)
  obtain ⟨yI, yJ, yK, yL, yM, yN, yO, yP, wu, uF, uG, uH, uI, uJ, uK, uM, uN, uO, uP, uQ, iR, dM, lJ, jg⟩ := (H).Ik
  have hput : jd s.here s.put ≤ 16384 := iR.2.2.2.2.1
  have hsp := pz s.here s.put
  have hO : ∀ g ∈ s.here, ∀ x ∈ g, yG x := iR.2.2.2.2.2 s.c.place
  have hPO : ∀ x ∈ wu, yG x.says := fun x hx => iR.2.2.2.1 _ (by rw [← dM]; exact List.mem_map.2 ⟨x, hx, rfl⟩)
  have afh := (jg.f10).AL
  refine aA (nZ O O (bK 33 ah O bV O (gJ aZ O (jg).get.2 O (Z (jU ((jg.f9).aY) aZ O) (Z (cZ O O) (gQ O (fun h1 => ?_) (fun h1 => ?_)))))))
  · (try simp only [aC] at h1)
    refine mg (ay (we0 results84 ?_))
    rw [zS (List.eq_nil_of_length_eq_zero (by omega))]
    exact V.je iR dM jg.f11.f11.f11.f11.f11.f11.f11.f11.f11.f11.f11
  · (try simp only [aC] at h1)
    have hp : s.put ≠ [] := by rintro hz; rw [hz] at h1; simp at h1
    refine fG (bM O (dX O func134 (OL jg.f6.f5.f3) ?_))
    rintro _ w2 ⟨lp2, rfl, H2⟩
    refine fV O (gW (jL (gK (l := [_]) H2 lS O) ?_))
    rintro _ w3 ⟨b3, rfl, H3⟩
    refine qW (aK ?_)
    obtain ⟨R4, hR4, HR4⟩ := V.abM (H3.f2.f2)
    refine aA (bG O (gQ O (fun h2 => ?_) (fun h2 => ?_)))
    · (try simp only [aC] at h2)
      have hn : on = true := h2
      refine aK (bM O (dX O func135 (F5 HR4.f2) ?_))
      rintro _ w5 ⟨bG5, rfl, H5⟩
      refine iy (aV ?_)
      obtain ⟨_, _, _, _, k1, _⟩ := (H5.f2).y8
      obtain ⟨hB, hL⟩ := Xt k1
      have HF0 := V.kR (q := (0 : Nat) = 0) rfl H5
      obtain ⟨R6, hR6, HR6⟩ := V.Gz (HF0.f4.f2.f3)
      refine zI O (Ol bG5 hB hL) (fun j => fact (j = 0) • dS b3 (.cells #[.slice none 0 0] 80 (0, 0)) • R6) (fact False) (fun id => if id = 0 then S9 b3 (s.here.getLastD []) • R6 else fact False) (HR6.f3.f3.f3.f3.f3.f3.comm) (by rfl) ?_ ?_ ?_ ?_
      · rintro l7 j aaH vs7 A7 ⟨u1, fs1, acO, rfl, rfl⟩ G7 w7 H7
        try simp only [dB, og, wH] at H7
        refine ⟨O, ?_⟩
        dsimp only [Qs]
        have HQ := (H7).edL
        obtain rfl : j = 0 := (HQ.f3).fact.1
        have hon := (HQ.f2).AL
        have hlen1 : fs1.length ≤ 16384 := by
          have h9 := hL _ (wR (d := []) aaH)
          rw [← acO] at h9
          simpa using h9
        refine aA (dL O (bD ?_))
        refine Qr (HQ.g5) ?_
        intro G8 w8 H8
        try simp only [dB] at H8
        refine aV (bM O (dX O func122 (Af H8 (fun W HW => (HW).aY) hon (by omega)) ?_))
        rintro u9 w9 H9
        refine aO (fQ 0 (l' := [_]) H9.f5 bV O O (by first | rfl | exact Rd.one ((H9).aY)) O O) ?_
        rintro _ w10 rD
        refine iy (bQ ?_)
        refine Ce (by decide) ?_
        refine VL ?_
        rw [if_pos rfl]
        exact (V.Xp (acO.trans (QV _)) rD.f3.right.f4.right.f3.f3.f3).deep
      · rintro D11 ED rM
        have acP := rM.ed
        try simp only [dB, og, wH] at acP
        have acQ := acP.RG
        have hz := (acQ.f3).fact.1
        rw [IU, List.length_reverse] at hz
        have hg0 : s.here.getLastD [] = [] := by show (s.c.un s.c.place).getLastD [] = []; rw [List.eq_nil_of_length_eq_zero hz]; rfl
        have QK := acQ.f4
        have QL := V.Y8 hg0 QK
        have Y9 := QL.f4.right
        subst hR6
        subst hR4
        refine aG (aW (aA (bG O (dX O func136 (CB Y9.f4) ?_))))
        rintro _ TV ⟨u15, afF, rfl, afi, zH⟩
        have aej := zH.right
        have Qq := aej.right
        have aek := Qq.f4.right
        obtain ⟨h9a, h9b, h9c⟩ := KN (s.c.un s.c.place)
        have HX := aek
        rw [h9a, h9b, h9c] at HX
        obtain ⟨ov, yQ, abg, HO⟩ := (HX.f2).old
        have hF := OV hp hn hO abg
        have hG1 : ∀ g ∈ s.here.dropLast, ∀ x ∈ g, yG x := fun g hg => hO g (List.dropLast_subset _ hg)
        obtain ⟨G1, abh⟩ : ∃ q, q = (s.c.un s.c.place).dropLast := ⟨_, rfl⟩
        rw [show s.here.dropLast = (s.c.un s.c.place).dropLast from rfl] at hF hG1
        have Uw := HO
        rw [← abh] at hF hG1 Uw
        refine qW ?_
        obtain ⟨hF1, hF2, hF3⟩ := hF
        have hl1 : yQ.length ≤ 16384 := by omega
        have hl2 : s.put.length ≤ 16384 := by omega
        refine aA (bG O (dX O func137 (xw Uw.f4 (by omega)) ?_))
        rintro _ w19 ⟨rfl, EO⟩
        refine qW (aK ?_)
        have Xu := EO.drew
        have Dq := V.kp (Xu.f16.f16.f16.f16.f16.f16.f16.f16.f16.f16.f16.f16.f16.f16.f16.f16)
        refine yY [0, 4] Dq O (kK 0 O Dq (fun W hW => kQ aZ O ((Kp.h hW).f2).get.2 O) (jW 1 O Dq O (kV 2 O Dq O (iJ 3 O Dq 33 ah O bV O (kK 4 O Dq (fun W hW => kQ aZ O ((Kp.h hW).f7).get.2 O) (jW 7 O Dq O (oV 5 O (gZ Xu.f3 aZ AO O O O ((Xu.f14).aY) (by assumption) (by omega) (by omega)) ?_)))))))
        rintro l20 w20 Qd
        have D9 := V.kp (Qd.f16.f16.f16.f16.f16.f16.f16.f16.f16.f16.f16.f16.f16.f16.f16.f16)
        refine iD D9 (by kernel_rfl) ?_
        have abj := Qd.f15.f5.f3
        have abk := V.Gv lJ.symm abj
        obtain ⟨AE, Tc⟩ : ∃ q, q = yQ ++ wu := ⟨_, rfl⟩
        have HA := abk
        rw [← Tc] at HA
        have hAl : AE.length = yQ.length + s.put.length := by rw [Tc, List.length_append, lJ]
        have hAs : AE.map eG.says = yQ.map eG.says ++ s.put := by rw [Tc, List.map_append, dM]
        have hAO : ∀ x ∈ AE, yG x.says := fun x hx => by
          rw [Tc] at hx
          rcases List.mem_append.1 hx with hx | hx
          · exact hF2 x hx
          · exact hPO x hx
        refine jQ 6 O D9 (fun _ => jU ((HA).aY) aZ O) (sK (aW (aV ?_)))
        obtain ⟨R23, ael, aem⟩ := V.Gz (HA.f2.f2.f3)
        refine dJ [(0, _), (4, _), (32, _), (33, _)] (fun (i : Nat) => [(34, .int .i64 (i : Int))]) (fun (i : Nat) W => i ≤ AE.length ∧ V w0 W (jl lp2 G1 ((AE.take i).map eG.says) (0 + 1) • Row 189 3 l20 AE.length (AE.flatMap eG.enc) • kW AE • R23)) (fun (i : Nat) => AE.length - i) (0) BI ji ⟨by omega, aem⟩ ?_
        rintro i w24 ⟨hi, HL⟩
        dsimp only [List.cons_append, List.nil_append]
        refine gW (Z (fF O O) (qW (bI O (fun h3 => ?_) (fun h3 => ?_))))
        · (try simp only [aC] at h3)
          refine fG (aK (aV (gW ?_)))
          obtain ⟨afG, afH, afI, aen⟩ := Rd.nJ ((HL.f2).aY) (by omega)
          cases aen
          refine Z (dh aZ fA O O (by omega)) (Z (rX (ys := [_, _, _]) ((HL.f2).aY) (by omega) dK O fA O (uy eG.DY (by omega) default) O) ?_)
          have hkl : i < AE.length := by omega
          have hx : yG (AE.getD i default).says := hAO _ (by rw [List.getD_eq_getElem?_getD, List.getElem?_eq_getElem hkl]; exact List.getElem_mem hkl)
          have hx1 : (AE.getD i default).dl.length ≤ 1024 := hx.2.2.1
          have hx2 : (AE.getD i default).il.length ≤ 1024 := hx.2.2.2
          refine jL (gK (l := [_, _, _]) HL iO O) ?_
          rintro _ w25 ⟨b25, rfl, Vb⟩
          refine aO (dw 0 (l' := [_, _, _]) (us := [_, _, _]) Vb fA O O O (aH (bf (by first | rfl | exact Rd.one (((Vb.f4).qc hkl).1)) (bf (by first | rfl | exact Rd.one (((Vb.f4).qc hkl).2)) bP))) O O) ?_
          rintro _ w26 Xg
          refine iy (aA (bG O (Z (fP dK O fA O O (Xg).get.2) (dX O func138 (zG Xg.f2 (fun W HW => ((HW.f3).qc hkl).1) (fun W HW => ((HW.f3).qc hkl).2) (by omega) (by omega)) ?_))))
          rintro _ w27 ⟨rfl, OM⟩
          have hadd : vZ G1 ((AE.take i).map eG.says) (AE.getD i default).a (AE.getD i default).dl (AE.getD i default).il = 0 := by
            have hx3 : 0 < (AE.getD i default).dl.length + (AE.getD i default).il.length := hx.2.1
            have hx4 : 0 ≤ (AE.getD i default).a := hx.1
            have hx5 := pz G1 ((AE.take i).map eG.says)
            rw [List.length_map, List.length_take] at hx5
            unfold vZ
            rw [if_neg (by omega), if_neg (by omega)]
          have HA2 := OM
          rw [Gp hadd (by decide), Gq hadd (by decide)] at HA2
          refine bD (aG (aW (aA (Z (dP O O (by omega)) (bG O (bD ?_))))))
          refine bZ (i + 1) ?_ ?_ ?_ ?_
          · exact ji
          · exact BI
          · (try dsimp only)
            first | done | exact ⟨by omega, by rw [EX hkl]; exact HA2.f2.right.f3.f3.f3⟩
          · (try dsimp only); omega
        · (try simp only [aC] at h3)
          refine bQ (aB ?_)
          have hil : i = AE.length := by omega
          have HB := HL
          rw [hil, List.take_length] at HB
          subst ael
          refine aB (aU (aW (bM O (dX O func139 (zJ HB) ?_))))
          rintro _ w28 ⟨rfl, H28⟩
          obtain ⟨h8a, h8b, h8c⟩ := MF G1 (AE.map eG.says)
          have HC := H28
          rw [h8a, h8b, h8c, hAs, rZ (by intro hz; exact hp (List.append_eq_nil_iff.1 hz).2), ← hF3] at HC
          have aa9 := HC.f6
          have abb := V.EP aa9
          refine iy (aA (nZ O O (bK 33 ah O bV O (aO (fE 33 abb.f6 bV) ?_))))
          rintro _ w31 Ug
          refine bD ?_
          refine Gi (.inr O) (Ug.f6) (fun w32 OO => ?_)
          refine ⟨_, aap results84, ?_⟩
          rw [lX hp]
          exact V.IL (s := { s.xA (s.lH on) with put := [] }) (lX hp ▸ IV iR ⟨hF1, hF2, hF3⟩ hp hG1) O OO.f3.right.f3.right.f3.right.f9.right.f9.f9.f9.f5.f9.f7.f9.f9.f9
      · rintro D w H; exact absurd H.swap.fact.1 id
      · rintro id D33 w33 Yj
        refine Decidable.byCases (fun hid : id = 0 => ?_) (fun hid => by rw [if_neg hid] at Yj; exact absurd Yj.swap.fact.1 fun h => h)
        subst hid
        rw [if_pos rfl] at Yj
        have acR := Yj.ed
        try simp only [dB, og, wH] at acR
        have aeo := acR.RG
        subst hR6
        subst hR4
        refine aU (aW (aA (bG O (dX O func136 (CB aeo.f4) ?_))))
        rintro _ w34 ⟨u34, afJ, rfl, afj, Xi⟩
        have aep := Xi.right
        have aeq := aep.right
        have abl := aeq.f3.right
        obtain ⟨h9a, h9b, h9c⟩ := KN (s.c.un s.c.place)
        have HX := abl
        rw [h9a, h9b, h9c] at HX
        obtain ⟨ov, yQ, abg, HO⟩ := (HX.f3).old
        have hF := OV hp hn hO abg
        have hG1 : ∀ g ∈ s.here.dropLast, ∀ x ∈ g, yG x := fun g hg => hO g (List.dropLast_subset _ hg)
        obtain ⟨G1, abh⟩ : ∃ q, q = (s.c.un s.c.place).dropLast := ⟨_, rfl⟩
        rw [show s.here.dropLast = (s.c.un s.c.place).dropLast from rfl] at hF hG1
        have Uw := HO
        rw [← abh] at hF hG1 Uw
        refine qW ?_
        obtain ⟨hF1, hF2, hF3⟩ := hF
        have hl1 : yQ.length ≤ 16384 := by omega
        have hl2 : s.put.length ≤ 16384 := by omega
        refine aA (bG O (dX O func137 (xw Uw.f4 (by omega)) ?_))
        rintro _ w38 ⟨rfl, QS⟩
        refine qW (aK ?_)
        have Xv := QS.drew
        have Dt := V.kp (Xv.f16.f16.f16.f16.f16.f16.f16.f16.f16.f16.f16.f16.f16.f16.f16.f16)
        refine yY [0, 4] Dt O (kK 0 O Dt (fun W hW => kQ aZ O ((Kp.h hW).f2).get.2 O) (jW 1 O Dt O (kV 2 O Dt O (iJ 3 O Dt 33 ah O bV O (kK 4 O Dt (fun W hW => kQ aZ O ((Kp.h hW).f7).get.2 O) (jW 7 O Dt O (oV 5 O (gZ Xv.f3 aZ AO O O O ((Xv.f14).aY) (by assumption) (by omega) (by omega)) ?_)))))))
        rintro l39 w39 H39
        have OW := V.kp (H39.f16.f16.f16.f16.f16.f16.f16.f16.f16.f16.f16.f16.f16.f16.f16.f16)
        refine iD OW (by kernel_rfl) ?_
        have aer := H39.f15.f5.f3
        have aes := V.Gv lJ.symm aer
        obtain ⟨AE, Tc⟩ : ∃ q, q = yQ ++ wu := ⟨_, rfl⟩
        have HA := aes
        rw [← Tc] at HA
        have hAl : AE.length = yQ.length + s.put.length := by rw [Tc, List.length_append, lJ]
        have hAs : AE.map eG.says = yQ.map eG.says ++ s.put := by rw [Tc, List.map_append, dM]
        have hAO : ∀ x ∈ AE, yG x.says := fun x hx => by
          rw [Tc] at hx
          rcases List.mem_append.1 hx with hx | hx
          · exact hF2 x hx
          · exact hPO x hx
        refine jQ 6 O OW (fun _ => jU ((HA).aY) aZ O) (sK (aW (aV ?_)))
        obtain ⟨R42, aeu, aev⟩ := V.Gz (HA.f2.f2.f3)
        refine dJ [(0, _), (4, _), (32, _), (33, _)] (fun (i : Nat) => [(34, .int .i64 (i : Int))]) (fun (i : Nat) W => i ≤ AE.length ∧ V w0 W (jl lp2 G1 ((AE.take i).map eG.says) (0 + 1) • Row 189 3 l39 AE.length (AE.flatMap eG.enc) • kW AE • R42)) (fun (i : Nat) => AE.length - i) (0) BI ji ⟨by omega, aev⟩ ?_
        rintro i w43 ⟨hi, HL⟩
        dsimp only [List.cons_append, List.nil_append]
        refine gW (Z (fF O O) (qW (bI O (fun h4 => ?_) (fun h4 => ?_))))
        · (try simp only [aC] at h4)
          refine fG (aK (aV (gW ?_)))
          obtain ⟨afK, afL, afM, aew⟩ := Rd.nJ ((HL.f2).aY) (by omega)
          cases aew
          refine Z (dh aZ fA O O (by omega)) (Z (rX (ys := [_, _, _]) ((HL.f2).aY) (by omega) dK O fA O (uy eG.DY (by omega) default) O) ?_)
          have hkl : i < AE.length := by omega
          have hx : yG (AE.getD i default).says := hAO _ (by rw [List.getD_eq_getElem?_getD, List.getElem?_eq_getElem hkl]; exact List.getElem_mem hkl)
          have hx1 : (AE.getD i default).dl.length ≤ 1024 := hx.2.2.1
          have hx2 : (AE.getD i default).il.length ≤ 1024 := hx.2.2.2
          refine jL (gK (l := [_, _, _]) HL iO O) ?_
          rintro _ w44 ⟨b44, rfl, Z9⟩
          refine aO (dw 0 (l' := [_, _, _]) (us := [_, _, _]) Z9 fA O O O (aH (bf (by first | rfl | exact Rd.one (((Z9.f4).qc hkl).1)) (bf (by first | rfl | exact Rd.one (((Z9.f4).qc hkl).2)) bP))) O O) ?_
          rintro _ w45 PU
          refine iy (aA (bG O (Z (fP dK O fA O O (PU).get.2) (dX O func138 (zG PU.f2 (fun W HW => ((HW.f3).qc hkl).1) (fun W HW => ((HW.f3).qc hkl).2) (by omega) (by omega)) ?_))))
          rintro _ w46 ⟨rfl, H46⟩
          have hadd : vZ G1 ((AE.take i).map eG.says) (AE.getD i default).a (AE.getD i default).dl (AE.getD i default).il = 0 := by
            have hx3 : 0 < (AE.getD i default).dl.length + (AE.getD i default).il.length := hx.2.1
            have hx4 : 0 ≤ (AE.getD i default).a := hx.1
            have hx5 := pz G1 ((AE.take i).map eG.says)
            rw [List.length_map, List.length_take] at hx5
            unfold vZ
            rw [if_neg (by omega), if_neg (by omega)]
          have HA2 := H46
          rw [Gp hadd (by decide), Gq hadd (by decide)] at HA2
          refine bD (aG (aW (aA (Z (dP O O (by omega)) (bG O (bD ?_))))))
          refine bZ (i + 1) ?_ ?_ ?_ ?_
          · exact ji
          · exact BI
          · (try dsimp only)
            first | done | exact ⟨by omega, by rw [EX hkl]; exact HA2.f2.right.f3.f3.f3⟩
          · (try dsimp only); omega
        · (try simp only [aC] at h4)
          refine bQ (aB ?_)
          have hil : i = AE.length := by omega
          have HB := HL
          rw [hil, List.take_length] at HB
          subst aeu
          refine aB (aU (aW (bM O (dX O func139 (zJ HB) ?_))))
          rintro _ w47 ⟨rfl, H47⟩
          obtain ⟨h8a, h8b, h8c⟩ := MF G1 (AE.map eG.says)
          have HC := H47
          rw [h8a, h8b, h8c, hAs, rZ (by intro hz; exact hp (List.append_eq_nil_iff.1 hz).2), ← hF3] at HC
          have aex := HC.f6
          have aey := V.EP aex
          refine iy (aA (nZ O O (bK 33 ah O bV O (aO (fE 33 aey.f6 bV) ?_))))
          rintro _ w50 H50
          refine bD ?_
          refine Gi (.inr O) (H50.f6) (fun w51 H51 => ?_)
          refine ⟨_, aap results84, ?_⟩
          rw [lX hp]
          exact V.IL (s := { s.xA (s.lH on) with put := [] }) (lX hp ▸ IV iR ⟨hF1, hF2, hF3⟩ hp hG1) O H51.f3.right.f3.right.f3.right.f9.right.f9.f9.f9.f5.f9.f7.f9.f9.f9
    · (try simp only [aC] at h2)
      have hn : on = false := h2
      obtain ⟨ov, yQ, G1, hF, hG1, HF⟩ : ∃ ov yQ G1, Xq s on yQ G1 ∧ (∀ g ∈ G1, ∀ x ∈ g, yG x) ∧ V w0 w3 (dS b3 (.cells #[ov] 80 (0, 0)) • Row 189 3 ov yQ.length (yQ.flatMap eG.enc) • kW yQ • jl lp2 G1 [] 0 • R4) :=
        ⟨.slice none 0 0, [], s.here, Uu hp hn, hO, (V.tu HR4.f2.f2 none).of_eq (by unfold Kw; ac_rfl)⟩
      subst hR4
      refine fG (aK ?_)
      obtain ⟨hF1, hF2, hF3⟩ := hF
      have hl1 : yQ.length ≤ 16384 := by omega
      have hl2 : s.put.length ≤ 16384 := by omega
      refine aA (bG O (dX O func137 (xw HF.f4 (by omega)) ?_))
      rintro _ w52 ⟨rfl, H52⟩
      refine qW (aK ?_)
      have Xw := H52.drew
      have Du := V.kp (Xw.f15.f15.f15.f15.f15.f15.f15.f15.f15.f15.f15.f15.f15.f15.f15)
      refine yY [0, 4] Du O (kK 0 O Du (fun W hW => kQ aZ O ((Kp.h hW).f2).get.2 O) (jW 1 O Du O (kV 2 O Du O (iJ 3 O Du 33 ah O bV O (kK 4 O Du (fun W hW => kQ aZ O ((Kp.h hW).f6).get.2 O) (jW 7 O Du O (oV 5 O (gZ Xw.f3 aZ AO O O O ((Xw.f13).aY) (by assumption) (by omega) (by omega)) ?_)))))))
      rintro l53 w53 H53
      have aaf := V.kp (H53.f15.f15.f15.f15.f15.f15.f15.f15.f15.f15.f15.f15.f15.f15.f15)
      refine iD aaf (by kernel_rfl) ?_
      have aez := H53.f14.f5.f3
      have aeA := V.Gv lJ.symm aez
      obtain ⟨AE, Tc⟩ : ∃ q, q = yQ ++ wu := ⟨_, rfl⟩
      have HA := aeA
      rw [← Tc] at HA
      have hAl : AE.length = yQ.length + s.put.length := by rw [Tc, List.length_append, lJ]
      have hAs : AE.map eG.says = yQ.map eG.says ++ s.put := by rw [Tc, List.map_append, dM]
      have hAO : ∀ x ∈ AE, yG x.says := fun x hx => by
        rw [Tc] at hx
        rcases List.mem_append.1 hx with hx | hx
        · exact hF2 x hx
        · exact hPO x hx
      refine jQ 6 O aaf (fun _ => jU ((HA).aY) aZ O) (sK (aW (aV ?_)))
      obtain ⟨R56, aeB, aeC⟩ := V.Gz (HA.f2.f2.f3)
      refine dJ [(0, _), (4, _), (32, _), (33, _)] (fun (i : Nat) => [(34, .int .i64 (i : Int))]) (fun (i : Nat) W => i ≤ AE.length ∧ V w0 W (jl lp2 G1 ((AE.take i).map eG.says) (0 + 1) • Row 189 3 l53 AE.length (AE.flatMap eG.enc) • kW AE • R56)) (fun (i : Nat) => AE.length - i) (0) BI ji ⟨by omega, aeC⟩ ?_
      rintro i w57 ⟨hi, HL⟩
      dsimp only [List.cons_append, List.nil_append]
      refine gW (Z (fF O O) (qW (bI O (fun h5 => ?_) (fun h5 => ?_))))
      · (try simp only [aC] at h5)
        refine fG (aK (aV (gW ?_)))
        obtain ⟨afN, afO, afP, aeD⟩ := Rd.nJ ((HL.f2).aY) (by omega)
        cases aeD
        refine Z (dh aZ fA O O (by omega)) (Z (rX (ys := [_, _, _]) ((HL.f2).aY) (by omega) dK O fA O (uy eG.DY (by omega) default) O) ?_)
        have hkl : i < AE.length := by omega
        have hx : yG (AE.getD i default).says := hAO _ (by rw [List.getD_eq_getElem?_getD, List.getElem?_eq_getElem hkl]; exact List.getElem_mem hkl)
        have hx1 : (AE.getD i default).dl.length ≤ 1024 := hx.2.2.1
        have hx2 : (AE.getD i default).il.length ≤ 1024 := hx.2.2.2
        refine jL (gK (l := [_, _, _]) HL iO O) ?_
        rintro _ w58 ⟨b58, rfl, Y6⟩
        refine aO (dw 0 (l' := [_, _, _]) (us := [_, _, _]) Y6 fA O O O (aH (bf (by first | rfl | exact Rd.one (((Y6.f4).qc hkl).1)) (bf (by first | rfl | exact Rd.one (((Y6.f4).qc hkl).2)) bP))) O O) ?_
        rintro _ w59 H59
        refine iy (aA (bG O (Z (fP dK O fA O O (H59).get.2) (dX O func138 (zG H59.f2 (fun W HW => ((HW.f3).qc hkl).1) (fun W HW => ((HW.f3).qc hkl).2) (by omega) (by omega)) ?_))))
        rintro _ w60 ⟨rfl, H60⟩
        have hadd : vZ G1 ((AE.take i).map eG.says) (AE.getD i default).a (AE.getD i default).dl (AE.getD i default).il = 0 := by
          have hx3 : 0 < (AE.getD i default).dl.length + (AE.getD i default).il.length := hx.2.1
          have hx4 : 0 ≤ (AE.getD i default).a := hx.1
          have hx5 := pz G1 ((AE.take i).map eG.says)
          rw [List.length_map, List.length_take] at hx5
          unfold vZ
          rw [if_neg (by omega), if_neg (by omega)]
        have HA2 := H60
        rw [Gp hadd (by decide), Gq hadd (by decide)] at HA2
        refine bD (aG (aW (aA (Z (dP O O (by omega)) (bG O (bD ?_))))))
        refine bZ (i + 1) ?_ ?_ ?_ ?_
        · exact ji
        · exact BI
        · (try dsimp only)
          first | done | exact ⟨by omega, by rw [EX hkl]; exact HA2.f2.right.f3.f3.f3⟩
        · (try dsimp only); omega
      · (try simp only [aC] at h5)
        refine bQ (aB ?_)
        have hil : i = AE.length := by omega
        have HB := HL
        rw [hil, List.take_length] at HB
        subst aeB
        refine aB (aU (aW (bM O (dX O func139 (zJ HB) ?_))))
        rintro _ w61 ⟨rfl, H61⟩
        obtain ⟨h8a, h8b, h8c⟩ := MF G1 (AE.map eG.says)
        have HC := H61
        rw [h8a, h8b, h8c, hAs, rZ (by intro hz; exact hp (List.append_eq_nil_iff.1 hz).2), ← hF3] at HC
        have aeE := HC.f5
        have aeF := V.EP aeE
        refine iy (aA (nZ O O (bK 33 ah O bV O (aO (fE 33 aeF.f5 bV) ?_))))
        rintro _ w64 H64
        refine bD (mO (.inr O) results84 ?_)
        rw [lX hp]
        exact V.IL (s := { s.xA (s.lH on) with put := [] }) (lX hp ▸ IV iR ⟨hF1, hF2, hF3⟩ hp hG1) O H64.f3.right.f3.right.f3.right.f9.right.f9.f9.f9.f5.f9.f7.f9.f9.f9
end
end Go.Proofs.YtpdeedplgmbopaaGreatDoor
end
