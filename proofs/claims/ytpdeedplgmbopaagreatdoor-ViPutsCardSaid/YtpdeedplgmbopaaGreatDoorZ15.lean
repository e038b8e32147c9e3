import Derived.Test.YtpdeedplgmbopaaGreatDoorZ4
import Derived.Test.YtpdeedplgmbopaaGreatDoorZ14
set_option linter.unusedSimpArgs false
set_option linter.unusedVariables false
/- Texts of mine, joined, their names in short: EdF. -/
section
namespace Go.Proofs.YtpdeedplgmbopaaGreatDoor
open Go.RowKit
open _root_.Go.Proofs.Tryz
theorem abw : (prog.info? 189).map (fun i => (i.zero, i.size, i.bytes)) = some (some (.agg #[.int .i64 0, .slice none 0 0, .slice none 0 0]), 3, 56) := by kernel_rfl
def V9 (c : Nat) (g : List jm) : HP := wE fun (x : Value × List fA) => fact (x.2.map fA.says = g) • dW c (.cells #[x.1] 80 (0, 0)) • Row 189 3 x.1 x.2.length (x.2.flatMap fA.enc) • lW x.2
section
variable {w0 w : World} {F : HP} {e p c n m : Nat} {s : bn} {i j x : Int} {on : Bool} {v : Value} {g : List jm} {AV es : List fA} {xs : List Value}
theorem CZ (H : V w0 w F) (hr : WI w0 F 3 v n xs) (hon : ∀ u ∈ xs, u.oneCell' = true) (hb : n ≤ 1099511627776) :
    iE prog 122 #[v] w fun v' w' => V w0 w' (Row 189 3 v' n xs • F) := by
  obtain ⟨hlen, a, c, rfl, h2, h3, h4⟩ := hr w H
  refine iZ func122 ntmps122 ?_
  refine jQ O (aN (bQ O (Z (Dj aW O O) ?_)))
  refine jB O (fun h1 => ?_) (fun h1 => ?_)
  · (try simp only [aA] at h1)
    refine jM O (aB (dL results122 O ?_))
    obtain rfl : a = none := by simpa using h1
    obtain rfl : n = 0 := by
      rcases Nat.eq_zero_or_pos n with h | h
      · exact h
      · obtain ⟨b, o, e, _⟩ := h4 h; cases e
    obtain rfl : xs = [] := List.eq_nil_of_length_eq_zero (by omega)
    exact H.jk none
  · (try simp only [aA] at h1)
    refine gG (iR (kD (KG H aW cO dQ) ?_))
    rintro _ w1 H1
    refine bT O (kD (iy H1 aW abw O O O (hr.under _ H1) hon (by omega) (by omega)) ?_)
    rintro _ w2 H2
    refine fB O (dL results122 O ?_)
    exact H2.of_eq (by rw [Nat.zero_add, List.nil_append])
theorem V.old (H : V w0 w (V9 c g • F)) : ∃ v es, es.map fA.says = g ∧ V w0 w (dW c (.cells #[v] 80 (0, 0)) • Row 189 3 v es.length (es.flatMap fA.enc) • lW es • F) := by
  obtain ⟨⟨v, es⟩, H⟩ := H.nX
  obtain ⟨h, H⟩ := H.flat.fact
  exact ⟨v, es, h, H.of_eq (by simp only [dG])⟩
theorem V.ZQ (h : es.map fA.says = g) (H : V w0 w (dW c (.cells #[v] 80 (0, 0)) • Row 189 3 v es.length (es.flatMap fA.enc) • lW es • F)) : V w0 w (V9 c g • F) :=
  V.jw (v, es) (V.deep (V.lK h (H.of_eq (by simp only [dG]))))
theorem V.abx (hg : g = []) (H : V w0 w (dW c (.cells #[.slice none 0 0] 80 (0, 0)) • F)) : V w0 w (V9 c g • F) :=
  V.ZQ (v := .slice none 0 0) (es := []) hg.symm ((H.uG none).of_eq (by unfold L6; ac_rfl))
theorem V.JD (hm : m = es.length) (H : V w0 w (Row 189 3 v (AV.length + m) (AV.flatMap fA.enc ++ es.flatMap fA.enc) • lW AV • lW es • F)) : V w0 w (Row 189 3 v (AV ++ es).length ((AV ++ es).flatMap fA.enc) • lW (AV ++ es) • F) := by
  subst hm
  have h1 : V w0 w (lW AV • lW es • Row 189 3 v (AV.length + es.length) (AV.flatMap fA.enc ++ es.flatMap fA.enc) • F) := H.of_eq (by ac_rfl)
  have h2 : V w0 w (lW (AV ++ es) • Row 189 3 v (AV.length + es.length) (AV.flatMap fA.enc ++ es.flatMap fA.enc) • F) := h1.F7 (rO (fun I h g => h.app g) _)
  exact h2.swap.of_eq (by rw [List.length_append, List.flatMap_append])
def ZR (s : bn) (on : Bool) (AV : List fA) (G1 : List (List jm)) : Prop := gV G1 [] + AV.length = gV s.here [] ∧ (∀ e ∈ AV, zC e.says) ∧ s.jg on = G1 ++ [AV.map fA.says ++ s.put]
theorem XH (hp : s.put ≠ []) (hn : on = false) : ZR s on [] s.here := by
  subst hn
  refine ⟨by simp, by simp, ?_⟩
  unfold bn.jg
  rw [if_neg hp, if_neg (by decide)]
  rfl
theorem GV : ∀ {G : List (List jm)}, G ≠ [] → (G.dropLast.map List.length).sum + (G.getLastD []).length = (G.map List.length).sum := by
  intro G hG
  have h := List.dropLast_concat_getLast hG
  have h2 : G.getLastD [] = G.getLast hG := by rw [List.getLastD_eq_getLast?, List.getLast?_eq_some_getLast hG]; rfl
  rw [h2]
  conv => rhs; rw [← h]
  simp
theorem RU (hp : s.put ≠ []) (hn : on = true) (hO : ∀ g ∈ s.here, ∀ e ∈ g, zC e) (h : AV.map fA.says = s.here.getLastD []) : ZR s on AV s.here.dropLast := by
  subst hn
  have hlen : AV.length = (s.here.getLastD []).length := by rw [← h]; simp
  have hm : ∀ e ∈ AV, e.says ∈ s.here.getLastD [] := fun e he => by rw [← h]; exact List.mem_map.2 ⟨e, he, rfl⟩
  unfold ZR bn.jg
  rw [if_neg hp, if_pos rfl]
  by_cases h0 : s.here = []
  · rw [h0] at h hlen hm
    have : AV = [] := List.eq_nil_of_length_eq_zero (by simpa using hlen)
    subst this
    rw [h0]
    exact ⟨by simp, by simp, rfl⟩
  · have h2 : s.here.getLastD [] = s.here.getLast h0 := by rw [List.getLastD_eq_getLast?, List.getLast?_eq_some_getLast h0]; rfl
    refine ⟨?_, fun e he => hO _ (List.getLast_mem h0) _ (h2 ▸ hm e he), ?_⟩
    · have := GV h0
      show (s.here.dropLast.map List.length).sum + 0 + AV.length = (s.here.map List.length).sum + 0
      rw [hlen]; omega
    · rw [List.getLast?_eq_some_getLast h0, h, h2]
theorem Lj (G : List (List jm)) : FD G [] = G.reverse := by unfold FD oH; rw [if_pos rfl]
theorem UJ (G : List (List jm)) : (FD G []).getD 0 [] = G.getLastD [] := by
  rw [Lj, List.getD_eq_getElem?_getD, List.getLastD_eq_getLast?]
  congr 1
  cases G.eq_nil_or_concat with
  | inl h => subst h; rfl
  | inr h => obtain ⟨L, b, rfl⟩ := h; simp
theorem ZT {G : List (List jm)} (h : UOk G [] 0) : (∀ g ∈ FD G [], ∀ e ∈ g, EB e) ∧ ∀ g ∈ FD G [], g.length ≤ 16384 := by
  rw [Lj]
  refine ⟨fun g hg => h.2.2.2.2.1 g (List.mem_reverse.1 hg), fun g hg => ?_⟩
  have h1 := JA (List.mem_reverse.1 hg)
  have h2 := h.2.1
  unfold gV at h2
  simp at h2; omega
theorem PV (G : List (List jm)) (N : List jm) : acX G N (0 + 1) = oH G N ∧ acY N (0 + 1) = [] ∧ abd (0 + 1) = 0 := ⟨if_pos rfl, if_pos rfl, by unfold abd; rw [if_neg (by decide)]; rfl⟩
theorem Ol (G : List (List jm)) : VH G [] = G.dropLast ∧ VI G [] = [] ∧ VJ G [] 0 = 0 := by
  unfold VH VI VJ oH
  by_cases h : G.length + ([] : List jm).length = 0
  · have : G = [] := List.eq_nil_of_length_eq_zero (by simpa using h)
    subst this
    simp
  · rw [if_neg h, if_neg h, if_neg h, if_pos rfl]; simp
theorem Cc {s : bn} (h : s.put = []) : s.fU on = s := by unfold bn.fU; rw [if_pos h]
theorem nU {s : bn} (h : s.put ≠ []) : s.fU on = { s.nC (s.jg on) with put := [] } := by unfold bn.fU; rw [if_neg h]
theorem GX (G : List (List jm)) (g : List jm) : gV (G ++ [g]) [] = gV G [] + g.length := by unfold gV; simp
theorem Ll (h : mM s) {G1 : List (List jm)} (hF : ZR s on AV G1) (hp : s.put ≠ []) (hG : ∀ g ∈ G1, ∀ e ∈ g, zC e) : mM (s.fU on) := by
  rw [nU hp]
  obtain ⟨h1, h2, h3, h4, h5, h6⟩ := h
  obtain ⟨f1, f2, f3⟩ := hF
  refine ⟨h1, h2, h3, by simp, ?_, ?_⟩
  · show gV (xI s.c.un s.c.place (s.jg on) s.c.place) [] ≤ 16384
    rw [iL, f3, GX]
    have := pz s.here s.put
    simp; omega
  · intro k g hg e he
    have hg' : g ∈ xI s.c.un s.c.place (s.jg on) k := hg
    by_cases hk : k = s.c.place
    · subst hk
      rw [iL, f3] at hg'
      rcases List.mem_append.1 hg' with hg' | hg'
      · exact hG g hg' e he
      · rw [List.mem_singleton.1 hg'] at he
        rcases List.mem_append.1 he with he | he
        · obtain ⟨q, hq, rfl⟩ := List.mem_map.1 he; exact f2 q hq
        · exact h4 e he
    · rw [vU _ _ hk] at hg'; exact h6 k g hg' e he
theorem Iy {es : List fA} {k : Nat} (hk : k < es.length) : (es.take (k + 1)).map fA.says = (es.take k).map fA.says ++ [(es.getD k default).says] := by
  rw [List.take_succ_eq_append_getElem hk, List.map_append, List.getD_eq_getElem?_getD, List.getElem?_eq_getElem hk]; rfl
theorem sQ (H : V w0 w (eP e s • F)) : iE prog 84 #[.pointer (some ⟨e, 0, none⟩), .bool on] w fun _ w' => V w0 w' (eP e (s.fU on) • F) := by
  refine oV func84 ntmps84 ?_
  refine aN (aN ?_)
  obtain ⟨wM, wO, wP, wQ, wR, wS, wU, wV, uN, tu, tC, tH, tJ, tK, tN, tV, tX, tY, tZ, uf, gK, dD, kM, iw⟩ := (H).GI
  have hput : gV s.here s.put ≤ 16384 := gK.2.2.2.2.1
  have hsp := pz s.here s.put
  have hO : ∀ g ∈ s.here, ∀ x ∈ g, zC x := gK.2.2.2.2.2 s.c.place
  have hPO : ∀ x ∈ uN, zC x.says := fun x hx => gK.2.2.2.1 _ (by rw [← dD]; exact List.mem_map.2 ⟨x, hx, rfl⟩)
  have ahd := (iw.f10).DC
  refine aC (nG O O (bJ 33 ah O bP O (fM aW O (iw).get.2 O (Z (kK ((iw.f9).aS) aW O) (Z (dX O O) (jB O (fun h1 => ?_) (fun h1 => ?_)))))))
  · (try simp only [aA] at h1)
    refine nI (aB (we0 results84 ?_))
    rw [Cc (List.eq_nil_of_length_eq_zero (by omega))]
    exact V.iq gK dD iw.f11.f11.f11.f11.f11.f11.f11.f11.f11.f11.f11
  · (try simp only [aA] at h1)
    have hp : s.put ≠ [] := by rintro hz; rw [hz] at h1; simp at h1
    refine gG (bQ O (dS O func134 (DR iw.f6.f5.f3) ?_))
    rintro _ w2 ⟨lp2, rfl, H2⟩
    refine fG O (iR (kD (iC (l := [_]) H2 nJ O) ?_))
    rintro _ w3 ⟨b3, rfl, H3⟩
    refine qQ (aN ?_)
    obtain ⟨R4, hR4, HR4⟩ := V.ad2 (H3.f2.f2)
    refine aC (bT O (jB O (fun h2 => ?_) (fun h2 => ?_)))
    · (try simp only [aA] at h2)
      have hn : on = true := h2
      refine aN (bQ O (dS O func135 (Jm HR4.f2) ?_))
      rintro _ w5 ⟨bG5, rfl, H5⟩
      refine iJ (aY ?_)
      obtain ⟨_, _, _, _, k1, _⟩ := (H5.f2).zu
      obtain ⟨hB, hL⟩ := ZT k1
      have HF0 := V.lK (q := (0 : Nat) = 0) rfl H5
      obtain ⟨R6, hR6, HR6⟩ := V.JJ (HF0.f4.f2.f3)
      refine BM O (Q9 bG5 hB hL) (fun j => fact (j = 0) • dW b3 (.cells #[.slice none 0 0] 80 (0, 0)) • R6) (fact False) (fun id => if id = 0 then V9 b3 (s.here.getLastD []) • R6 else fact False) (HR6.f3.f3.f3.f3.f3.f3.comm) (by rfl) ?_ ?_ ?_ ?_
      · rintro l7 j acV vs7 A7 ⟨u1, fs1, aeP, rfl, rfl⟩ G7 w7 H7
        try simp only [dG, pO, yG] at H7
        refine ⟨O, ?_⟩
        dsimp only [Ue]
        have HQ := (H7).edL
        obtain rfl : j = 0 := (HQ.f3).fact.1
        have hon := (HQ.f2).DC
        have hlen1 : fs1.length ≤ 16384 := by
          have h9 := hL _ (yX (d := []) acV)
          rw [← aeP] at h9
          simpa using h9
        refine aC (iK O (bW ?_))
        refine Ud (HQ.g5) ?_
        intro G8 w8 H8
        try simp only [dG] at H8
        refine aY (bQ O (dS O func122 (CZ H8 (fun W HW => (HW).aS) hon (by omega)) ?_))
        rintro u9 w9 H9
        refine aJ (fP 0 (l' := [_]) H9.f5 bP O O (by first | rfl | exact Rd.one ((H9).aS)) O O) ?_
        rintro _ w10 pR
        refine iJ (dO ?_)
        refine EL (by decide) ?_
        refine YV ?_
        rw [if_pos rfl]
        exact (V.ZQ (aeP.trans (UJ _)) pR.f3.right.f4.right.f3.f3.f3).deep
      · rintro D11 Fv tq
        have YH := tq.ed
        try simp only [dG, pO, yG] at YH
        have aeQ := YH.Vq
        have hz := (aeQ.f3).fact.1
        rw [Lj, List.length_reverse] at hz
        have hg0 : s.here.getLastD [] = [] := by show (s.c.un s.c.place).getLastD [] = []; rw [List.eq_nil_of_length_eq_zero hz]; rfl
        have Pz := aeQ.f4
        have PD := V.abx hg0 Pz
        have aby := PD.f4.right
        subst hR6
        subst hR4
        refine aK (aX (aC (bT O (dS O func136 (ER aby.f4) ?_))))
        rintro _ QE ⟨u15, ahy, rfl, ahe, zU⟩
        have agl := zU.right
        have Uc := agl.right
        have ZP := Uc.f4.right
        obtain ⟨h9a, h9b, h9c⟩ := Ol (s.c.un s.c.place)
        have HX := ZP
        rw [h9a, h9b, h9c] at HX
        obtain ⟨ov, AV, adw, HO⟩ := (HX.f2).old
        have hF := RU hp hn hO adw
        have hG1 : ∀ g ∈ s.here.dropLast, ∀ x ∈ g, zC x := fun g hg => hO g (List.dropLast_subset _ hg)
        obtain ⟨G1, adx⟩ : ∃ q, q = (s.c.un s.c.place).dropLast := ⟨_, rfl⟩
        rw [show s.here.dropLast = (s.c.un s.c.place).dropLast from rfl] at hF hG1
        have XI := HO
        rw [← adx] at hF hG1 XI
        refine qQ ?_
        obtain ⟨hF1, hF2, hF3⟩ := hF
        have hl1 : AV.length ≤ 16384 := by omega
        have hl2 : s.put.length ≤ 16384 := by omega
        refine aC (bT O (dS O func137 (zx XI.f4 (by omega)) ?_))
        rintro _ w19 ⟨rfl, EF⟩
        refine qQ (aN ?_)
        have Oj := EF.drew
        have uP := V.kp (Oj.f16.f16.f16.f16.f16.f16.f16.f16.f16.f16.f16.f16.f16.f16.f16.f16)
        refine yH [0, 4] uP O (jO 0 O uP (fun W hW => jV aW O ((Kp.h hW).f2).get.2 O) (iQ 1 O uP O (jU 2 O uP O (gU 3 O uP 33 ah O bP O (jO 4 O uP (fun W hW => jV aW O ((Kp.h hW).f7).get.2 O) (iQ 7 O uP O (mZ 5 O (iy Oj.f3 aW AB O O O ((Oj.f14).aS) (by assumption) (by omega) (by omega)) ?_)))))))
        rintro l20 w20 F9
        have DN := V.kp (F9.f16.f16.f16.f16.f16.f16.f16.f16.f16.f16.f16.f16.f16.f16.f16.f16)
        refine iG DN (by kernel_rfl) ?_
        have ady := F9.f15.f5.f3
        have adz := V.JD kM.symm ady
        obtain ⟨AE, Wh⟩ : ∃ q, q = AV ++ uN := ⟨_, rfl⟩
        have HA := adz
        rw [← Wh] at HA
        have hAl : AE.length = AV.length + s.put.length := by rw [Wh, List.length_append, kM]
        have hAs : AE.map fA.says = AV.map fA.says ++ s.put := by rw [Wh, List.map_append, dD]
        have hAO : ∀ x ∈ AE, zC x.says := fun x hx => by
          rw [Wh] at hx
          rcases List.mem_append.1 hx with hx | hx
          · exact hF2 x hx
          · exact hPO x hx
        refine jC 6 O DN (fun _ => kK ((HA).aS) aW O) (qV (aX (aY ?_)))
        obtain ⟨R23, agm, agn⟩ := V.JJ (HA.f2.f2.f3)
        refine gW [(0, _), (4, _), (32, _), (33, _)] (fun (i : Nat) => [(34, .int .i64 (i : Int))]) (fun (i : Nat) W => i ≤ AE.length ∧ V w0 W (jo lp2 G1 ((AE.take i).map fA.says) (0 + 1) • Row 189 3 l20 AE.length (AE.flatMap fA.enc) • lW AE • R23)) (fun (i : Nat) => AE.length - i) (0) OM lU ⟨by omega, agn⟩ ?_
        rintro i w24 ⟨hi, HL⟩
        dsimp only [List.cons_append, List.nil_append]
        refine iR (Z (fZ O O) (qQ (bD O (fun h3 => ?_) (fun h3 => ?_))))
        · (try simp only [aA] at h3)
          refine gG (aN (aY (iR ?_)))
          obtain ⟨ahz, ahA, ahB, agp⟩ := Rd.rM ((HL.f2).aS) (by omega)
          cases agp
          refine Z (dP aW cO O O (by omega)) (Z (uS (ys := [_, _, _]) ((HL.f2).aS) (by omega) bf O cO O (wK fA.Gt (by omega) default) O) ?_)
          have hkl : i < AE.length := by omega
          have hx : zC (AE.getD i default).says := hAO _ (by rw [List.getD_eq_getElem?_getD, List.getElem?_eq_getElem hkl]; exact List.getElem_mem hkl)
          have hx1 : (AE.getD i default).dl.length ≤ 1024 := hx.2.2.1
          have hx2 : (AE.getD i default).il.length ≤ 1024 := hx.2.2.2
          refine kD (iC (l := [_, _, _]) HL dQ O) ?_
          rintro _ w25 ⟨b25, rfl, TT⟩
          refine aJ (dB 0 (l' := [_, _, _]) (us := [_, _, _]) TT cO O O O (aG (aZ (by first | rfl | exact Rd.one (((TT.f4).qZ hkl).1)) (aZ (by first | rfl | exact Rd.one (((TT.f4).qZ hkl).2)) bU))) O O) ?_
          rintro _ w26 VA
          refine iJ (aC (bT O (Z (dM bf O cO O O (VA).get.2) (dS O func138 (BL VA.f2 (fun W HW => ((HW.f3).qZ hkl).1) (fun W HW => ((HW.f3).qZ hkl).2) (by omega) (by omega)) ?_))))
          rintro _ w27 ⟨rfl, NS⟩
          have hadd : yh G1 ((AE.take i).map fA.says) (AE.getD i default).a (AE.getD i default).dl (AE.getD i default).il = 0 := by
            have hx3 : 0 < (AE.getD i default).dl.length + (AE.getD i default).il.length := hx.2.1
            have hx4 : 0 ≤ (AE.getD i default).a := hx.1
            have hx5 := pz G1 ((AE.take i).map fA.says)
            rw [List.length_map, List.length_take] at hx5
            unfold yh
            rw [if_neg (by omega), if_neg (by omega)]
          have HA2 := NS
          rw [Jw hadd (by decide), Jy hadd (by decide)] at HA2
          refine bW (aK (aX (aC (Z (fJ O O (by omega)) (bT O (bW ?_))))))
          refine dV (i + 1) ?_ ?_ ?_ ?_
          · exact lU
          · exact OM
          · (try dsimp only)
            first | done | exact ⟨by omega, by rw [Iy hkl]; exact HA2.f2.right.f3.f3.f3⟩
          · (try dsimp only); omega
        · (try simp only [aA] at h3)
          refine dO (aO ?_)
          have hil : i = AE.length := by omega
          have HB := HL
          rw [hil, List.take_length] at HB
          subst agm
          refine aO (bI (aX (bQ O (dS O func139 (BN HB) ?_))))
          rintro _ w28 ⟨rfl, H28⟩
          obtain ⟨h8a, h8b, h8c⟩ := PV G1 (AE.map fA.says)
          have HC := H28
          rw [h8a, h8b, h8c, hAs, uU (by intro hz; exact hp (List.append_eq_nil_iff.1 hz).2), ← hF3] at HC
          have ac7 := HC.f6
          have ac8 := V.Bj ac7
          refine iJ (aC (nG O O (bJ 33 ah O bP O (aJ (eX 33 ac8.f6 bP) ?_))))
          rintro _ w31 Tn
          refine bW ?_
          refine Jt (.inr O) (Tn.f6) (fun w32 NT => ?_)
          refine ⟨_, acG results84, ?_⟩
          rw [nU hp]
          exact V.KQ (s := { s.nC (s.jg on) with put := [] }) (nU hp ▸ Ll gK ⟨hF1, hF2, hF3⟩ hp hG1) O NT.f3.right.f3.right.f3.right.f9.right.f9.f9.f9.f5.f9.f7.f9.f9.f9
      · rintro D w H; exact absurd H.swap.fact.1 id
      · rintro id D33 w33 WV
        refine Decidable.byCases (fun hid : id = 0 => ?_) (fun hid => by rw [if_neg hid] at WV; exact absurd WV.swap.fact.1 fun h => h)
        subst hid
        rw [if_pos rfl] at WV
        have aeR := WV.ed
        try simp only [dG, pO, yG] at aeR
        have agq := aeR.Vq
        subst hR6
        subst hR4
        refine bI (aX (aC (bT O (dS O func136 (ER agq.f4) ?_))))
        rintro _ w34 ⟨u34, ahC, rfl, ahf, Zp⟩
        have agr := Zp.right
        have ags := agr.right
        have adA := ags.f3.right
        obtain ⟨h9a, h9b, h9c⟩ := Ol (s.c.un s.c.place)
        have HX := adA
        rw [h9a, h9b, h9c] at HX
        obtain ⟨ov, AV, adw, HO⟩ := (HX.f3).old
        have hF := RU hp hn hO adw
        have hG1 : ∀ g ∈ s.here.dropLast, ∀ x ∈ g, zC x := fun g hg => hO g (List.dropLast_subset _ hg)
        obtain ⟨G1, adx⟩ : ∃ q, q = (s.c.un s.c.place).dropLast := ⟨_, rfl⟩
        rw [show s.here.dropLast = (s.c.un s.c.place).dropLast from rfl] at hF hG1
        have XI := HO
        rw [← adx] at hF hG1 XI
        refine qQ ?_
        obtain ⟨hF1, hF2, hF3⟩ := hF
        have hl1 : AV.length ≤ 16384 := by omega
        have hl2 : s.put.length ≤ 16384 := by omega
        refine aC (bT O (dS O func137 (zx XI.f4 (by omega)) ?_))
        rintro _ w38 ⟨rfl, Uw⟩
        refine qQ (aN ?_)
        have ZU := Uw.drew
        have FW := V.kp (ZU.f16.f16.f16.f16.f16.f16.f16.f16.f16.f16.f16.f16.f16.f16.f16.f16)
        refine yH [0, 4] FW O (jO 0 O FW (fun W hW => jV aW O ((Kp.h hW).f2).get.2 O) (iQ 1 O FW O (jU 2 O FW O (gU 3 O FW 33 ah O bP O (jO 4 O FW (fun W hW => jV aW O ((Kp.h hW).f7).get.2 O) (iQ 7 O FW O (mZ 5 O (iy ZU.f3 aW AB O O O ((ZU.f14).aS) (by assumption) (by omega) (by omega)) ?_)))))))
        rintro l39 w39 H39
        have RV := V.kp (H39.f16.f16.f16.f16.f16.f16.f16.f16.f16.f16.f16.f16.f16.f16.f16.f16)
        refine iG RV (by kernel_rfl) ?_
        have agt := H39.f15.f5.f3
        have agu := V.JD kM.symm agt
        obtain ⟨AE, Wh⟩ : ∃ q, q = AV ++ uN := ⟨_, rfl⟩
        have HA := agu
        rw [← Wh] at HA
        have hAl : AE.length = AV.length + s.put.length := by rw [Wh, List.length_append, kM]
        have hAs : AE.map fA.says = AV.map fA.says ++ s.put := by rw [Wh, List.map_append, dD]
        have hAO : ∀ x ∈ AE, zC x.says := fun x hx => by
          rw [Wh] at hx
          rcases List.mem_append.1 hx with hx | hx
          · exact hF2 x hx
          · exact hPO x hx
        refine jC 6 O RV (fun _ => kK ((HA).aS) aW O) (qV (aX (aY ?_)))
        obtain ⟨R42, agv, agw⟩ := V.JJ (HA.f2.f2.f3)
        refine gW [(0, _), (4, _), (32, _), (33, _)] (fun (i : Nat) => [(34, .int .i64 (i : Int))]) (fun (i : Nat) W => i ≤ AE.length ∧ V w0 W (jo lp2 G1 ((AE.take i).map fA.says) (0 + 1) • Row 189 3 l39 AE.length (AE.flatMap fA.enc) • lW AE • R42)) (fun (i : Nat) => AE.length - i) (0) OM lU ⟨by omega, agw⟩ ?_
        rintro i w43 ⟨hi, HL⟩
        dsimp only [List.cons_append, List.nil_append]
        refine iR (Z (fZ O O) (qQ (bD O (fun h4 => ?_) (fun h4 => ?_))))
        · (try simp only [aA] at h4)
          refine gG (aN (aY (iR ?_)))
          obtain ⟨ahD, ahE, ahF, agx⟩ := Rd.rM ((HL.f2).aS) (by omega)
          cases agx
          refine Z (dP aW cO O O (by omega)) (Z (uS (ys := [_, _, _]) ((HL.f2).aS) (by omega) bf O cO O (wK fA.Gt (by omega) default) O) ?_)
          have hkl : i < AE.length := by omega
          have hx : zC (AE.getD i default).says := hAO _ (by rw [List.getD_eq_getElem?_getD, List.getElem?_eq_getElem hkl]; exact List.getElem_mem hkl)
          have hx1 : (AE.getD i default).dl.length ≤ 1024 := hx.2.2.1
          have hx2 : (AE.getD i default).il.length ≤ 1024 := hx.2.2.2
          refine kD (iC (l := [_, _, _]) HL dQ O) ?_
          rintro _ w44 ⟨b44, rfl, H44⟩
          refine aJ (dB 0 (l' := [_, _, _]) (us := [_, _, _]) H44 cO O O O (aG (aZ (by first | rfl | exact Rd.one (((H44.f4).qZ hkl).1)) (aZ (by first | rfl | exact Rd.one (((H44.f4).qZ hkl).2)) bU))) O O) ?_
          rintro _ w45 Tq
          refine iJ (aC (bT O (Z (dM bf O cO O O (Tq).get.2) (dS O func138 (BL Tq.f2 (fun W HW => ((HW.f3).qZ hkl).1) (fun W HW => ((HW.f3).qZ hkl).2) (by omega) (by omega)) ?_))))
          rintro _ w46 ⟨rfl, H46⟩
          have hadd : yh G1 ((AE.take i).map fA.says) (AE.getD i default).a (AE.getD i default).dl (AE.getD i default).il = 0 := by
            have hx3 : 0 < (AE.getD i default).dl.length + (AE.getD i default).il.length := hx.2.1
            have hx4 : 0 ≤ (AE.getD i default).a := hx.1
            have hx5 := pz G1 ((AE.take i).map fA.says)
            rw [List.length_map, List.length_take] at hx5
            unfold yh
            rw [if_neg (by omega), if_neg (by omega)]
          have HA2 := H46
          rw [Jw hadd (by decide), Jy hadd (by decide)] at HA2
          refine bW (aK (aX (aC (Z (fJ O O (by omega)) (bT O (bW ?_))))))
          refine dV (i + 1) ?_ ?_ ?_ ?_
          · exact lU
          · exact OM
          · (try dsimp only)
            first | done | exact ⟨by omega, by rw [Iy hkl]; exact HA2.f2.right.f3.f3.f3⟩
          · (try dsimp only); omega
        · (try simp only [aA] at h4)
          refine dO (aO ?_)
          have hil : i = AE.length := by omega
          have HB := HL
          rw [hil, List.take_length] at HB
          subst agv
          refine aO (bI (aX (bQ O (dS O func139 (BN HB) ?_))))
          rintro _ w47 ⟨rfl, H47⟩
          obtain ⟨h8a, h8b, h8c⟩ := PV G1 (AE.map fA.says)
          have HC := H47
          rw [h8a, h8b, h8c, hAs, uU (by intro hz; exact hp (List.append_eq_nil_iff.1 hz).2), ← hF3] at HC
          have agy := HC.f6
          have agz := V.Bj agy
          refine iJ (aC (nG O O (bJ 33 ah O bP O (aJ (eX 33 agz.f6 bP) ?_))))
          rintro _ w50 H50
          refine bW ?_
          refine Jt (.inr O) (H50.f6) (fun w51 H51 => ?_)
          refine ⟨_, acG results84, ?_⟩
          rw [nU hp]
          exact V.KQ (s := { s.nC (s.jg on) with put := [] }) (nU hp ▸ Ll gK ⟨hF1, hF2, hF3⟩ hp hG1) O H51.f3.right.f3.right.f3.right.f9.right.f9.f9.f9.f5.f9.f7.f9.f9.f9
    · (try simp only [aA] at h2)
      have hn : on = false := h2
      obtain ⟨ov, AV, G1, hF, hG1, HF⟩ : ∃ ov AV G1, ZR s on AV G1 ∧ (∀ g ∈ G1, ∀ x ∈ g, zC x) ∧ V w0 w3 (dW b3 (.cells #[ov] 80 (0, 0)) • Row 189 3 ov AV.length (AV.flatMap fA.enc) • lW AV • jo lp2 G1 [] 0 • R4) :=
        ⟨.slice none 0 0, [], s.here, XH hp hn, hO, (V.uG HR4.f2.f2 none).of_eq (by unfold L6; ac_rfl)⟩
      subst hR4
      refine gG (aN ?_)
      obtain ⟨hF1, hF2, hF3⟩ := hF
      have hl1 : AV.length ≤ 16384 := by omega
      have hl2 : s.put.length ≤ 16384 := by omega
      refine aC (bT O (dS O func137 (zx HF.f4 (by omega)) ?_))
      rintro _ w52 ⟨rfl, H52⟩
      refine qQ (aN ?_)
      have ZV := H52.drew
      have FX := V.kp (ZV.f15.f15.f15.f15.f15.f15.f15.f15.f15.f15.f15.f15.f15.f15.f15)
      refine yH [0, 4] FX O (jO 0 O FX (fun W hW => jV aW O ((Kp.h hW).f2).get.2 O) (iQ 1 O FX O (jU 2 O FX O (gU 3 O FX 33 ah O bP O (jO 4 O FX (fun W hW => jV aW O ((Kp.h hW).f6).get.2 O) (iQ 7 O FX O (mZ 5 O (iy ZV.f3 aW AB O O O ((ZV.f13).aS) (by assumption) (by omega) (by omega)) ?_)))))))
      rintro l53 w53 H53
      have acu := V.kp (H53.f15.f15.f15.f15.f15.f15.f15.f15.f15.f15.f15.f15.f15.f15.f15)
      refine iG acu (by kernel_rfl) ?_
      have agA := H53.f14.f5.f3
      have agB := V.JD kM.symm agA
      obtain ⟨AE, Wh⟩ : ∃ q, q = AV ++ uN := ⟨_, rfl⟩
      have HA := agB
      rw [← Wh] at HA
      have hAl : AE.length = AV.length + s.put.length := by rw [Wh, List.length_append, kM]
      have hAs : AE.map fA.says = AV.map fA.says ++ s.put := by rw [Wh, List.map_append, dD]
      have hAO : ∀ x ∈ AE, zC x.says := fun x hx => by
        rw [Wh] at hx
        rcases List.mem_append.1 hx with hx | hx
        · exact hF2 x hx
        · exact hPO x hx
      refine jC 6 O acu (fun _ => kK ((HA).aS) aW O) (qV (aX (aY ?_)))
      obtain ⟨R56, agC, agD⟩ := V.JJ (HA.f2.f2.f3)
      refine gW [(0, _), (4, _), (32, _), (33, _)] (fun (i : Nat) => [(34, .int .i64 (i : Int))]) (fun (i : Nat) W => i ≤ AE.length ∧ V w0 W (jo lp2 G1 ((AE.take i).map fA.says) (0 + 1) • Row 189 3 l53 AE.length (AE.flatMap fA.enc) • lW AE • R56)) (fun (i : Nat) => AE.length - i) (0) OM lU ⟨by omega, agD⟩ ?_
      rintro i w57 ⟨hi, HL⟩
      dsimp only [List.cons_append, List.nil_append]
      refine iR (Z (fZ O O) (qQ (bD O (fun h5 => ?_) (fun h5 => ?_))))
      · (try simp only [aA] at h5)
        refine gG (aN (aY (iR ?_)))
        obtain ⟨ahG, ahH, ahI, agE⟩ := Rd.rM ((HL.f2).aS) (by omega)
        cases agE
        refine Z (dP aW cO O O (by omega)) (Z (uS (ys := [_, _, _]) ((HL.f2).aS) (by omega) bf O cO O (wK fA.Gt (by omega) default) O) ?_)
        have hkl : i < AE.length := by omega
        have hx : zC (AE.getD i default).says := hAO _ (by rw [List.getD_eq_getElem?_getD, List.getElem?_eq_getElem hkl]; exact List.getElem_mem hkl)
        have hx1 : (AE.getD i default).dl.length ≤ 1024 := hx.2.2.1
        have hx2 : (AE.getD i default).il.length ≤ 1024 := hx.2.2.2
        refine kD (iC (l := [_, _, _]) HL dQ O) ?_
        rintro _ w58 ⟨b58, rfl, H58⟩
        refine aJ (dB 0 (l' := [_, _, _]) (us := [_, _, _]) H58 cO O O O (aG (aZ (by first | rfl | exact Rd.one (((H58.f4).qZ hkl).1)) (aZ (by first | rfl | exact Rd.one (((H58.f4).qZ hkl).2)) bU))) O O) ?_
        rintro _ w59 H59
        refine iJ (aC (bT O (Z (dM bf O cO O O (H59).get.2) (dS O func138 (BL H59.f2 (fun W HW => ((HW.f3).qZ hkl).1) (fun W HW => ((HW.f3).qZ hkl).2) (by omega) (by omega)) ?_))))
        rintro _ w60 ⟨rfl, H60⟩
        have hadd : yh G1 ((AE.take i).map fA.says) (AE.getD i default).a (AE.getD i default).dl (AE.getD i default).il = 0 := by
          have hx3 : 0 < (AE.getD i default).dl.length + (AE.getD i default).il.length := hx.2.1
          have hx4 : 0 ≤ (AE.getD i default).a := hx.1
          have hx5 := pz G1 ((AE.take i).map fA.says)
          rw [List.length_map, List.length_take] at hx5
          unfold yh
          rw [if_neg (by omega), if_neg (by omega)]
        have HA2 := H60
        rw [Jw hadd (by decide), Jy hadd (by decide)] at HA2
        refine bW (aK (aX (aC (Z (fJ O O (by omega)) (bT O (bW ?_))))))
        refine dV (i + 1) ?_ ?_ ?_ ?_
        · exact lU
        · exact OM
        · (try dsimp only)
          first | done | exact ⟨by omega, by rw [Iy hkl]; exact HA2.f2.right.f3.f3.f3⟩
        · (try dsimp only); omega
      · (try simp only [aA] at h5)
        refine dO (aO ?_)
        have hil : i = AE.length := by omega
        have HB := HL
        rw [hil, List.take_length] at HB
        subst agC
        refine aO (bI (aX (bQ O (dS O func139 (BN HB) ?_))))
        rintro _ w61 ⟨rfl, H61⟩
        obtain ⟨h8a, h8b, h8c⟩ := PV G1 (AE.map fA.says)
        have HC := H61
        rw [h8a, h8b, h8c, hAs, uU (by intro hz; exact hp (List.append_eq_nil_iff.1 hz).2), ← hF3] at HC
        have agF := HC.f5
        have agG := V.Bj agF
        refine iJ (aC (nG O O (bJ 33 ah O bP O (aJ (eX 33 agG.f5 bP) ?_))))
        rintro _ w64 H64
        refine bW (lM (.inr O) results84 ?_)
        rw [nU hp]
        exact V.KQ (s := { s.nC (s.jg on) with put := [] }) (nU hp ▸ Ll gK ⟨hF1, hF2, hF3⟩ hp hG1) O H64.f3.right.f3.right.f3.right.f9.right.f9.f9.f9.f5.f9.f7.f9.f9.f9
end
end Go.Proofs.YtpdeedplgmbopaaGreatDoor
end
