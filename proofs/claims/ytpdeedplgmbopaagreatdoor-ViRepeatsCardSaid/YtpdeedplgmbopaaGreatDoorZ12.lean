import Derived.Test.YtpdeedplgmbopaaGreatDoorZ4
import Derived.Test.YtpdeedplgmbopaaGreatDoorZ11
set_option linter.unusedSimpArgs false
set_option linter.unusedVariables false
/- Texts of mine, joined, their names in short: EdK EdF. -/
section
namespace Go.Proofs.YtpdeedplgmbopaaGreatDoor
open Go.RowKit
open _root_.Go.Proofs.Tryz
theorem Za {E : List (List Int)} {a : Nat} {way : Int} {l : List Int} (h : (Ei E a way l).1 ≠ 0) : (Ei E a way l).2 = (E, a) := by
  unfold Ei at *
  repeat' split at h
  all_goals first | (simp at h; done) | skip
  all_goals (repeat' (first | rw [if_pos (by assumption)] | rw [if_neg (by assumption)])) <;> rfl
theorem Zb {s : bF} {i j : Int} {back : Bool} (h : (s.uS i j back).1 ≠ 0) : (s.uS i j back).2 = (s.c.E, s.c.at_) := Za h
theorem Fj {s : bF} {i j : Int} {back : Bool} (h : s.uD i j back ≠ 0) : s.tH i j back = s := by unfold bF.tH; rw [if_neg h]
section
variable {w0 w : World} {F : HP} {e p h pr : Nat} {s : bF} {i j x : Int} {back : Bool} {v : Value} {l : List Int}
theorem Uf (H : V w0 w (eH e s • F)) : iQ prog 185 #[.pointer (some ⟨e, 0, none⟩), .int .i64 i, .int .i64 j, .bool back] w fun v' w' => v' = .int .i64 (s.uD i j back) ∧ V w0 w' (eH e (s.tH i j back) • F) := by
 refine QD func185 ntmps185 ?_
 refine ku O (aI (bM O (dS O func81 (ru H) ?_)))
 rintro _ _ ⟨rfl, rfl⟩
 refine dZ O (bM O (aQ (gY O O) (jr O (fun h1 => ?_) (fun h1 => ?_))))
 ·(try simp only [Z] at h1)
  obtain ⟨hin, hpe⟩ := Ih h1
  refine bM O (fA O (aA (dI results185 O ?_)))
  rw [hpe]
  exact ⟨by simp [bF.uD, bF.tH, hin], by rw [show s.tH i j back = s from by simp [bF.uD, bF.tH, hin]]; exact H⟩
 ·(try simp only [Z] at h1)
  have hin := EC h1
  refine fV (aI (aI ?_))
  obtain ⟨zB, zC, zD, zF, zG, zH, zI, zJ, xM, wu, wz, wB, wC, wE, wF, wG, wH, wI, wJ, wK, iZ, dL, lU, jo⟩ := (H).JV
  have hL : s.c.L.length ≤ 1024 := by obtain ⟨a, c, xs, f, t, h1, h2, h3, h4, h5, h6, h7, hc1, hc2, hl, H1⟩ := (jo.f2).buf; exact h4
  refine aB (bJ O (aQ (gW O O) (jm O (fun h2 => ?_) (fun h2 => ?_))))
  ·(try simp only [Z] at h2)
   refine bn (bn (bn (bn (bn (bn (bn (bn (je O O (bJ O (bn (bn (bn (je O O (bJ O (bn (bn (bn (bn (bn (bn (bn (bn (je O O (iE (C9 (kC O (aA (dI results185 O ?_))))))))))))))))))))))))))))
   have hb : s.sK i j := by unfold bF.sK; omega
   have hc : s.uD i j back = 70 := by unfold bF.uD; rw [if_pos hin, if_pos hb]
   exact ⟨by rw [hc], by rw [Fj (by rw [hc]; decide)]; exact V.jg iZ dL jo.f11.f11.f11.f11.f11.f11.f11.f11.f11.f11.f11⟩
  ·(try simp only [Z] at h2)
   refine aY (bJ O (aY (bJ O (aY (dK O (aY (bI 0 aj O aV O (aY (bI 0 aK O sD O (aY (fC mZ O (jo).get.2 O (aY (dS O func132 (vO jo.f2) ?_)))))))))))))
   rintro _ w3 ⟨rfl, hD3⟩
   have HD3 := jo.Bd hD3
   refine aY (aQ (eX O O) (fG O O (jm O (fun h3 => ?_) (fun h3 => ?_))))
   ·(try simp only [Z] at h3)
    refine bn (bn (bn (je O O (bJ O (bn (bn (bn (bn (bn (bn (bn (bn (je O O (iE (C9 (kC O (aA (dI results185 O ?_))))))))))))))))))
    have hb : s.sK i j := by unfold bF.sK; omega
    have hc : s.uD i j back = 70 := by unfold bF.uD; rw [if_pos hin, if_pos hb]
    exact ⟨by rw [hc], by rw [Fj (by rw [hc]; decide)]; exact V.jg iZ dL HD3.f11.f11.f11.f11.f11.f11.f11.f11.f11.f11.f11⟩
   ·(try simp only [Z] at h3)
    refine aY (bJ O (aY (bJ O (aY (aQ (gW O O) (fG O O (jm O (fun h4 => ?_) (fun h4 => ?_))))))))
    ·(try simp only [Z] at h4)
     refine bn (bn (bn (bn (bn (bn (bn (bn (je O O (iE (C9 (kC O (aA (dI results185 O ?_)))))))))))))
     have hb : s.sK i j := by unfold bF.sK; omega
     have hc : s.uD i j back = 70 := by unfold bF.uD; rw [if_pos hin, if_pos hb]
     exact ⟨by rw [hc], by rw [Fj (by rw [hc]; decide)]; exact V.jg iZ dL HD3.f11.f11.f11.f11.f11.f11.f11.f11.f11.f11.f11⟩
    ·(try simp only [Z] at h4)
     refine aY (bJ O (aY (bJ O (aY (dK O (aY (bI 0 aj O aV O (aY (bI 0 aK O sD O (aY (fC mZ O (HD3).get.2 O (aY (dS O func132 (vO HD3.f2) ?_)))))))))))))
     rintro _ w4 ⟨rfl, hD4⟩
     have HD4 := HD3.Bd hD4
     refine aY (aQ (eX O O) (fG O O (jr O (fun h5 => ?_) (fun h5 => ?_))))
     ·(try simp only [Z] at h5)
      refine kC O (aA (dI results185 O ?_))
      have hb : s.sK i j := by unfold bF.sK; omega
      have hc : s.uD i j back = 70 := by unfold bF.uD; rw [if_pos hin, if_pos hb]
      exact ⟨by rw [hc], by rw [Fj (by rw [hc]; decide)]; exact V.jg iZ dL HD4.f11.f11.f11.f11.f11.f11.f11.f11.f11.f11.f11⟩
     ·(try simp only [Z] at h5)
      refine fV (aI ?_)
      have hb : ¬ s.sK i j := by unfold bF.sK; omega
      have hc : s.uD i j back = (s.uS i j back).1 := by unfold bF.uD; rw [if_pos hin, if_neg hb]
      refine aB (dZ O ?_)
      refine kL [(0, _), (1, _), (2, _)] (fun (_ : Unit) => [(10, .int .i64 (s.way back))]) (fun (_ : Unit) W => W = w4) vC ?_ ?_
      ·rintro _ w5 rfl
       dsimp only [List.cons_append, List.nil_append]
       refine aI (aI ?_)
       have aei := HD4.drew
       have xA := V.kp (aei.f11.f11.f11.f11.f11.f11.f11.f11.f11.f11.f11)
       refine uN [4, 10] xA O (gX 0 O xA O (jE 1 O xA O (gy 2 O xA 0 aj O aV O (gy 3 O xA 1 aK O sizeOf73 O (jf 4 O xA (fun W hW => jv uP O ((Kp.h hW)).get.2 O) (gX 5 O xA O (gX 6 O xA O (jE 7 O xA O (gy 8 O xA 0 aj O aV O (gy 9 O xA 0 aK O sD O (jf 10 O xA (fun W hW => jv mZ O ((Kp.h hW)).get.2 O) (gX 12 O xA O (gX 13 O xA O (mQ 11 O (wR O func126 (zo aei.f2)) ?_))))))))))))))
       rintro u6 w6 H6
       have Gy := V.kp (H6.f12.f12.f12.f12.f12.f12.f12.f12.f12.f12.f12.f12)
       refine fD Gy (fun W hW => (Kp.h hW).right.f11.f11.f11.f11.f11.f11.f11.f11.f11.f10.f11) ?_
       refine iI 14 O Gy (fun _ => oO ((H6).aP) ah bK O O O (by omega)) ?_
       refine mQ 15 O (wR O func199 (OB H6.f4 (fun W HW => fJ.cut ((HW).aP) (by omega) (by omega)))) ?_
       rintro _ w7 ⟨rfl, H7⟩
       have En := V.kp (H7.f12.f12.f12.f12.f12.f12.f12.f12.f12.f12.f12.f12)
       refine iK En (by kernel_rfl) ?_
       refine iI 16 O En (fun _ => dB O) (pq (aX (bM O (aQ (gY O O) (jr O (fun h6 => ?_) (fun h6 => ?_))))))
       ·(try simp only [Z] at h6)
        refine bM O (fA O (aA (dI results185 O ?_)))
        exact ⟨by rw [hc]; rfl, by rw [Fj (by rw [hc]; assumption)]; have HX := H7.f2.right.f11.f11.f11.f11.f11.f11.f11.f11.f9.f10.f11; rw [show Ei s.c.E s.c.at_ (s.way back) ((s.c.L.drop i.toNat).take (j.toNat - i.toNat)) = s.uS i j back from O, Zb (by assumption)] at HX; exact V.jg iZ dL HX⟩
       ·(try simp only [Z] at h6)
        refine fV (bM O (oq O O (bI 29 aj O aS O (aJ (gG 29 H7.f4 aS) ?_))))
        rintro _ w8 H8
        refine dK O (bI 28 aj O ay O (aJ (gG 28 H8 ay) ?_))
        rintro _ w9 H9
        refine iE (kC O (dI results185 O ?_))
        have hc0 : s.uD i j back = 0 := by rw [hc]; assumption
        have hs : s.tH i j back = { s.KY (s.uS i j back).2.1 (s.uS i j back).2.2 with killed := true, cls := 1 } := by unfold bF.tH; rw [if_pos hc0]
        exact ⟨by rw [hc0], by rw [hs]; exact V.jg (s := { s.KY (s.uS i j back).2.1 (s.uS i j back).2.2 with killed := true, cls := 1 }) iZ dL H9.f3.right.f11.f11.f11.f11.f11.f11.f11.f11.f10.f11.f11⟩
      ·skip
       refine bM O (dK O (bI 0 aj O aV O (bI 6 aK O ay O (fC aC O (HD4).get.2 O (aQ (eF O O) (jm O (fun h7 => ?_) (fun h7 => ?_)))))))
       ·(try simp only [Z] at h7)
        refine bn (bn (bn (bn (je O O (iE (C9 (ku O (bM O (jr O (fun h8 => ?_) (fun h8 => ?_))))))))))
        ·(try simp only [Z] at h8)
         refine aB (gU O (bZ ?_))
         refine dD (()) ?_ ?_ ?_
         ·exact (Sub.jW O (by unfold bF.way; simp_all) (Sub.nil _))
         ·exact vC
         ·(try dsimp only)
          first | done | exact rfl
        ·(try simp only [Z] at h8)
         refine dh ?_
         refine dD (()) ?_ ?_ ?_
         ·exact (Sub.jW O (by unfold bF.way; simp_all) (Sub.nil _))
         ·exact vC
         ·(try dsimp only)
          first | done | exact rfl
       ·(try simp only [Z] at h7)
        refine aY (bJ O (aY (dK O (aY (bI 29 aj O aS O (aY (fC cZ O (HD4).get.2 O (fG O O (jr O (fun h9 => ?_) (fun h9 => ?_))))))))))
        ·(try simp only [Z] at h9)
         refine ku O (bM O (jr O (fun h10 => ?_) (fun h10 => ?_)))
         ·(try simp only [Z] at h10)
          refine aB (gU O (bZ ?_))
          refine dD (()) ?_ ?_ ?_
          ·exact (Sub.jW O (by unfold bF.way; simp_all) (Sub.nil _))
          ·exact vC
          ·(try dsimp only)
           first | done | exact rfl
         ·(try simp only [Z] at h10)
          refine dh ?_
          refine dD (()) ?_ ?_ ?_
          ·exact (Sub.jW O (by unfold bF.way; simp_all) (Sub.nil _))
          ·exact vC
          ·(try dsimp only)
           first | done | exact rfl
        ·(try simp only [Z] at h9)
         refine dh ?_
         refine dD (()) ?_ ?_ ?_
         ·exact (Sub.jW O (by unfold bF.way; simp_all) (Sub.nil _))
         ·exact vC
         ·(try dsimp only)
          first | done | exact rfl
theorem Ug (H : V w0 w (eH e s • F)) : iQ prog 186 #[.pointer (some ⟨e, 0, none⟩), .int .i64 i, .int .i64 j, .bool back] w fun v' w' => v' = .int .i64 (s.JQ i j back) ∧ V w0 w' (eH e (s.xu i j back) • F) := by
  refine QD func186 ntmps186 ?_
  refine ku O (aI (bM O (jX O O (bJ O (dS O func185 (Uf H) ?_)))))
  rintro _ w1 ⟨rfl, H1⟩
  refine dZ O (bM O (aQ (gY O O) (jr O (fun h1 => ?_) (fun h1 => ?_))))
  · (try simp only [Z] at h1)
    have hc := h1
    refine bM O (fA O (aA (dI results186 O ?_)))
    exact ⟨by unfold bF.JQ; rw [if_neg hc], by unfold bF.xu; rw [if_neg hc]; have HX := H1; rw [Fj hc] at HX; exact HX⟩
  · (try simp only [Z] at h1)
    have hc := h1
    refine fV (bM O (jX O O (dS O func200 (Ro H1) ?_)))
    rintro _ w2 ⟨rfl, H2⟩
    refine fA O (dI results186 O ?_)
    exact ⟨by unfold bF.JQ; rw [if_pos hc], by unfold bF.xu; rw [if_pos hc]; exact H2⟩
theorem aa4 {E : List (List Int)} (h : ∀ x ∈ E, x.length ≤ 1024) (k : Nat) : (E.getD k []).length ≤ 1024 := by
  rw [List.getD_eq_getElem?_getD]
  cases hk : E[k]? with
  | none => simp
  | some x => exact h x (List.mem_of_getElem? hk)
end
theorem ac4 : (prog.info? 189).map (fun i => (i.zero, i.size, i.bytes)) = some (some (.agg #[.int .i64 0, .slice none 0 0, .slice none 0 0]), 3, 56) := by kernel_rfl
def Yb (c : Nat) (g : List jl) : HP := xQ fun (x : Value × List fM) => fact (x.2.map fM.says = g) • eP c (.cells #[x.1] 80 (0, 0)) • Row 189 3 x.1 x.2.length (x.2.flatMap fM.enc) • nC x.2
section
variable {w0 w : World} {F : HP} {e p c n m : Nat} {s : bF} {i j x : Int} {on : Bool} {v : Value} {g : List jl} {BR es : List fM} {xs : List Value}
theorem DN (H : V w0 w F) (hr : YN w0 F 3 v n xs) (hon : ∀ u ∈ xs, u.oneCell' = true) (hb : n ≤ 1099511627776) :
    iQ prog 122 #[v] w fun v' w' => V w0 w' (Row 189 3 v' n xs • F) := by
  obtain ⟨hlen, a, c, rfl, h2, h3, h4⟩ := hr w H
  refine ji func122 ntmps122 ?_
  refine ku O (aI (bM O (aQ (D6 aW O O) ?_)))
  refine jr O (fun h1 => ?_) (fun h1 => ?_)
  · (try simp only [Z] at h1)
    refine kC O (aA (dI results122 O ?_))
    obtain rfl : a = none := by simpa using h1
    obtain rfl : n = 0 := by
      rcases Nat.eq_zero_or_pos n with h | h
      · exact h
      · obtain ⟨b, o, e, _⟩ := h4 h; cases e
    obtain rfl : xs = [] := List.eq_nil_of_length_eq_zero (by omega)
    exact H.jO none
  · (try simp only [Z] at h1)
    refine fV (iy (kF (MJ H aW dn dY) ?_))
    rintro _ w1 H1
    refine bJ O (kF (iY H1 aW ac4 O O O (hr.under _ H1) hon (by omega) (by omega)) ?_)
    rintro _ w2 H2
    refine fA O (dI results122 O ?_)
    exact H2.of_eq (by rw [Nat.zero_add, List.nil_append])
theorem V.old (H : V w0 w (Yb c g • F)) : ∃ v es, es.map fM.says = g ∧ V w0 w (eP c (.cells #[v] 80 (0, 0)) • Row 189 3 v es.length (es.flatMap fM.enc) • nC es • F) := by
  obtain ⟨⟨v, es⟩, H⟩ := H.oN
  obtain ⟨h, H⟩ := H.flat.fact
  exact ⟨v, es, h, H.of_eq (by simp only [dH])⟩
theorem V.aa5 (h : es.map fM.says = g) (H : V w0 w (eP c (.cells #[v] 80 (0, 0)) • Row 189 3 v es.length (es.flatMap fM.enc) • nC es • F)) : V w0 w (Yb c g • F) :=
  V.jV (v, es) (V.deep (V.mW h (H.of_eq (by simp only [dH]))))
theorem V.ac5 (hg : g = []) (H : V w0 w (eP c (.cells #[.slice none 0 0] 80 (0, 0)) • F)) : V w0 w (Yb c g • F) :=
  V.aa5 (v := .slice none 0 0) (es := []) hg.symm ((H.vk none).of_eq (by unfold Oj; ac_rfl))
theorem V.KZ (hm : m = es.length) (H : V w0 w (Row 189 3 v (BR.length + m) (BR.flatMap fM.enc ++ es.flatMap fM.enc) • nC BR • nC es • F)) : V w0 w (Row 189 3 v (BR ++ es).length ((BR ++ es).flatMap fM.enc) • nC (BR ++ es) • F) := by
  subst hm
  have h1 : V w0 w (nC BR • nC es • Row 189 3 v (BR.length + es.length) (BR.flatMap fM.enc ++ es.flatMap fM.enc) • F) := H.of_eq (by ac_rfl)
  have h2 : V w0 w (nC (BR ++ es) • Row 189 3 v (BR.length + es.length) (BR.flatMap fM.enc ++ es.flatMap fM.enc) • F) := h1.GY (sW (fun I h g => h.app g) _)
  exact h2.swap.of_eq (by rw [List.length_append, List.flatMap_append])
def aa6 (s : bF) (on : Bool) (BR : List fM) (G1 : List (List jl)) : Prop := ig G1 [] + BR.length = ig s.here [] ∧ (∀ e ∈ BR, zA e.says) ∧ s.iO on = G1 ++ [BR.map fM.says ++ s.put]
theorem Zc (hp : s.put ≠ []) (hn : on = false) : aa6 s on [] s.here := by
  subst hn
  refine ⟨by simp, by simp, ?_⟩
  unfold bF.iO
  rw [if_neg hp, if_neg (by decide)]
  rfl
theorem Il : ∀ {G : List (List jl)}, G ≠ [] → (G.dropLast.map List.length).sum + (G.getLastD []).length = (G.map List.length).sum := by
  intro G hG
  have h := List.dropLast_concat_getLast hG
  have h2 : G.getLastD [] = G.getLast hG := by rw [List.getLastD_eq_getLast?, List.getLast?_eq_some_getLast hG]; rfl
  rw [h2]
  conv => rhs; rw [← h]
  simp
theorem Uh (hp : s.put ≠ []) (hn : on = true) (hO : ∀ g ∈ s.here, ∀ e ∈ g, zA e) (h : BR.map fM.says = s.here.getLastD []) : aa6 s on BR s.here.dropLast := by
  subst hn
  have hlen : BR.length = (s.here.getLastD []).length := by rw [← h]; simp
  have hm : ∀ e ∈ BR, e.says ∈ s.here.getLastD [] := fun e he => by rw [← h]; exact List.mem_map.2 ⟨e, he, rfl⟩
  unfold aa6 bF.iO
  rw [if_neg hp, if_pos rfl]
  by_cases h0 : s.here = []
  · rw [h0] at h hlen hm
    have : BR = [] := List.eq_nil_of_length_eq_zero (by simpa using hlen)
    subst this
    rw [h0]
    exact ⟨by simp, by simp, rfl⟩
  · have h2 : s.here.getLastD [] = s.here.getLast h0 := by rw [List.getLastD_eq_getLast?, List.getLast?_eq_some_getLast h0]; rfl
    refine ⟨?_, fun e he => hO _ (List.getLast_mem h0) _ (h2 ▸ hm e he), ?_⟩
    · have := Il h0
      show (s.here.dropLast.map List.length).sum + 0 + BR.length = (s.here.map List.length).sum + 0
      rw [hlen]; omega
    · rw [List.getLast?_eq_some_getLast h0, h, h2]
theorem MZ (G : List (List jl)) : Gv G [] = G.reverse := by unfold Gv pG; rw [if_pos rfl]
theorem WA (G : List (List jl)) : (Gv G []).getD 0 [] = G.getLastD [] := by
  rw [MZ, List.getD_eq_getElem?_getD, List.getLastD_eq_getLast?]
  congr 1
  cases G.eq_nil_or_concat with
  | inl h => subst h; rfl
  | inr h => obtain ⟨L, b, rfl⟩ := h; simp
theorem aa7 {G : List (List jl)} (h : UOk G [] 0) : (∀ g ∈ Gv G [], ∀ e ∈ g, EB e) ∧ ∀ g ∈ Gv G [], g.length ≤ 16384 := by
  rw [MZ]
  refine ⟨fun g hg => h.2.2.2.2.1 g (List.mem_reverse.1 hg), fun g hg => ?_⟩
  have h1 := KX (List.mem_reverse.1 hg)
  have h2 := h.2.1
  unfold ig at h2
  simp at h2; omega
theorem Rq (G : List (List jl)) (N : List jl) : aeY G N (0 + 1) = pG G N ∧ aeZ N (0 + 1) = [] ∧ acU (0 + 1) = 0 := ⟨if_pos rfl, if_pos rfl, by unfold acU; rw [if_neg (by decide)]; rfl⟩
theorem PY (G : List (List jl)) : XR G [] = G.dropLast ∧ XT G [] = [] ∧ XU G [] 0 = 0 := by
  unfold XR XT XU pG
  by_cases h : G.length + ([] : List jl).length = 0
  · have : G = [] := List.eq_nil_of_length_eq_zero (by simpa using h)
    subst this
    simp
  · rw [if_neg h, if_neg h, if_neg h, if_pos rfl]; simp
theorem Dq {s : bF} (h : s.put = []) : s.dQ on = s := by unfold bF.dQ; rw [if_pos h]
theorem nJ {s : bF} (h : s.put ≠ []) : s.dQ on = { s.lY (s.iO on) with put := [] } := by unfold bF.dQ; rw [if_neg h]
theorem Io (G : List (List jl)) (g : List jl) : ig (G ++ [g]) [] = ig G [] + g.length := by unfold ig; simp
theorem Na (h : nT s) {G1 : List (List jl)} (hF : aa6 s on BR G1) (hp : s.put ≠ []) (hG : ∀ g ∈ G1, ∀ e ∈ g, zA e) : nT (s.dQ on) := by
  rw [nJ hp]
  obtain ⟨h1, h2, h3, h4, h5, h6⟩ := h
  obtain ⟨f1, f2, f3⟩ := hF
  refine ⟨h1, h2, h3, by simp, ?_, ?_⟩
  · show ig (xk s.c.un s.c.place (s.iO on) s.c.place) [] ≤ 16384
    rw [iL, f3, Io]
    have := qF s.here s.put
    simp; omega
  · intro k g hg e he
    have hg' : g ∈ xk s.c.un s.c.place (s.iO on) k := hg
    by_cases hk : k = s.c.place
    · subst hk
      rw [iL, f3] at hg'
      rcases List.mem_append.1 hg' with hg' | hg'
      · exact hG g hg' e he
      · rw [List.mem_singleton.1 hg'] at he
        rcases List.mem_append.1 he with he | he
        · obtain ⟨q, hq, rfl⟩ := List.mem_map.1 he; exact f2 q hq
        · exact h4 e he
    · rw [xq _ _ hk] at hg'; exact h6 k g hg' e he
theorem Jm {es : List fM} {k : Nat} (hk : k < es.length) : (es.take (k + 1)).map fM.says = (es.take k).map fM.says ++ [(es.getD k default).says] := by
  rw [List.take_succ_eq_append_getElem hk, List.map_append, List.getD_eq_getElem?_getD, List.getElem?_eq_getElem hk]; rfl
theorem uq (H : V w0 w (eH e s • F)) : iQ prog 84 #[.pointer (some ⟨e, 0, none⟩), .bool on] w fun _ w' => V w0 w' (eH e (s.dQ on) • F) := by
  refine qc func84 ntmps84 ?_
  refine aI (aI ?_)
  obtain ⟨zB, zC, zD, zF, zG, zH, zI, zJ, xM, wu, wz, wB, wC, wE, wF, wG, wH, wI, wJ, wK, iZ, dL, lU, jo⟩ := (H).JV
  have hput : ig s.here s.put ≤ 16384 := iZ.2.2.2.2.1
  have hsp := qF s.here s.put
  have hO : ∀ g ∈ s.here, ∀ x ∈ g, zA x := iZ.2.2.2.2.2 s.c.place
  have hPO : ∀ x ∈ xM, zA x.says := fun x hx => iZ.2.2.2.1 _ (by rw [← dL]; exact List.mem_map.2 ⟨x, hx, rfl⟩)
  have aju := (jo.f10).Eo
  refine aB (oq O O (bI 33 aj O bU O (fC aW O (jo).get.2 O (aQ (kX ((jo.f9).aP) aW O) (aQ (eF O O) (jr O (fun h1 => ?_) (fun h1 => ?_)))))))
  · (try simp only [Z] at h1)
    refine lQ (aA (we0 results84 ?_))
    rw [Dq (List.eq_nil_of_length_eq_zero (by omega))]
    exact V.jg iZ dL jo.f11.f11.f11.f11.f11.f11.f11.f11.f11.f11.f11
  · (try simp only [Z] at h1)
    have hp : s.put ≠ [] := by rintro hz; rw [hz] at h1; simp at h1
    refine fV (bM O (dS O func134 (ED jo.f6.f5.f3) ?_))
    rintro _ w2 ⟨lp2, rfl, H2⟩
    refine dZ O (iy (kF (iR (l := [_]) H2 oG O) ?_))
    rintro _ w3 ⟨b3, rfl, H3⟩
    refine rP (aI ?_)
    obtain ⟨R4, hR4, HR4⟩ := V.af8 (H3.f2.f2)
    refine aB (bJ O (jr O (fun h2 => ?_) (fun h2 => ?_)))
    · (try simp only [Z] at h2)
      have hn : on = true := h2
      refine aI (bM O (dS O func135 (KF HR4.f2) ?_))
      rintro _ w5 ⟨bG5, rfl, H5⟩
      refine iE (bf ?_)
      obtain ⟨_, _, _, _, k1, _⟩ := (H5.f2).Am
      obtain ⟨hB, hL⟩ := aa7 k1
      have HF0 := V.mW (q := (0 : Nat) = 0) rfl H5
      obtain ⟨R6, hR6, HR6⟩ := V.Ls (HF0.f4.f2.f3)
      refine Di O (TS bG5 hB hL) (fun j => fact (j = 0) • eP b3 (.cells #[.slice none 0 0] 80 (0, 0)) • R6) (fact False) (fun id => if id = 0 then Yb b3 (s.here.getLastD []) • R6 else fact False) (HR6.f3.f3.f3.f3.f3.f3.comm) (by rfl) ?_ ?_ ?_ ?_
      · rintro l7 j aeW vs7 A7 ⟨u1, fs1, agW, rfl, rfl⟩ G7 w7 H7
        try simp only [dH, qL, zi] at H7
        refine ⟨O, ?_⟩
        dsimp only [V3]
        have HQ := (H7).edL
        obtain rfl : j = 0 := (HQ.f3).fact.1
        have hon := (HQ.f2).Eo
        have hlen1 : fs1.length ≤ 16384 := by
          have h9 := hL _ (zW (d := []) aeW)
          rw [← agW] at h9
          simpa using h9
        refine aB (gU O (bZ ?_))
        refine VZ (HQ.g5) ?_
        intro G8 w8 H8
        try simp only [dH] at H8
        refine bf (bM O (dS O func122 (DN H8 (fun W HW => (HW).aP) hon (by omega)) ?_))
        rintro u9 w9 H9
        refine aJ (gB 0 (l' := [_]) H9.f5 bU O O (by first | rfl | exact Rd.one ((H9).aP)) O O) ?_
        rintro _ w10 pz
        refine iE (dR ?_)
        refine FU (by decide) ?_
        refine aaF ?_
        rw [if_pos rfl]
        exact (V.aa5 (agW.trans (WA _)) pz.f3.right.f4.right.f3.f3.f3).deep
      · rintro D11 FM rY
        have aas := rY.ed
        try simp only [dH, qL, zi] at aas
        have agX := aas.XD
        have hz := (agX.f3).fact.1
        rw [MZ, List.length_reverse] at hz
        have hg0 : s.here.getLastD [] = [] := by show (s.c.un s.c.place).getLastD [] = []; rw [List.eq_nil_of_length_eq_zero hz]; rfl
        have Rh := agX.f4
        have Ri := V.ac5 hg0 Rh
        have ac6 := Ri.f4.right
        subst hR6
        subst hR4
        refine aH (aX (aB (bJ O (dS O func136 (F5 ac6.f4) ?_))))
        rintro _ QI ⟨u15, ajU, rfl, ajv, yA⟩
        have aiw := yA.right
        have VY := aiw.right
        have Wy := VY.f4.right
        obtain ⟨h9a, h9b, h9c⟩ := PY (s.c.un s.c.place)
        have HX := Wy
        rw [h9a, h9b, h9c] at HX
        obtain ⟨ov, BR, afd, HO⟩ := (HX.f2).old
        have hF := Uh hp hn hO afd
        have hG1 : ∀ g ∈ s.here.dropLast, ∀ x ∈ g, zA x := fun g hg => hO g (List.dropLast_subset _ hg)
        obtain ⟨G1, afe⟩ : ∃ q, q = (s.c.un s.c.place).dropLast := ⟨_, rfl⟩
        rw [show s.here.dropLast = (s.c.un s.c.place).dropLast from rfl] at hF hG1
        have Zd := HO
        rw [← afe] at hF hG1 Zd
        refine rP ?_
        obtain ⟨hF1, hF2, hF3⟩ := hF
        have hl1 : BR.length ≤ 16384 := by omega
        have hl2 : s.put.length ≤ 16384 := by omega
        refine aB (bJ O (dS O func137 (Ap Zd.f4 (by omega)) ?_))
        rintro _ w19 ⟨rfl, Ef⟩
        refine rP (aI ?_)
        have PX := Ef.drew
        have vG := V.kp (PX.f16.f16.f16.f16.f16.f16.f16.f16.f16.f16.f16.f16.f16.f16.f16.f16)
        refine uN [0, 4] vG O (jf 0 O vG (fun W hW => jv aW O ((Kp.h hW).f2).get.2 O) (gX 1 O vG O (jE 2 O vG O (gy 3 O vG 33 aj O bU O (jf 4 O vG (fun W hW => jv aW O ((Kp.h hW).f7).get.2 O) (gX 7 O vG O (mQ 5 O (iY PX.f3 aW BP O O O ((PX.f14).aP) (by assumption) (by omega) (by omega)) ?_)))))))
        rintro l20 w20 E8
        have Ez := V.kp (E8.f16.f16.f16.f16.f16.f16.f16.f16.f16.f16.f16.f16.f16.f16.f16.f16)
        refine iK Ez (by kernel_rfl) ?_
        have aa8 := E8.f15.f5.f3
        have Ze := V.KZ lU.symm aa8
        obtain ⟨AE, Yc⟩ : ∃ q, q = BR ++ xM := ⟨_, rfl⟩
        have HA := Ze
        rw [← Yc] at HA
        have hAl : AE.length = BR.length + s.put.length := by rw [Yc, List.length_append, lU]
        have hAs : AE.map fM.says = BR.map fM.says ++ s.put := by rw [Yc, List.map_append, dL]
        have hAO : ∀ x ∈ AE, zA x.says := fun x hx => by
          rw [Yc] at hx
          rcases List.mem_append.1 hx with hx | hx
          · exact hF2 x hx
          · exact hPO x hx
        refine iI 6 O Ez (fun _ => kX ((HA).aP) aW O) (pq (aX (bf ?_)))
        obtain ⟨R23, aix, aiy⟩ := V.Ls (HA.f2.f2.f3)
        refine iC [(0, _), (4, _), (32, _), (33, _)] (fun (i : Nat) => [(34, .int .i64 (i : Int))]) (fun (i : Nat) W => i ≤ AE.length ∧ V w0 W (jP lp2 G1 ((AE.take i).map fM.says) (0 + 1) • Row 189 3 l20 AE.length (AE.flatMap fM.enc) • nC AE • R23)) (fun (i : Nat) => AE.length - i) (0) JF mO ⟨by omega, aiy⟩ ?_
        rintro i w24 ⟨hi, HL⟩
        dsimp only [List.cons_append, List.nil_append]
        refine iy (aQ (gW O O) (rP (aZ O (fun h3 => ?_) (fun h3 => ?_))))
        · (try simp only [Z] at h3)
          refine fV (aI (bf (iy ?_)))
          obtain ⟨ajV, ajW, ajX, aiz⟩ := Rd.rW ((HL.f2).aP) (by omega)
          cases aiz
          refine aQ (dM aW dn O O (by omega)) (aQ (vP (ys := [_, _, _]) ((HL.f2).aP) (by omega) bD O dn O (xY fM.Fa (by omega) default) O) ?_)
          have hkl : i < AE.length := by omega
          have hx : zA (AE.getD i default).says := hAO _ (by rw [List.getD_eq_getElem?_getD, List.getElem?_eq_getElem hkl]; exact List.getElem_mem hkl)
          have hx1 : (AE.getD i default).dl.length ≤ 1024 := hx.2.2.1
          have hx2 : (AE.getD i default).il.length ≤ 1024 := hx.2.2.2
          refine kF (iR (l := [_, _, _]) HL dY O) ?_
          rintro _ w25 ⟨b25, rfl, Sz⟩
          refine aJ (dG 0 (l' := [_, _, _]) (us := [_, _, _]) Sz dn O O O (aG (bg (by first | rfl | exact Rd.one (((Sz.f4).sJ hkl).1)) (bg (by first | rfl | exact Rd.one (((Sz.f4).sJ hkl).2)) bW))) O O) ?_
          rintro _ w26 Tf
          refine iE (aB (bJ O (aQ (dV bD O dn O O (Tf).get.2) (dS O func138 (Dh Tf.f2 (fun W HW => ((HW.f3).sJ hkl).1) (fun W HW => ((HW.f3).sJ hkl).2) (by omega) (by omega)) ?_))))
          rintro _ w27 ⟨rfl, KR⟩
          have hadd : yX G1 ((AE.take i).map fM.says) (AE.getD i default).a (AE.getD i default).dl (AE.getD i default).il = 0 := by
            have hx3 : 0 < (AE.getD i default).dl.length + (AE.getD i default).il.length := hx.2.1
            have hx4 : 0 ≤ (AE.getD i default).a := hx.1
            have hx5 := qF G1 ((AE.take i).map fM.says)
            rw [List.length_map, List.length_take] at hx5
            unfold yX
            rw [if_neg (by omega), if_neg (by omega)]
          have HA2 := KR
          rw [KT hadd (by decide), KU hadd (by decide)] at HA2
          refine bZ (aH (aX (aB (aQ (fQ O O (by omega)) (bJ O (bZ ?_))))))
          refine dX (i + 1) ?_ ?_ ?_ ?_
          · exact mO
          · exact JF
          · (try dsimp only)
            first | done | exact ⟨by omega, by rw [Jm hkl]; exact HA2.f2.right.f3.f3.f3⟩
          · (try dsimp only); omega
        · (try simp only [Z] at h3)
          refine dR (aO ?_)
          have hil : i = AE.length := by omega
          have HB := HL
          rw [hil, List.take_length] at HB
          subst aix
          refine aO (bG (aX (bM O (dS O func139 (Dk HB) ?_))))
          rintro _ w28 ⟨rfl, H28⟩
          obtain ⟨h8a, h8b, h8c⟩ := Rq G1 (AE.map fM.says)
          have HC := H28
          rw [h8a, h8b, h8c, hAs, vT (by intro hz; exact hp (List.append_eq_nil_iff.1 hz).2), ← hF3] at HC
          have ae7 := HC.f6
          have ae8 := V.CG ae7
          refine iE (aB (oq O O (bI 33 aj O bU O (aJ (gG 33 ae8.f6 bU) ?_))))
          rintro _ w31 Vo
          refine bZ ?_
          refine KL (.inr O) (Vo.f6) (fun w32 PE => ?_)
          refine ⟨_, aeJ results84, ?_⟩
          rw [nJ hp]
          exact V.MV (s := { s.lY (s.iO on) with put := [] }) (nJ hp ▸ Na iZ ⟨hF1, hF2, hF3⟩ hp hG1) O PE.f3.right.f3.right.f3.right.f9.right.f9.f9.f9.f5.f9.f7.f9.f9.f9
      · rintro D w H; exact absurd H.swap.fact.1 id
      · rintro id D33 w33 Vp
        refine Decidable.byCases (fun hid : id = 0 => ?_) (fun hid => by rw [if_neg hid] at Vp; exact absurd Vp.swap.fact.1 fun h => h)
        subst hid
        rw [if_pos rfl] at Vp
        have agY := Vp.ed
        try simp only [dH, qL, zi] at agY
        have aiA := agY.XD
        subst hR6
        subst hR4
        refine bG (aX (aB (bJ O (dS O func136 (F5 aiA.f4) ?_))))
        rintro _ w34 ⟨u34, ajY, rfl, ajw, X6⟩
        have aiB := X6.right
        have aiC := aiB.right
        have aff := aiC.f3.right
        obtain ⟨h9a, h9b, h9c⟩ := PY (s.c.un s.c.place)
        have HX := aff
        rw [h9a, h9b, h9c] at HX
        obtain ⟨ov, BR, afd, HO⟩ := (HX.f3).old
        have hF := Uh hp hn hO afd
        have hG1 : ∀ g ∈ s.here.dropLast, ∀ x ∈ g, zA x := fun g hg => hO g (List.dropLast_subset _ hg)
        obtain ⟨G1, afe⟩ : ∃ q, q = (s.c.un s.c.place).dropLast := ⟨_, rfl⟩
        rw [show s.here.dropLast = (s.c.un s.c.place).dropLast from rfl] at hF hG1
        have Zd := HO
        rw [← afe] at hF hG1 Zd
        refine rP ?_
        obtain ⟨hF1, hF2, hF3⟩ := hF
        have hl1 : BR.length ≤ 16384 := by omega
        have hl2 : s.put.length ≤ 16384 := by omega
        refine aB (bJ O (dS O func137 (Ap Zd.f4 (by omega)) ?_))
        rintro _ w38 ⟨rfl, Wu⟩
        refine rP (aI ?_)
        have aa9 := Wu.drew
        have GI := V.kp (aa9.f16.f16.f16.f16.f16.f16.f16.f16.f16.f16.f16.f16.f16.f16.f16.f16)
        refine uN [0, 4] GI O (jf 0 O GI (fun W hW => jv aW O ((Kp.h hW).f2).get.2 O) (gX 1 O GI O (jE 2 O GI O (gy 3 O GI 33 aj O bU O (jf 4 O GI (fun W hW => jv aW O ((Kp.h hW).f7).get.2 O) (gX 7 O GI O (mQ 5 O (iY aa9.f3 aW BP O O O ((aa9.f14).aP) (by assumption) (by omega) (by omega)) ?_)))))))
        rintro l39 w39 H39
        have Ui := V.kp (H39.f16.f16.f16.f16.f16.f16.f16.f16.f16.f16.f16.f16.f16.f16.f16.f16)
        refine iK Ui (by kernel_rfl) ?_
        have aiD := H39.f15.f5.f3
        have aiE := V.KZ lU.symm aiD
        obtain ⟨AE, Yc⟩ : ∃ q, q = BR ++ xM := ⟨_, rfl⟩
        have HA := aiE
        rw [← Yc] at HA
        have hAl : AE.length = BR.length + s.put.length := by rw [Yc, List.length_append, lU]
        have hAs : AE.map fM.says = BR.map fM.says ++ s.put := by rw [Yc, List.map_append, dL]
        have hAO : ∀ x ∈ AE, zA x.says := fun x hx => by
          rw [Yc] at hx
          rcases List.mem_append.1 hx with hx | hx
          · exact hF2 x hx
          · exact hPO x hx
        refine iI 6 O Ui (fun _ => kX ((HA).aP) aW O) (pq (aX (bf ?_)))
        obtain ⟨R42, aiF, aiG⟩ := V.Ls (HA.f2.f2.f3)
        refine iC [(0, _), (4, _), (32, _), (33, _)] (fun (i : Nat) => [(34, .int .i64 (i : Int))]) (fun (i : Nat) W => i ≤ AE.length ∧ V w0 W (jP lp2 G1 ((AE.take i).map fM.says) (0 + 1) • Row 189 3 l39 AE.length (AE.flatMap fM.enc) • nC AE • R42)) (fun (i : Nat) => AE.length - i) (0) JF mO ⟨by omega, aiG⟩ ?_
        rintro i w43 ⟨hi, HL⟩
        dsimp only [List.cons_append, List.nil_append]
        refine iy (aQ (gW O O) (rP (aZ O (fun h4 => ?_) (fun h4 => ?_))))
        · (try simp only [Z] at h4)
          refine fV (aI (bf (iy ?_)))
          obtain ⟨ajZ, aj0, aj1, aiH⟩ := Rd.rW ((HL.f2).aP) (by omega)
          cases aiH
          refine aQ (dM aW dn O O (by omega)) (aQ (vP (ys := [_, _, _]) ((HL.f2).aP) (by omega) bD O dn O (xY fM.Fa (by omega) default) O) ?_)
          have hkl : i < AE.length := by omega
          have hx : zA (AE.getD i default).says := hAO _ (by rw [List.getD_eq_getElem?_getD, List.getElem?_eq_getElem hkl]; exact List.getElem_mem hkl)
          have hx1 : (AE.getD i default).dl.length ≤ 1024 := hx.2.2.1
          have hx2 : (AE.getD i default).il.length ≤ 1024 := hx.2.2.2
          refine kF (iR (l := [_, _, _]) HL dY O) ?_
          rintro _ w44 ⟨b44, rfl, H44⟩
          refine aJ (dG 0 (l' := [_, _, _]) (us := [_, _, _]) H44 dn O O O (aG (bg (by first | rfl | exact Rd.one (((H44.f4).sJ hkl).1)) (bg (by first | rfl | exact Rd.one (((H44.f4).sJ hkl).2)) bW))) O O) ?_
          rintro _ w45 Vq
          refine iE (aB (bJ O (aQ (dV bD O dn O O (Vq).get.2) (dS O func138 (Dh Vq.f2 (fun W HW => ((HW.f3).sJ hkl).1) (fun W HW => ((HW.f3).sJ hkl).2) (by omega) (by omega)) ?_))))
          rintro _ w46 ⟨rfl, H46⟩
          have hadd : yX G1 ((AE.take i).map fM.says) (AE.getD i default).a (AE.getD i default).dl (AE.getD i default).il = 0 := by
            have hx3 : 0 < (AE.getD i default).dl.length + (AE.getD i default).il.length := hx.2.1
            have hx4 : 0 ≤ (AE.getD i default).a := hx.1
            have hx5 := qF G1 ((AE.take i).map fM.says)
            rw [List.length_map, List.length_take] at hx5
            unfold yX
            rw [if_neg (by omega), if_neg (by omega)]
          have HA2 := H46
          rw [KT hadd (by decide), KU hadd (by decide)] at HA2
          refine bZ (aH (aX (aB (aQ (fQ O O (by omega)) (bJ O (bZ ?_))))))
          refine dX (i + 1) ?_ ?_ ?_ ?_
          · exact mO
          · exact JF
          · (try dsimp only)
            first | done | exact ⟨by omega, by rw [Jm hkl]; exact HA2.f2.right.f3.f3.f3⟩
          · (try dsimp only); omega
        · (try simp only [Z] at h4)
          refine dR (aO ?_)
          have hil : i = AE.length := by omega
          have HB := HL
          rw [hil, List.take_length] at HB
          subst aiF
          refine aO (bG (aX (bM O (dS O func139 (Dk HB) ?_))))
          rintro _ w47 ⟨rfl, H47⟩
          obtain ⟨h8a, h8b, h8c⟩ := Rq G1 (AE.map fM.says)
          have HC := H47
          rw [h8a, h8b, h8c, hAs, vT (by intro hz; exact hp (List.append_eq_nil_iff.1 hz).2), ← hF3] at HC
          have aiI := HC.f6
          have aiJ := V.CG aiI
          refine iE (aB (oq O O (bI 33 aj O bU O (aJ (gG 33 aiJ.f6 bU) ?_))))
          rintro _ w50 H50
          refine bZ ?_
          refine KL (.inr O) (H50.f6) (fun w51 H51 => ?_)
          refine ⟨_, aeJ results84, ?_⟩
          rw [nJ hp]
          exact V.MV (s := { s.lY (s.iO on) with put := [] }) (nJ hp ▸ Na iZ ⟨hF1, hF2, hF3⟩ hp hG1) O H51.f3.right.f3.right.f3.right.f9.right.f9.f9.f9.f5.f9.f7.f9.f9.f9
    · (try simp only [Z] at h2)
      have hn : on = false := h2
      obtain ⟨ov, BR, G1, hF, hG1, HF⟩ : ∃ ov BR G1, aa6 s on BR G1 ∧ (∀ g ∈ G1, ∀ x ∈ g, zA x) ∧ V w0 w3 (eP b3 (.cells #[ov] 80 (0, 0)) • Row 189 3 ov BR.length (BR.flatMap fM.enc) • nC BR • jP lp2 G1 [] 0 • R4) :=
        ⟨.slice none 0 0, [], s.here, Zc hp hn, hO, (V.vk HR4.f2.f2 none).of_eq (by unfold Oj; ac_rfl)⟩
      subst hR4
      refine fV (aI ?_)
      obtain ⟨hF1, hF2, hF3⟩ := hF
      have hl1 : BR.length ≤ 16384 := by omega
      have hl2 : s.put.length ≤ 16384 := by omega
      refine aB (bJ O (dS O func137 (Ap HF.f4 (by omega)) ?_))
      rintro _ w52 ⟨rfl, H52⟩
      refine rP (aI ?_)
      have abb := H52.drew
      have GK := V.kp (abb.f15.f15.f15.f15.f15.f15.f15.f15.f15.f15.f15.f15.f15.f15.f15)
      refine uN [0, 4] GK O (jf 0 O GK (fun W hW => jv aW O ((Kp.h hW).f2).get.2 O) (gX 1 O GK O (jE 2 O GK O (gy 3 O GK 33 aj O bU O (jf 4 O GK (fun W hW => jv aW O ((Kp.h hW).f6).get.2 O) (gX 7 O GK O (mQ 5 O (iY abb.f3 aW BP O O O ((abb.f13).aP) (by assumption) (by omega) (by omega)) ?_)))))))
      rintro l53 w53 H53
      have aej := V.kp (H53.f15.f15.f15.f15.f15.f15.f15.f15.f15.f15.f15.f15.f15.f15.f15)
      refine iK aej (by kernel_rfl) ?_
      have aiK := H53.f14.f5.f3
      have aiL := V.KZ lU.symm aiK
      obtain ⟨AE, Yc⟩ : ∃ q, q = BR ++ xM := ⟨_, rfl⟩
      have HA := aiL
      rw [← Yc] at HA
      have hAl : AE.length = BR.length + s.put.length := by rw [Yc, List.length_append, lU]
      have hAs : AE.map fM.says = BR.map fM.says ++ s.put := by rw [Yc, List.map_append, dL]
      have hAO : ∀ x ∈ AE, zA x.says := fun x hx => by
        rw [Yc] at hx
        rcases List.mem_append.1 hx with hx | hx
        · exact hF2 x hx
        · exact hPO x hx
      refine iI 6 O aej (fun _ => kX ((HA).aP) aW O) (pq (aX (bf ?_)))
      obtain ⟨R56, aiM, aiN⟩ := V.Ls (HA.f2.f2.f3)
      refine iC [(0, _), (4, _), (32, _), (33, _)] (fun (i : Nat) => [(34, .int .i64 (i : Int))]) (fun (i : Nat) W => i ≤ AE.length ∧ V w0 W (jP lp2 G1 ((AE.take i).map fM.says) (0 + 1) • Row 189 3 l53 AE.length (AE.flatMap fM.enc) • nC AE • R56)) (fun (i : Nat) => AE.length - i) (0) JF mO ⟨by omega, aiN⟩ ?_
      rintro i w57 ⟨hi, HL⟩
      dsimp only [List.cons_append, List.nil_append]
      refine iy (aQ (gW O O) (rP (aZ O (fun h5 => ?_) (fun h5 => ?_))))
      · (try simp only [Z] at h5)
        refine fV (aI (bf (iy ?_)))
        obtain ⟨aj2, aj3, aj4, aiO⟩ := Rd.rW ((HL.f2).aP) (by omega)
        cases aiO
        refine aQ (dM aW dn O O (by omega)) (aQ (vP (ys := [_, _, _]) ((HL.f2).aP) (by omega) bD O dn O (xY fM.Fa (by omega) default) O) ?_)
        have hkl : i < AE.length := by omega
        have hx : zA (AE.getD i default).says := hAO _ (by rw [List.getD_eq_getElem?_getD, List.getElem?_eq_getElem hkl]; exact List.getElem_mem hkl)
        have hx1 : (AE.getD i default).dl.length ≤ 1024 := hx.2.2.1
        have hx2 : (AE.getD i default).il.length ≤ 1024 := hx.2.2.2
        refine kF (iR (l := [_, _, _]) HL dY O) ?_
        rintro _ w58 ⟨b58, rfl, H58⟩
        refine aJ (dG 0 (l' := [_, _, _]) (us := [_, _, _]) H58 dn O O O (aG (bg (by first | rfl | exact Rd.one (((H58.f4).sJ hkl).1)) (bg (by first | rfl | exact Rd.one (((H58.f4).sJ hkl).2)) bW))) O O) ?_
        rintro _ w59 H59
        refine iE (aB (bJ O (aQ (dV bD O dn O O (H59).get.2) (dS O func138 (Dh H59.f2 (fun W HW => ((HW.f3).sJ hkl).1) (fun W HW => ((HW.f3).sJ hkl).2) (by omega) (by omega)) ?_))))
        rintro _ w60 ⟨rfl, H60⟩
        have hadd : yX G1 ((AE.take i).map fM.says) (AE.getD i default).a (AE.getD i default).dl (AE.getD i default).il = 0 := by
          have hx3 : 0 < (AE.getD i default).dl.length + (AE.getD i default).il.length := hx.2.1
          have hx4 : 0 ≤ (AE.getD i default).a := hx.1
          have hx5 := qF G1 ((AE.take i).map fM.says)
          rw [List.length_map, List.length_take] at hx5
          unfold yX
          rw [if_neg (by omega), if_neg (by omega)]
        have HA2 := H60
        rw [KT hadd (by decide), KU hadd (by decide)] at HA2
        refine bZ (aH (aX (aB (aQ (fQ O O (by omega)) (bJ O (bZ ?_))))))
        refine dX (i + 1) ?_ ?_ ?_ ?_
        · exact mO
        · exact JF
        · (try dsimp only)
          first | done | exact ⟨by omega, by rw [Jm hkl]; exact HA2.f2.right.f3.f3.f3⟩
        · (try dsimp only); omega
      · (try simp only [Z] at h5)
        refine dR (aO ?_)
        have hil : i = AE.length := by omega
        have HB := HL
        rw [hil, List.take_length] at HB
        subst aiM
        refine aO (bG (aX (bM O (dS O func139 (Dk HB) ?_))))
        rintro _ w61 ⟨rfl, H61⟩
        obtain ⟨h8a, h8b, h8c⟩ := Rq G1 (AE.map fM.says)
        have HC := H61
        rw [h8a, h8b, h8c, hAs, vT (by intro hz; exact hp (List.append_eq_nil_iff.1 hz).2), ← hF3] at HC
        have aiP := HC.f5
        have aiQ := V.CG aiP
        refine iE (aB (oq O O (bI 33 aj O bU O (aJ (gG 33 aiQ.f5 bU) ?_))))
        rintro _ w64 H64
        refine bZ (mX (.inr O) results84 ?_)
        rw [nJ hp]
        exact V.MV (s := { s.lY (s.iO on) with put := [] }) (nJ hp ▸ Na iZ ⟨hF1, hF2, hF3⟩ hp hG1) O H64.f3.right.f3.right.f3.right.f9.right.f9.f9.f9.f5.f9.f7.f9.f9.f9
end
end Go.Proofs.YtpdeedplgmbopaaGreatDoor
end
