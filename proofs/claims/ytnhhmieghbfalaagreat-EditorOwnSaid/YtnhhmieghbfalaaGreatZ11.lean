import Derived.Test.YtnhhmieghbfalaaGreatZ4
import Derived.Test.YtnhhmieghbfalaaGreatZ10
set_option linter.unusedSimpArgs false
set_option linter.unusedVariables false
/- Texts of mine, joined, their names in short: EdK EdF. -/
section
namespace Go.Proofs.YtnhhmieghbfalaaGreat
open Go.RowKit
open _root_.Go.Proofs.Tryz
theorem WH {E : List (List Int)} {a : Nat} {way : Int} {l : List Int} (h : (jO E a way l).1 ≠ 0) : (jO E a way l).2 = (E, a) := by
  unfold jO at *
  repeat' split at h
  all_goals first | (simp at h; done) | skip
  all_goals (repeat' (first | rw [if_pos (by assumption)] | rw [if_neg (by assumption)])) <;> rfl
theorem OB {s : bP} {i j : Int} {back : Bool} (h : (s.qU i j back).1 ≠ 0) : (s.qU i j back).2 = (s.c.E, s.c.at_) := WH h
theorem tu {s : bP} {i j : Int} {back : Bool} (h : s.mX i j back ≠ 0) : s.qB i j back = s := by unfold bP.qB; rw [if_neg h]
section
variable {w0 w : World} {F : HP} {e p h pr : Nat} {s : bP} {i j x : Int} {back : Bool} {v : Value} {l : List Int}
theorem RJ (H : V w0 w (iL e s • F)) : iQ prog 36 #[.pointer (some ⟨e, 0, none⟩), .int .i64 i, .int .i64 j, .bool back] w fun v' w' => v' = .int .i64 (s.mX i j back) ∧ V w0 w' (iL e (s.qB i j back) • F) := by
 refine Hg func36 ntmps36 ?_
 refine kW O (aO (bY O (fO O func32 (sQ H) ?_)))
 rintro _ _ ⟨rfl, rfl⟩
 refine jZ O (bY O (aZ (fF O O) (kE O (fun h1 => ?_) (fun h1 => ?_))))
 ·(try simp only [aK] at h1)
  obtain ⟨hin, hpe⟩ := JQ h1
  refine bY O (jP O (aV (gy results36 O ?_)))
  rw [hpe]
  exact ⟨by simp [bP.mX, bP.qB, hin], by rw [show s.qB i j back = s from by simp [bP.mX, bP.qB, hin]]; exact H⟩
 ·(try simp only [aK] at h1)
  have hin := Gg h1
  refine gX (aO (aO ?_))
  obtain ⟨yD, yE, yF, yG, yH, yI, yJ, yK, wI, uY, uZ, vk, vw, vC, vF, vG, vH, vI, vJ, vK, iI, dK, mF, iJ⟩ := (H).JO
  have hL : s.c.L.length ≤ 1024 := by obtain ⟨a, c, xs, f, t, h1, h2, h3, h4, h5, h6, h7, hc1, hc2, hl, H1⟩ := (iJ.f2).buf; exact h4
  refine aB (dn O (aZ (iE O O) (qG O (fun h2 => ?_) (fun h2 => ?_))))
  ·(try simp only [aK] at h2)
   refine cZ (cZ (cZ (cZ (cZ (cZ (cZ (cZ (nX O O (dn O (cZ (cZ (cZ (nX O O (dn O (cZ (cZ (cZ (cZ (cZ (cZ (cZ (cZ (nX O O (iF (Ko (nM O (aV (gy results36 O ?_))))))))))))))))))))))))))))
   have hb : s.nT i j := by unfold bP.nT; omega
   have hc : s.mX i j back = 70 := by unfold bP.mX; rw [if_pos hin, if_pos hb]
   exact ⟨by rw [hc], by rw [tu (by rw [hc]; decide)]; exact V.iH iI dK iJ.f11.f11.f11.f11.f11.f11.f11.f11.f11.f11.f11⟩
  ·(try simp only [aK] at h2)
   refine bK (dn O (bK (dn O (bK (dA O (bK (Z 0 aj O aU O (bK (Z 0 aJ O nJ O (bK (dL jy O (iJ).get.2 O (bK (fO O func41 (uM iJ.f2) ?_)))))))))))))
   rintro _ w3 ⟨rfl, hD3⟩
   have HD3 := iJ.wK hD3
   refine bK (aZ (gG O O) (lH O O (qG O (fun h3 => ?_) (fun h3 => ?_))))
   ·(try simp only [aK] at h3)
    refine cZ (cZ (cZ (nX O O (dn O (cZ (cZ (cZ (cZ (cZ (cZ (cZ (cZ (nX O O (iF (Ko (nM O (aV (gy results36 O ?_))))))))))))))))))
    have hb : s.nT i j := by unfold bP.nT; omega
    have hc : s.mX i j back = 70 := by unfold bP.mX; rw [if_pos hin, if_pos hb]
    exact ⟨by rw [hc], by rw [tu (by rw [hc]; decide)]; exact V.iH iI dK HD3.f11.f11.f11.f11.f11.f11.f11.f11.f11.f11.f11⟩
   ·(try simp only [aK] at h3)
    refine bK (dn O (bK (dn O (bK (aZ (iE O O) (lH O O (qG O (fun h4 => ?_) (fun h4 => ?_))))))))
    ·(try simp only [aK] at h4)
     refine cZ (cZ (cZ (cZ (cZ (cZ (cZ (cZ (nX O O (iF (Ko (nM O (aV (gy results36 O ?_)))))))))))))
     have hb : s.nT i j := by unfold bP.nT; omega
     have hc : s.mX i j back = 70 := by unfold bP.mX; rw [if_pos hin, if_pos hb]
     exact ⟨by rw [hc], by rw [tu (by rw [hc]; decide)]; exact V.iH iI dK HD3.f11.f11.f11.f11.f11.f11.f11.f11.f11.f11.f11⟩
    ·(try simp only [aK] at h4)
     refine bK (dn O (bK (dn O (bK (dA O (bK (Z 0 aj O aU O (bK (Z 0 aJ O nJ O (bK (dL jy O (HD3).get.2 O (bK (fO O func41 (uM HD3.f2) ?_)))))))))))))
     rintro _ w4 ⟨rfl, hD4⟩
     have HD4 := HD3.wK hD4
     refine bK (aZ (gG O O) (lH O O (kE O (fun h5 => ?_) (fun h5 => ?_))))
     ·(try simp only [aK] at h5)
      refine nM O (aV (gy results36 O ?_))
      have hb : s.nT i j := by unfold bP.nT; omega
      have hc : s.mX i j back = 70 := by unfold bP.mX; rw [if_pos hin, if_pos hb]
      exact ⟨by rw [hc], by rw [tu (by rw [hc]; decide)]; exact V.iH iI dK HD4.f11.f11.f11.f11.f11.f11.f11.f11.f11.f11.f11⟩
     ·(try simp only [aK] at h5)
      refine gX (aO ?_)
      have hb : ¬ s.nT i j := by unfold bP.nT; omega
      have hc : s.mX i j back = (s.qU i j back).1 := by unfold bP.mX; rw [if_pos hin, if_neg hb]
      refine aB (jZ O ?_)
      refine vP [(0, _), (1, _), (2, _)] (fun (_ : Unit) => [(10, .int .i64 (s.way back))]) (fun (_ : Unit) W => W = w4) AA ?_ ?_
      ·rintro _ w5 rfl
       dsimp only [List.cons_append, List.nil_append]
       refine aO (aO ?_)
       have abj := HD4.drew
       have wB := V.kp (abj.f11.f11.f11.f11.f11.f11.f11.f11.f11.f11.f11)
       refine wL [4, 10] wB O (gK 0 O wB O (jL 1 O wB O (fH 2 O wB 0 aj O aU O (fH 3 O wB 1 aJ O sizeOf63 O (iY 4 O wB (fun W hW => jQ underlying63 O ((Kp.h hW)).get.2 O) (gK 5 O wB O (gK 6 O wB O (jL 7 O wB O (fH 8 O wB 0 aj O aU O (fH 9 O wB 0 aJ O nJ O (iY 10 O wB (fun W hW => jQ jy O ((Kp.h hW)).get.2 O) (gK 12 O wB O (gK 13 O wB O (lU 11 O (xB O func85 (yj abj.f2)) ?_))))))))))))))
       rintro u6 w6 H6
       have CQ := V.kp (H6.f12.f12.f12.f12.f12.f12.f12.f12.f12.f12.f12.f12)
       refine dV CQ (fun W hW => (Kp.h hW).right.f11.f11.f11.f11.f11.f11.f11.f11.f11.f10.f11) ?_
       refine jR 14 O CQ (fun _ => sH ((H6).aG) aA iy O O O (by omega)) ?_
       refine lU 15 O (xB O func84 (Nc H6.f4 (fun W HW => oL.cut ((HW).aG) (by omega) (by omega)))) ?_
       rintro _ w7 ⟨rfl, H7⟩
       have xU := V.kp (H7.f12.f12.f12.f12.f12.f12.f12.f12.f12.f12.f12.f12)
       refine fG xU (by kernel_rfl) ?_
       refine jR 16 O xU (fun _ => iV O) (qN (bC (bY O (aZ (fF O O) (kE O (fun h6 => ?_) (fun h6 => ?_))))))
       ·(try simp only [aK] at h6)
        refine bY O (jP O (aV (gy results36 O ?_)))
        exact ⟨by rw [hc]; rfl, by rw [tu (by rw [hc]; assumption)]; have HX := H7.f2.right.f11.f11.f11.f11.f11.f11.f11.f11.f9.f10.f11; rw [show jO s.c.E s.c.at_ (s.way back) ((s.c.L.drop i.toNat).take (j.toNat - i.toNat)) = s.qU i j back from O, OB (by assumption)] at HX; exact V.iH iI dK HX⟩
       ·(try simp only [aK] at h6)
        refine gX (bY O (lM O O (Z 29 aj O aN O (aC (fU 29 H7.f4 aN) ?_))))
        rintro _ w8 H8
        refine dA O (Z 28 aj O ah O (aC (fU 28 H8 ah) ?_))
        rintro _ w9 H9
        refine iF (nM O (gy results36 O ?_))
        have hc0 : s.mX i j back = 0 := by rw [hc]; assumption
        have hs : s.qB i j back = { s.zV (s.qU i j back).2.1 (s.qU i j back).2.2 with kJ := true, cls := 1 } := by unfold bP.qB; rw [if_pos hc0]
        exact ⟨by rw [hc0], by rw [hs]; exact V.iH (s := { s.zV (s.qU i j back).2.1 (s.qU i j back).2.2 with kJ := true, cls := 1 }) iI dK H9.f3.right.f11.f11.f11.f11.f11.f11.f11.f11.f10.f11.f11⟩
      ·skip
       refine bY O (dA O (Z 0 aj O aU O (Z 6 aJ O ah O (dL ay O (HD4).get.2 O (aZ (je O O) (qG O (fun h7 => ?_) (fun h7 => ?_)))))))
       ·(try simp only [aK] at h7)
        refine cZ (cZ (cZ (cZ (nX O O (iF (Ko (kW O (bY O (kE O (fun h8 => ?_) (fun h8 => ?_))))))))))
        ·(try simp only [aK] at h8)
         refine aB (oD O (cO ?_))
         refine gZ (()) ?_ ?_ ?_
         ·exact (Sub.qF O (by unfold bP.way; simp_all) (Sub.nil _))
         ·exact AA
         ·(try dsimp only)
          first | done | exact rfl
        ·(try simp only [aK] at h8)
         refine fV ?_
         refine gZ (()) ?_ ?_ ?_
         ·exact (Sub.qF O (by unfold bP.way; simp_all) (Sub.nil _))
         ·exact AA
         ·(try dsimp only)
          first | done | exact rfl
       ·(try simp only [aK] at h7)
        refine bK (dn O (bK (dA O (bK (Z 29 aj O aN O (bK (dL bf O (HD4).get.2 O (lH O O (kE O (fun h9 => ?_) (fun h9 => ?_))))))))))
        ·(try simp only [aK] at h9)
         refine kW O (bY O (kE O (fun h10 => ?_) (fun h10 => ?_)))
         ·(try simp only [aK] at h10)
          refine aB (oD O (cO ?_))
          refine gZ (()) ?_ ?_ ?_
          ·exact (Sub.qF O (by unfold bP.way; simp_all) (Sub.nil _))
          ·exact AA
          ·(try dsimp only)
           first | done | exact rfl
         ·(try simp only [aK] at h10)
          refine fV ?_
          refine gZ (()) ?_ ?_ ?_
          ·exact (Sub.qF O (by unfold bP.way; simp_all) (Sub.nil _))
          ·exact AA
          ·(try dsimp only)
           first | done | exact rfl
        ·(try simp only [aK] at h9)
         refine fV ?_
         refine gZ (()) ?_ ?_ ?_
         ·exact (Sub.qF O (by unfold bP.way; simp_all) (Sub.nil _))
         ·exact AA
         ·(try dsimp only)
          first | done | exact rfl
theorem RN (H : V w0 w (iL e s • F)) : iQ prog 11 #[.pointer (some ⟨e, 0, none⟩), .int .i64 i, .int .i64 j, .bool back] w fun v' w' => v' = .int .i64 (s.Ol i j back) ∧ V w0 w' (iL e (s.sO i j back) • F) := by
  refine Hg func11 ntmps11 ?_
  refine kW O (aO (bY O (jw O O (dn O (fO O func36 (RJ H) ?_)))))
  rintro _ w1 ⟨rfl, H1⟩
  refine jZ O (bY O (aZ (fF O O) (kE O (fun h1 => ?_) (fun h1 => ?_))))
  · (try simp only [aK] at h1)
    have hc := h1
    refine bY O (jP O (aV (gy results11 O ?_)))
    exact ⟨by unfold bP.Ol; rw [if_neg hc], by unfold bP.sO; rw [if_neg hc]; have HX := H1; rw [tu hc] at HX; exact HX⟩
  · (try simp only [aK] at h1)
    have hc := h1
    refine gX (bY O (jw O O (fO O func37 (PZ H1) ?_)))
    rintro _ w2 ⟨rfl, H2⟩
    refine jP O (gy results11 O ?_)
    exact ⟨by unfold bP.Ol; rw [if_pos hc], by unfold bP.sO; rw [if_pos hc]; exact H2⟩
theorem YE {E : List (List Int)} (h : ∀ x ∈ E, x.length ≤ 1024) (k : Nat) : (E.getD k []).length ≤ 1024 := by
  rw [List.getD_eq_getElem?_getD]
  cases hk : E[k]? with
  | none => simp
  | some x => exact h x (List.mem_of_getElem? hk)
end
theorem aay : (prog.info? 130).map (fun i => (i.zero, i.size, i.bytes)) = some (some (.agg #[.int .i64 0, .slice none 0 0, .slice none 0 0]), 3, 56) := by kernel_rfl
def VE (c : Nat) (g : List iO) : HP := wF fun (x : Value × List fB) => fact (x.2.map fB.says = g) • eF c (.cells #[x.1] 69 (0, 0)) • Row 130 3 x.1 x.2.length (x.2.flatMap fB.enc) • nP x.2
section
variable {w0 w : World} {F : HP} {e p c n m : Nat} {s : bP} {i j x : Int} {on : Bool} {v : Value} {g : List iO} {Ap es : List fB} {xs : List Value}
theorem Jt (H : V w0 w F) (hr : CJ w0 F 3 v n xs) (hon : ∀ u ∈ xs, u.oneCell' = true) (hb : n ≤ 1099511627776) :
    iQ prog 90 #[v] w fun v' w' => V w0 w' (Row 130 3 v' n xs • F) := by
  obtain ⟨hlen, a, c, rfl, h2, h3, h4⟩ := hr w H
  refine jH func90 ntmps90 ?_
  refine kW O (aO (bY O (aZ (CY aQ O O) ?_)))
  refine kE O (fun h1 => ?_) (fun h1 => ?_)
  · (try simp only [aK] at h1)
    refine nM O (aV (gy results90 O ?_))
    obtain rfl : a = none := by simpa using h1
    obtain rfl : n = 0 := by
      rcases Nat.eq_zero_or_pos n with h | h
      · exact h
      · obtain ⟨b, o, e, _⟩ := h4 h; cases e
    obtain rfl : xs = [] := List.eq_nil_of_length_eq_zero (by omega)
    exact H.gV none
  · (try simp only [aK] at h1)
    refine gX (lQ (jW (KW H aQ bF bV) ?_))
    rintro _ w1 H1
    refine dn O (jW (dQ H1 aQ aay O O O (hr.under _ H1) hon (by omega) (by omega)) ?_)
    rintro _ w2 H2
    refine jP O (gy results90 O ?_)
    exact H2.of_eq (by rw [Nat.zero_add, List.nil_append])
theorem V.old (H : V w0 w (VE c g • F)) : ∃ v es, es.map fB.says = g ∧ V w0 w (eF c (.cells #[v] 69 (0, 0)) • Row 130 3 v es.length (es.flatMap fB.enc) • nP es • F) := by
  obtain ⟨⟨v, es⟩, H⟩ := H.oN
  obtain ⟨h, H⟩ := H.flat.fact
  exact ⟨v, es, h, H.of_eq (by simp only [dI])⟩
theorem V.YF (h : es.map fB.says = g) (H : V w0 w (eF c (.cells #[v] 69 (0, 0)) • Row 130 3 v es.length (es.flatMap fB.enc) • nP es • F)) : V w0 w (VE c g • F) :=
  V.ji (v, es) (V.deep (V.oG h (H.of_eq (by simp only [dI]))))
theorem V.aaz (hg : g = []) (H : V w0 w (eF c (.cells #[.slice none 0 0] 69 (0, 0)) • F)) : V w0 w (VE c g • F) :=
  V.YF (v := .slice none 0 0) (es := []) hg.symm ((H.uF none).of_eq (by unfold JI; ac_rfl))
theorem V.JV (hm : m = es.length) (H : V w0 w (Row 130 3 v (Ap.length + m) (Ap.flatMap fB.enc ++ es.flatMap fB.enc) • nP Ap • nP es • F)) : V w0 w (Row 130 3 v (Ap ++ es).length ((Ap ++ es).flatMap fB.enc) • nP (Ap ++ es) • F) := by
  subst hm
  have h1 : V w0 w (nP Ap • nP es • Row 130 3 v (Ap.length + es.length) (Ap.flatMap fB.enc ++ es.flatMap fB.enc) • F) := H.of_eq (by ac_rfl)
  have h2 : V w0 w (nP (Ap ++ es) • Row 130 3 v (Ap.length + es.length) (Ap.flatMap fB.enc ++ es.flatMap fB.enc) • F) := h1.CV (rF (fun I h g => h.app g) _)
  exact h2.swap.of_eq (by rw [List.length_append, List.flatMap_append])
def YG (s : bP) (on : Bool) (Ap : List fB) (G1 : List (List iO)) : Prop := fQ G1 [] + Ap.length = fQ s.here [] ∧ (∀ e ∈ Ap, xK e.says) ∧ s.iw on = G1 ++ [Ap.map fB.says ++ s.put]
theorem WI (hp : s.put ≠ []) (hn : on = false) : YG s on [] s.here := by
  subst hn
  refine ⟨by simp, by simp, ?_⟩
  unfold bP.iw
  rw [if_neg hp, if_neg (by decide)]
  rfl
theorem Gj : ∀ {G : List (List iO)}, G ≠ [] → (G.dropLast.map List.length).sum + (G.getLastD []).length = (G.map List.length).sum := by
  intro G hG
  have h := List.dropLast_concat_getLast hG
  have h2 : G.getLastD [] = G.getLast hG := by rw [List.getLastD_eq_getLast?, List.getLast?_eq_some_getLast hG]; rfl
  rw [h2]
  conv => rhs; rw [← h]
  simp
theorem RP (hp : s.put ≠ []) (hn : on = true) (hO : ∀ g ∈ s.here, ∀ e ∈ g, xK e) (h : Ap.map fB.says = s.here.getLastD []) : YG s on Ap s.here.dropLast := by
  subst hn
  have hlen : Ap.length = (s.here.getLastD []).length := by rw [← h]; simp
  have hm : ∀ e ∈ Ap, e.says ∈ s.here.getLastD [] := fun e he => by rw [← h]; exact List.mem_map.2 ⟨e, he, rfl⟩
  unfold YG bP.iw
  rw [if_neg hp, if_pos rfl]
  by_cases h0 : s.here = []
  · rw [h0] at h hlen hm
    have : Ap = [] := List.eq_nil_of_length_eq_zero (by simpa using hlen)
    subst this
    rw [h0]
    exact ⟨by simp, by simp, rfl⟩
  · have h2 : s.here.getLastD [] = s.here.getLast h0 := by rw [List.getLastD_eq_getLast?, List.getLast?_eq_some_getLast h0]; rfl
    refine ⟨?_, fun e he => hO _ (List.getLast_mem h0) _ (h2 ▸ hm e he), ?_⟩
    · have := Gj h0
      show (s.here.dropLast.map List.length).sum + 0 + Ap.length = (s.here.map List.length).sum + 0
      rw [hlen]; omega
    · rw [List.getLast?_eq_some_getLast h0, h, h2]
theorem LD (G : List (List iO)) : E5 G [] = G.reverse := by unfold E5 pX; rw [if_pos rfl]
theorem UD (G : List (List iO)) : (E5 G []).getD 0 [] = G.getLastD [] := by
  rw [LD, List.getD_eq_getElem?_getD, List.getLastD_eq_getLast?]
  congr 1
  cases G.eq_nil_or_concat with
  | inl h => subst h; rfl
  | inr h => obtain ⟨L, b, rfl⟩ := h; simp
theorem YH {G : List (List iO)} (h : UOk G [] 0) : (∀ g ∈ E5 G [], ∀ e ∈ g, EB e) ∧ ∀ g ∈ E5 G [], g.length ≤ 16384 := by
  rw [LD]
  refine ⟨fun g hg => h.2.2.2.2.1 g (List.mem_reverse.1 hg), fun g hg => ?_⟩
  have h1 := JM (List.mem_reverse.1 hg)
  have h2 := h.2.1
  unfold fQ at h2
  simp at h2; omega
theorem P5 (G : List (List iO)) (N : List iO) : abL G N (0 + 1) = pX G N ∧ abM N (0 + 1) = [] ∧ aap (0 + 1) = 0 := ⟨if_pos rfl, if_pos rfl, by unfold aap; rw [if_neg (by decide)]; rfl⟩
theorem OC (G : List (List iO)) : Vh G [] = G.dropLast ∧ Vj G [] = [] ∧ Vk G [] 0 = 0 := by
  unfold Vh Vj Vk pX
  by_cases h : G.length + ([] : List iO).length = 0
  · have : G = [] := List.eq_nil_of_length_eq_zero (by simpa using h)
    subst this
    simp
  · rw [if_neg h, if_neg h, if_neg h, if_pos rfl]; simp
theorem BN {s : bP} (h : s.put = []) : s.dJ on = s := by unfold bP.dJ; rw [if_pos h]
theorem oh {s : bP} (h : s.put ≠ []) : s.dJ on = { s.lG (s.iw on) with put := [] } := by unfold bP.dJ; rw [if_neg h]
theorem Gl (G : List (List iO)) (g : List iO) : fQ (G ++ [g]) [] = fQ G [] + g.length := by unfold fQ; simp
theorem LG (h : o8 s) {G1 : List (List iO)} (hF : YG s on Ap G1) (hp : s.put ≠ []) (hG : ∀ g ∈ G1, ∀ e ∈ g, xK e) : o8 (s.dJ on) := by
  rw [oh hp]
  obtain ⟨h1, h2, h3, h4, h5, h6⟩ := h
  obtain ⟨f1, f2, f3⟩ := hF
  refine ⟨h1, h2, h3, by simp, ?_, ?_⟩
  · show fQ (uq s.c.un s.c.place (s.iw on) s.c.place) [] ≤ 16384
    rw [gW, f3, Gl]
    have := mG s.here s.put
    simp; omega
  · intro k g hg e he
    have hg' : g ∈ uq s.c.un s.c.place (s.iw on) k := hg
    by_cases hk : k = s.c.place
    · subst hk
      rw [gW, f3] at hg'
      rcases List.mem_append.1 hg' with hg' | hg'
      · exact hG g hg' e he
      · rw [List.mem_singleton.1 hg'] at he
        rcases List.mem_append.1 he with he | he
        · obtain ⟨q, hq, rfl⟩ := List.mem_map.1 he; exact f2 q hq
        · exact h4 e he
    · rw [uw _ _ hk] at hg'; exact h6 k g hg' e he
theorem Ic {es : List fB} {k : Nat} (hk : k < es.length) : (es.take (k + 1)).map fB.says = (es.take k).map fB.says ++ [(es.getD k default).says] := by
  rw [List.take_succ_eq_append_getElem hk, List.map_append, List.getD_eq_getElem?_getD, List.getElem?_eq_getElem hk]; rfl
theorem tC (H : V w0 w (iL e s • F)) : iQ prog 43 #[.pointer (some ⟨e, 0, none⟩), .bool on] w fun _ w' => V w0 w' (iL e (s.dJ on) • F) := by
  refine qQ func43 ntmps43 ?_
  refine aO (aO ?_)
  obtain ⟨yD, yE, yF, yG, yH, yI, yJ, yK, wI, uY, uZ, vk, vw, vC, vF, vG, vH, vI, vJ, vK, iI, dK, mF, iJ⟩ := (H).JO
  have hput : fQ s.here s.put ≤ 16384 := iI.2.2.2.2.1
  have hsp := mG s.here s.put
  have hO : ∀ g ∈ s.here, ∀ x ∈ g, xK x := iI.2.2.2.2.2 s.c.place
  have hPO : ∀ x ∈ wI, xK x.says := fun x hx => iI.2.2.2.1 _ (by rw [← dK]; exact List.mem_map.2 ⟨x, hx, rfl⟩)
  have agm := (iJ.f10).FX
  refine aB (lM O O (Z 33 aj O bn O (dL aQ O (iJ).get.2 O (aZ (fA ((iJ.f9).aG) aQ O) (aZ (je O O) (kE O (fun h1 => ?_) (fun h1 => ?_)))))))
  · (try simp only [aK] at h1)
    refine oP (aV (we0 results43 ?_))
    rw [BN (List.eq_nil_of_length_eq_zero (by omega))]
    exact V.iH iI dK iJ.f11.f11.f11.f11.f11.f11.f11.f11.f11.f11.f11
  · (try simp only [aK] at h1)
    have hp : s.put ≠ [] := by rintro hz; rw [hz] at h1; simp at h1
    refine gX (bY O (fO O func78 (Dy iJ.f6.f5.f3) ?_))
    rintro _ w2 ⟨lp2, rfl, H2⟩
    refine jZ O (lQ (jW (gq (l := [_]) H2 oV O) ?_))
    rintro _ w3 ⟨b3, rfl, H3⟩
    refine qJ (aO ?_)
    obtain ⟨R4, hR4, HR4⟩ := V.Xz (H3.f2.f2)
    refine aB (dn O (kE O (fun h2 => ?_) (fun h2 => ?_)))
    · (try simp only [aK] at h2)
      have hn : on = true := h2
      refine aO (bY O (fO O func89 (Js HR4.f2) ?_))
      rintro _ w5 ⟨bG5, rfl, H5⟩
      refine iF (bI ?_)
      obtain ⟨_, _, _, _, k1, _⟩ := (H5.f2).y5
      obtain ⟨hB, hL⟩ := YH k1
      have HF0 := V.oG (q := (0 : Nat) = 0) rfl H5
      obtain ⟨R6, hR6, HR6⟩ := V.NM (HF0.f4.f2.f3)
      refine BJ O (Rt bG5 hB hL) (fun j => fact (j = 0) • eF b3 (.cells #[.slice none 0 0] 69 (0, 0)) • R6) (fact False) (fun id => if id = 0 then VE b3 (s.here.getLastD []) • R6 else fact False) (HR6.f3.f3.f3.f3.f3.f3.comm) (by rfl) ?_ ?_ ?_ ?_
      · rintro l7 j abJ vs7 A7 ⟨u1, fs1, adD, rfl, rfl⟩ G7 w7 H7
        try simp only [dI, qM, yc] at H7
        refine ⟨O, ?_⟩
        dsimp only [Ui]
        have HQ := (H7).edL
        obtain rfl : j = 0 := (HQ.f3).fact.1
        have hon := (HQ.f2).FX
        have hlen1 : fs1.length ≤ 16384 := by
          have h9 := hL _ (wS (d := []) abJ)
          rw [← adD] at h9
          simpa using h9
        refine aB (oD O (cO ?_))
        refine Uh (HQ.g5) ?_
        intro G8 w8 H8
        try simp only [dI] at H8
        refine bI (bY O (fO O func90 (Jt H8 (fun W HW => (HW).aG) hon (by omega)) ?_))
        rintro u9 w9 H9
        refine aC (dX 0 (l' := [_]) H9.f5 bn O O (by first | rfl | exact Rd.one ((H9).aG)) O O) ?_
        rintro _ w10 rD
        refine iF (gY ?_)
        refine MO (by decide) ?_
        refine X7 ?_
        rw [if_pos rfl]
        exact (V.YF (adD.trans (UD _)) rD.f3.right.f4.right.f3.f3.f3).deep
      · rintro D11 Hr rX
        have XL := rX.ed
        try simp only [dI, qM, yc] at XL
        have adE := XL.U2
        have hz := (adE.f3).fact.1
        rw [LD, List.length_reverse] at hz
        have hg0 : s.here.getLastD [] = [] := by show (s.c.un s.c.place).getLastD [] = []; rw [List.eq_nil_of_length_eq_zero hz]; rfl
        have Uy := adE.f4
        have Uz := V.aaz hg0 Uy
        have RQ := Uz.f4.right
        subst hR6
        subst hR4
        refine aX (bC (aB (dn O (fO O func91 (Ez RQ.f4) ?_))))
        rintro _ TD ⟨u15, ahg, rfl, agn, Bz⟩
        have ab2 := Bz.right
        have Ug := ab2.right
        have RI := Ug.f4.right
        obtain ⟨h9a, h9b, h9c⟩ := OC (s.c.un s.c.place)
        have HX := RI
        rw [h9a, h9b, h9c] at HX
        obtain ⟨ov, Ap, ab3, HO⟩ := (HX.f2).old
        have hF := RP hp hn hO ab3
        have hG1 : ∀ g ∈ s.here.dropLast, ∀ x ∈ g, xK x := fun g hg => hO g (List.dropLast_subset _ hg)
        obtain ⟨G1, ab4⟩ : ∃ q, q = (s.c.un s.c.place).dropLast := ⟨_, rfl⟩
        rw [show s.here.dropLast = (s.c.un s.c.place).dropLast from rfl] at hF hG1
        have WJ := HO
        rw [← ab4] at hF hG1 WJ
        refine qJ ?_
        obtain ⟨hF1, hF2, hF3⟩ := hF
        have hl1 : Ap.length ≤ 16384 := by omega
        have hl2 : s.put.length ≤ 16384 := by omega
        refine aB (dn O (fO O func92 (y7 WJ.f4 (by omega)) ?_))
        rintro _ Xw ⟨rfl, zN⟩
        refine qJ (aO ?_)
        have Oz := zN.drew
        have uJ := V.kp (Oz.f16.f16.f16.f16.f16.f16.f16.f16.f16.f16.f16.f16.f16.f16.f16.f16)
        refine wL [0, 4] uJ O (iY 0 O uJ (fun W hW => jQ aQ O ((Kp.h hW).f2).get.2 O) (gK 1 O uJ O (jL 2 O uJ O (fH 3 O uJ 33 aj O bn O (iY 4 O uJ (fun W hW => jQ aQ O ((Kp.h hW).f7).get.2 O) (gK 7 O uJ O (lU 5 O (dQ Oz.f3 aQ wo O O O ((Oz.f14).aG) (by assumption) (by omega) (by omega)) ?_)))))))
        rintro l20 XM Ci
        have Dx := V.kp (Ci.f16.f16.f16.f16.f16.f16.f16.f16.f16.f16.f16.f16.f16.f16.f16.f16)
        refine fG Dx (by kernel_rfl) ?_
        have ab5 := Ci.f15.f5.f3
        have ab6 := V.JV mF.symm ab5
        obtain ⟨AE, VF⟩ : ∃ q, q = Ap ++ wI := ⟨_, rfl⟩
        have HA := ab6
        rw [← VF] at HA
        have hAl : AE.length = Ap.length + s.put.length := by rw [VF, List.length_append, mF]
        have hAs : AE.map fB.says = Ap.map fB.says ++ s.put := by rw [VF, List.map_append, dK]
        have hAO : ∀ x ∈ AE, xK x.says := fun x hx => by
          rw [VF] at hx
          rcases List.mem_append.1 hx with hx | hx
          · exact hF2 x hx
          · exact hPO x hx
        refine jR 6 O Dx (fun _ => fA ((HA).aG) aQ O) (qN (bC (bI ?_)))
        obtain ⟨R23, ae3, ae4⟩ := V.NM (HA.f2.f2.f3)
        refine iC [(0, _), (4, _), (32, _), (33, _)] (fun (i : Nat) => [(34, .int .i64 (i : Int))]) (fun (i : Nat) W => i ≤ AE.length ∧ V w0 W (jB lp2 G1 ((AE.take i).map fB.says) (0 + 1) • Row 130 3 l20 AE.length (AE.flatMap fB.enc) • nP AE • R23)) (fun (i : Nat) => AE.length - i) (0) Pg pY ⟨by omega, ae4⟩ ?_
        rintro i w24 ⟨hi, HL⟩
        dsimp only [List.cons_append, List.nil_append]
        refine lQ (aZ (iE O O) (qJ (eP O (fun h3 => ?_) (fun h3 => ?_))))
        · (try simp only [aK] at h3)
          refine gX (aO (bI (lQ ?_)))
          obtain ⟨ahh, ahi, ahj, ae5⟩ := Rd.qP ((HL.f2).aG) (by omega)
          cases ae5
          refine aZ (eG aQ bF O O (by omega)) (aZ (mV (ys := [_, _, _]) ((HL.f2).aG) (by omega) aP O bF O (mM fB.DY (by omega) default) O) ?_)
          have hkl : i < AE.length := by omega
          have hx : xK (AE.getD i default).says := hAO _ (by rw [List.getD_eq_getElem?_getD, List.getElem?_eq_getElem hkl]; exact List.getElem_mem hkl)
          have hx1 : (AE.getD i default).dl.length ≤ 1024 := hx.2.2.1
          have hx2 : (AE.getD i default).il.length ≤ 1024 := hx.2.2.2
          refine jW (gq (l := [_, _, _]) HL bV O) ?_
          rintro _ w25 ⟨b25, rfl, JE⟩
          refine aC (dD 0 (l' := [_, _, _]) (us := [_, _, _]) JE bF O O O (aH (aW (by first | rfl | exact Rd.one (((JE.f4).rY hkl).1)) (aW (by first | rfl | exact Rd.one (((JE.f4).rY hkl).2)) bG))) O O) ?_
          rintro _ w26 EW
          refine iF (aB (dn O (aZ (dF aP O bF O O (EW).get.2) (fO O func93 (BI EW.f2 (fun W HW => ((HW.f3).rY hkl).1) (fun W HW => ((HW.f3).rY hkl).2) (by omega) (by omega)) ?_))))
          rintro _ w27 ⟨rfl, FP⟩
          have hadd : xW G1 ((AE.take i).map fB.says) (AE.getD i default).a (AE.getD i default).dl (AE.getD i default).il = 0 := by
            have hx3 : 0 < (AE.getD i default).dl.length + (AE.getD i default).il.length := hx.2.1
            have hx4 : 0 ≤ (AE.getD i default).a := hx.1
            have hx5 := mG G1 ((AE.take i).map fB.says)
            rw [List.length_map, List.length_take] at hx5
            unfold xW
            rw [if_neg (by omega), if_neg (by omega)]
          have HA2 := FP
          rw [JK hadd (by decide), JL hadd (by decide)] at HA2
          refine cO (aX (bC (aB (aZ (fZ O O (by omega)) (dn O (cO ?_))))))
          refine eX (i + 1) ?_ ?_ ?_ ?_
          · exact pY
          · exact Pg
          · (try dsimp only)
            first | done | exact ⟨by omega, by rw [Ic hkl]; exact HA2.f2.right.f3.f3.f3⟩
          · (try dsimp only); omega
        · (try simp only [aK] at h3)
          refine gY (aY ?_)
          have hil : i = AE.length := by omega
          have HB := HL
          rw [hil, List.take_length] at HB
          subst ae3
          refine aY (dw (bC (bY O (fO O func94 (BL HB) ?_))))
          rintro _ w28 ⟨rfl, MR⟩
          obtain ⟨h8a, h8b, h8c⟩ := P5 G1 (AE.map fB.says)
          have HC := MR
          rw [h8a, h8b, h8c, hAs, uO (by intro hz; exact hp (List.append_eq_nil_iff.1 hz).2), ← hF3] at HC
          have abW := HC.f6
          have abX := V.AX abW
          refine iF (aB (lM O O (Z 33 aj O bn O (aC (fU 33 abX.f6 bn) ?_))))
          rintro _ w31 MS
          refine cO ?_
          refine JA (.inr O) (MS.f6) (fun w32 Ht => ?_)
          refine ⟨_, abx results43, ?_⟩
          rw [oh hp]
          exact V.Lr (s := { s.lG (s.iw on) with put := [] }) (oh hp ▸ LG iI ⟨hF1, hF2, hF3⟩ hp hG1) O Ht.f3.right.f3.right.f3.right.f9.right.f9.f9.f9.f5.f9.f7.f9.f9.f9
      · rintro D w H; exact absurd H.swap.fact.1 id
      · rintro id D33 w33 Pm
        refine Decidable.byCases (fun hid : id = 0 => ?_) (fun hid => by rw [if_neg hid] at Pm; exact absurd Pm.swap.fact.1 fun h => h)
        subst hid
        rw [if_pos rfl] at Pm
        have adF := Pm.ed
        try simp only [dI, qM, yc] at adF
        have ae6 := adF.U2
        subst hR6
        subst hR4
        refine dw (bC (aB (dn O (fO O func91 (Ez ae6.f4) ?_))))
        rintro _ w34 ⟨u34, ahk, rfl, agp, Lm⟩
        have ae7 := Lm.right
        have ae8 := ae7.right
        have ab7 := ae8.f3.right
        obtain ⟨h9a, h9b, h9c⟩ := OC (s.c.un s.c.place)
        have HX := ab7
        rw [h9a, h9b, h9c] at HX
        obtain ⟨ov, Ap, ab3, HO⟩ := (HX.f3).old
        have hF := RP hp hn hO ab3
        have hG1 : ∀ g ∈ s.here.dropLast, ∀ x ∈ g, xK x := fun g hg => hO g (List.dropLast_subset _ hg)
        obtain ⟨G1, ab4⟩ : ∃ q, q = (s.c.un s.c.place).dropLast := ⟨_, rfl⟩
        rw [show s.here.dropLast = (s.c.un s.c.place).dropLast from rfl] at hF hG1
        have WJ := HO
        rw [← ab4] at hF hG1 WJ
        refine qJ ?_
        obtain ⟨hF1, hF2, hF3⟩ := hF
        have hl1 : Ap.length ≤ 16384 := by omega
        have hl2 : s.put.length ≤ 16384 := by omega
        refine aB (dn O (fO O func92 (y7 WJ.f4 (by omega)) ?_))
        rintro _ w38 ⟨rfl, Ov⟩
        refine qJ (aO ?_)
        have YI := Ov.drew
        have Fe := V.kp (YI.f16.f16.f16.f16.f16.f16.f16.f16.f16.f16.f16.f16.f16.f16.f16.f16)
        refine wL [0, 4] Fe O (iY 0 O Fe (fun W hW => jQ aQ O ((Kp.h hW).f2).get.2 O) (gK 1 O Fe O (jL 2 O Fe O (fH 3 O Fe 33 aj O bn O (iY 4 O Fe (fun W hW => jQ aQ O ((Kp.h hW).f7).get.2 O) (gK 7 O Fe O (lU 5 O (dQ YI.f3 aQ wo O O O ((YI.f14).aG) (by assumption) (by omega) (by omega)) ?_)))))))
        rintro l39 w39 H39
        have RU := V.kp (H39.f16.f16.f16.f16.f16.f16.f16.f16.f16.f16.f16.f16.f16.f16.f16.f16)
        refine fG RU (by kernel_rfl) ?_
        have ae9 := H39.f15.f5.f3
        have afa := V.JV mF.symm ae9
        obtain ⟨AE, VF⟩ : ∃ q, q = Ap ++ wI := ⟨_, rfl⟩
        have HA := afa
        rw [← VF] at HA
        have hAl : AE.length = Ap.length + s.put.length := by rw [VF, List.length_append, mF]
        have hAs : AE.map fB.says = Ap.map fB.says ++ s.put := by rw [VF, List.map_append, dK]
        have hAO : ∀ x ∈ AE, xK x.says := fun x hx => by
          rw [VF] at hx
          rcases List.mem_append.1 hx with hx | hx
          · exact hF2 x hx
          · exact hPO x hx
        refine jR 6 O RU (fun _ => fA ((HA).aG) aQ O) (qN (bC (bI ?_)))
        obtain ⟨R42, ab8, ab9⟩ := V.NM (HA.f2.f2.f3)
        refine iC [(0, _), (4, _), (32, _), (33, _)] (fun (i : Nat) => [(34, .int .i64 (i : Int))]) (fun (i : Nat) W => i ≤ AE.length ∧ V w0 W (jB lp2 G1 ((AE.take i).map fB.says) (0 + 1) • Row 130 3 l39 AE.length (AE.flatMap fB.enc) • nP AE • R42)) (fun (i : Nat) => AE.length - i) (0) Pg pY ⟨by omega, ab9⟩ ?_
        rintro i w43 ⟨hi, HL⟩
        dsimp only [List.cons_append, List.nil_append]
        refine lQ (aZ (iE O O) (qJ (eP O (fun h4 => ?_) (fun h4 => ?_))))
        · (try simp only [aK] at h4)
          refine gX (aO (bI (lQ ?_)))
          obtain ⟨ahl, ahm, ahn, afb⟩ := Rd.qP ((HL.f2).aG) (by omega)
          cases afb
          refine aZ (eG aQ bF O O (by omega)) (aZ (mV (ys := [_, _, _]) ((HL.f2).aG) (by omega) aP O bF O (mM fB.DY (by omega) default) O) ?_)
          have hkl : i < AE.length := by omega
          have hx : xK (AE.getD i default).says := hAO _ (by rw [List.getD_eq_getElem?_getD, List.getElem?_eq_getElem hkl]; exact List.getElem_mem hkl)
          have hx1 : (AE.getD i default).dl.length ≤ 1024 := hx.2.2.1
          have hx2 : (AE.getD i default).il.length ≤ 1024 := hx.2.2.2
          refine jW (gq (l := [_, _, _]) HL bV O) ?_
          rintro _ w44 ⟨b44, rfl, Qv⟩
          refine aC (dD 0 (l' := [_, _, _]) (us := [_, _, _]) Qv bF O O O (aH (aW (by first | rfl | exact Rd.one (((Qv.f4).rY hkl).1)) (aW (by first | rfl | exact Rd.one (((Qv.f4).rY hkl).2)) bG))) O O) ?_
          rintro _ w45 JR
          refine iF (aB (dn O (aZ (dF aP O bF O O (JR).get.2) (fO O func93 (BI JR.f2 (fun W HW => ((HW.f3).rY hkl).1) (fun W HW => ((HW.f3).rY hkl).2) (by omega) (by omega)) ?_))))
          rintro _ w46 ⟨rfl, Qw⟩
          have hadd : xW G1 ((AE.take i).map fB.says) (AE.getD i default).a (AE.getD i default).dl (AE.getD i default).il = 0 := by
            have hx3 : 0 < (AE.getD i default).dl.length + (AE.getD i default).il.length := hx.2.1
            have hx4 : 0 ≤ (AE.getD i default).a := hx.1
            have hx5 := mG G1 ((AE.take i).map fB.says)
            rw [List.length_map, List.length_take] at hx5
            unfold xW
            rw [if_neg (by omega), if_neg (by omega)]
          have HA2 := Qw
          rw [JK hadd (by decide), JL hadd (by decide)] at HA2
          refine cO (aX (bC (aB (aZ (fZ O O (by omega)) (dn O (cO ?_))))))
          refine eX (i + 1) ?_ ?_ ?_ ?_
          · exact pY
          · exact Pg
          · (try dsimp only)
            first | done | exact ⟨by omega, by rw [Ic hkl]; exact HA2.f2.right.f3.f3.f3⟩
          · (try dsimp only); omega
        · (try simp only [aK] at h4)
          refine gY (aY ?_)
          have hil : i = AE.length := by omega
          have HB := HL
          rw [hil, List.take_length] at HB
          subst ab8
          refine aY (dw (bC (bY O (fO O func94 (BL HB) ?_))))
          rintro _ w47 ⟨rfl, VG⟩
          obtain ⟨h8a, h8b, h8c⟩ := P5 G1 (AE.map fB.says)
          have HC := VG
          rw [h8a, h8b, h8c, hAs, uO (by intro hz; exact hp (List.append_eq_nil_iff.1 hz).2), ← hF3] at HC
          have afc := HC.f6
          have afd := V.AX afc
          refine iF (aB (lM O O (Z 33 aj O bn O (aC (fU 33 afd.f6 bn) ?_))))
          rintro _ w50 Vu
          refine cO ?_
          refine JA (.inr O) (Vu.f6) (fun w51 H51 => ?_)
          refine ⟨_, abx results43, ?_⟩
          rw [oh hp]
          exact V.Lr (s := { s.lG (s.iw on) with put := [] }) (oh hp ▸ LG iI ⟨hF1, hF2, hF3⟩ hp hG1) O H51.f3.right.f3.right.f3.right.f9.right.f9.f9.f9.f5.f9.f7.f9.f9.f9
    · (try simp only [aK] at h2)
      have hn : on = false := h2
      obtain ⟨ov, Ap, G1, hF, hG1, HF⟩ : ∃ ov Ap G1, YG s on Ap G1 ∧ (∀ g ∈ G1, ∀ x ∈ g, xK x) ∧ V w0 w3 (eF b3 (.cells #[ov] 69 (0, 0)) • Row 130 3 ov Ap.length (Ap.flatMap fB.enc) • nP Ap • jB lp2 G1 [] 0 • R4) :=
        ⟨.slice none 0 0, [], s.here, WI hp hn, hO, (V.uF HR4.f2.f2 none).of_eq (by unfold JI; ac_rfl)⟩
      subst hR4
      refine gX (aO ?_)
      obtain ⟨hF1, hF2, hF3⟩ := hF
      have hl1 : Ap.length ≤ 16384 := by omega
      have hl2 : s.put.length ≤ 16384 := by omega
      refine aB (dn O (fO O func92 (y7 HF.f4 (by omega)) ?_))
      rintro _ w52 ⟨rfl, H52⟩
      refine qJ (aO ?_)
      have YJ := H52.drew
      have Fg := V.kp (YJ.f15.f15.f15.f15.f15.f15.f15.f15.f15.f15.f15.f15.f15.f15.f15)
      refine wL [0, 4] Fg O (iY 0 O Fg (fun W hW => jQ aQ O ((Kp.h hW).f2).get.2 O) (gK 1 O Fg O (jL 2 O Fg O (fH 3 O Fg 33 aj O bn O (iY 4 O Fg (fun W hW => jQ aQ O ((Kp.h hW).f6).get.2 O) (gK 7 O Fg O (lU 5 O (dQ YJ.f3 aQ wo O O O ((YJ.f13).aG) (by assumption) (by omega) (by omega)) ?_)))))))
      rintro l53 w53 H53
      have abk := V.kp (H53.f15.f15.f15.f15.f15.f15.f15.f15.f15.f15.f15.f15.f15.f15.f15)
      refine fG abk (by kernel_rfl) ?_
      have afe := H53.f14.f5.f3
      have aff := V.JV mF.symm afe
      obtain ⟨AE, VF⟩ : ∃ q, q = Ap ++ wI := ⟨_, rfl⟩
      have HA := aff
      rw [← VF] at HA
      have hAl : AE.length = Ap.length + s.put.length := by rw [VF, List.length_append, mF]
      have hAs : AE.map fB.says = Ap.map fB.says ++ s.put := by rw [VF, List.map_append, dK]
      have hAO : ∀ x ∈ AE, xK x.says := fun x hx => by
        rw [VF] at hx
        rcases List.mem_append.1 hx with hx | hx
        · exact hF2 x hx
        · exact hPO x hx
      refine jR 6 O abk (fun _ => fA ((HA).aG) aQ O) (qN (bC (bI ?_)))
      obtain ⟨R56, aca, acb⟩ := V.NM (HA.f2.f2.f3)
      refine iC [(0, _), (4, _), (32, _), (33, _)] (fun (i : Nat) => [(34, .int .i64 (i : Int))]) (fun (i : Nat) W => i ≤ AE.length ∧ V w0 W (jB lp2 G1 ((AE.take i).map fB.says) (0 + 1) • Row 130 3 l53 AE.length (AE.flatMap fB.enc) • nP AE • R56)) (fun (i : Nat) => AE.length - i) (0) Pg pY ⟨by omega, acb⟩ ?_
      rintro i w57 ⟨hi, HL⟩
      dsimp only [List.cons_append, List.nil_append]
      refine lQ (aZ (iE O O) (qJ (eP O (fun h5 => ?_) (fun h5 => ?_))))
      · (try simp only [aK] at h5)
        refine gX (aO (bI (lQ ?_)))
        obtain ⟨aho, ahp, ahq, afg⟩ := Rd.qP ((HL.f2).aG) (by omega)
        cases afg
        refine aZ (eG aQ bF O O (by omega)) (aZ (mV (ys := [_, _, _]) ((HL.f2).aG) (by omega) aP O bF O (mM fB.DY (by omega) default) O) ?_)
        have hkl : i < AE.length := by omega
        have hx : xK (AE.getD i default).says := hAO _ (by rw [List.getD_eq_getElem?_getD, List.getElem?_eq_getElem hkl]; exact List.getElem_mem hkl)
        have hx1 : (AE.getD i default).dl.length ≤ 1024 := hx.2.2.1
        have hx2 : (AE.getD i default).il.length ≤ 1024 := hx.2.2.2
        refine jW (gq (l := [_, _, _]) HL bV O) ?_
        rintro _ w58 ⟨b58, rfl, Yv⟩
        refine aC (dD 0 (l' := [_, _, _]) (us := [_, _, _]) Yv bF O O O (aH (aW (by first | rfl | exact Rd.one (((Yv.f4).rY hkl).1)) (aW (by first | rfl | exact Rd.one (((Yv.f4).rY hkl).2)) bG))) O O) ?_
        rintro _ w59 H59
        refine iF (aB (dn O (aZ (dF aP O bF O O (H59).get.2) (fO O func93 (BI H59.f2 (fun W HW => ((HW.f3).rY hkl).1) (fun W HW => ((HW.f3).rY hkl).2) (by omega) (by omega)) ?_))))
        rintro _ w60 ⟨rfl, H60⟩
        have hadd : xW G1 ((AE.take i).map fB.says) (AE.getD i default).a (AE.getD i default).dl (AE.getD i default).il = 0 := by
          have hx3 : 0 < (AE.getD i default).dl.length + (AE.getD i default).il.length := hx.2.1
          have hx4 : 0 ≤ (AE.getD i default).a := hx.1
          have hx5 := mG G1 ((AE.take i).map fB.says)
          rw [List.length_map, List.length_take] at hx5
          unfold xW
          rw [if_neg (by omega), if_neg (by omega)]
        have HA2 := H60
        rw [JK hadd (by decide), JL hadd (by decide)] at HA2
        refine cO (aX (bC (aB (aZ (fZ O O (by omega)) (dn O (cO ?_))))))
        refine eX (i + 1) ?_ ?_ ?_ ?_
        · exact pY
        · exact Pg
        · (try dsimp only)
          first | done | exact ⟨by omega, by rw [Ic hkl]; exact HA2.f2.right.f3.f3.f3⟩
        · (try dsimp only); omega
      · (try simp only [aK] at h5)
        refine gY (aY ?_)
        have hil : i = AE.length := by omega
        have HB := HL
        rw [hil, List.take_length] at HB
        subst aca
        refine aY (dw (bC (bY O (fO O func94 (BL HB) ?_))))
        rintro _ w61 ⟨rfl, H61⟩
        obtain ⟨h8a, h8b, h8c⟩ := P5 G1 (AE.map fB.says)
        have HC := H61
        rw [h8a, h8b, h8c, hAs, uO (by intro hz; exact hp (List.append_eq_nil_iff.1 hz).2), ← hF3] at HC
        have afh := HC.f5
        have afi := V.AX afh
        refine iF (aB (lM O O (Z 33 aj O bn O (aC (fU 33 afi.f5 bn) ?_))))
        rintro _ w64 H64
        refine cO (kG (.inr O) results43 ?_)
        rw [oh hp]
        exact V.Lr (s := { s.lG (s.iw on) with put := [] }) (oh hp ▸ LG iI ⟨hF1, hF2, hF3⟩ hp hG1) O H64.f3.right.f3.right.f3.right.f9.right.f9.f9.f9.f5.f9.f7.f9.f9.f9
end
end Go.Proofs.YtnhhmieghbfalaaGreat
end
