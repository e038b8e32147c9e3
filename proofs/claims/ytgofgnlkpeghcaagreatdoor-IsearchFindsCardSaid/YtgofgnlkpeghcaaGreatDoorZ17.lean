import Derived.Test.YtgofgnlkpeghcaaGreatDoorZ4
import Derived.Test.YtgofgnlkpeghcaaGreatDoorZ16
import Derived.Test.YtgofgnlkpeghcaaGreatDoorZ5
import Derived.Test.YtgofgnlkpeghcaaGreatDoorZ11
import Derived.Test.YtgofgnlkpeghcaaGreatDoorZ8
import Derived.Test.YtgofgnlkpeghcaaGreatDoorZ6
import Derived.Test.YtgofgnlkpeghcaaGreatDoorZ3
set_option linter.unusedSimpArgs false
set_option linter.unusedVariables false
/- Texts of mine, joined, their names in short: Is1 IsL IsL2 RHist. -/
section
namespace Go.Proofs.YtgofgnlkpeghcaaGreatDoor
open Go.RowKit
open _root_.Go.Proofs.Tryz
theorem Na {l p : List Int} {i : Int} (h0 : 0 ≤ i) (hm : i ≤ qE l p) : ((l.drop i.toNat).take ((i + p.length).toNat - i.toNat) = p) ↔ HY l p i.toNat = true := by
  unfold qE at hm
  rw [AP, show (i + p.length).toNat - i.toNat = p.length from by omega]
  constructor
  · intro h; exact ⟨by omega, h⟩
  · intro h; exact h.2
section
variable {w0 w : World} {F : HP} {v1 v2 : Value} {l p : List Int} {i : Int} {back : Bool}
theorem PX (H : V w0 w F) (hv1 : jm w0 F .i32 v1 l) (hv2 : jm w0 F .i32 v2 p) (TN : l.length ≤ 4611686018427387904) : iM prog 12 #[v1, v2, .int .i64 i, .bool back] w fun v w' => v = .int .i64 (jg l p i back) ∧ V w0 w' F := by
 have hl9 : l.length ≤ 9223372036854775807 := by have := (hv1 _ H).open; obtain ⟨a, c, e, h3, h4, _⟩ := this; omega
 have hp9 : p.length ≤ 9223372036854775807 := by have := (hv2 _ H).open; obtain ⟨a, c, e, h3, h4, _⟩ := this; omega
 refine Pv func12 ntmps12 ?_
 refine kQ O (bY O (aW (jJ (hv1 _ (H)) ay O) (bT O (aW (jJ (hv2 _ (H)) ay O) (aW (lW O O (by omega)) (sS O (bY O (jv O (fun h1 => ?_) (fun h1 => ?_)))))))))
 ·(try simp only [aF] at h1)
  have hb : back = true := h1
  have e0 : jg l p i back = ug l p ((min i (qE l p)) + 1).toNat := by unfold jg; rw [if_pos hb]
  refine aO (bY O (bT O (aW (ZY O O) (iP O (bg ?_)))))
  refine gq [(0, _), (1, _)] (fun (k : Int) => [(10, .int .i64 k)]) (fun (k : Int) W => (k ≤ qE l p ∧ jg l p i back = ug l p (k + 1).toNat) ∧ V w0 W F) (fun (k : Int) => (k + 1).toNat) (min i (qE l p)) rP oO ⟨⟨by omega, e0⟩, H⟩ ?_
  rintro k w1 ⟨⟨hk, e1⟩, HL⟩
  dsimp only [List.cons_append, List.nil_append]
  refine aO (bY O (aW (nM O O) (jv O (fun h2 => ?_) (fun h2 => ?_))))
  ·(try simp only [aF] at h2)
   refine iy (aO (bg (aO ?_)))
   have hk0 : 0 ≤ k := by omega
   have hmm : k ≤ (l.length : Int) - p.length := hk
   refine aA (jy O O (jy O O (aW (jJ (hv2 _ (HL)) ay O) (aW (fP O O (by omega)) (aW (vU (hv1 _ (HL)) ay iE O O O (by omega)) ?_)))))
   refine bT O (fE O func42 (JH _ _ _ _ _ (jP.cut (hv1 _ (HL)) (by omega) (by omega)) (hv2 _ (HL))) ?_)
   rintro _ w2 ⟨rfl, hD2⟩
   have HD2 := HL.Gp hD2
   refine jv O (fun h3 => ?_) (fun h3 => ?_)
   ·(try simp only [aF] at h3)
    have hat := (Na hk0 hk).1 h3
    refine bY O (ig O (aX (aC (aC (aX (aC (aC (fD results12 O ?_))))))))
    exact ⟨by rw [e1, OU hk0 hat], HD2⟩
   ·(try simp only [aF] at h3)
    have hat : ¬ HY l p k.toNat = true := fun c => absurd ((Na hk0 hk).2 c) (by have h9 := h3; simpa using h9)
    refine dS (aP (aZ (aA (bT O (aW (lW O O (by omega)) (iC O (bZ ?_)))))))
    refine dN (k - 1) ?_ ?_ ?_ ?_
    ·exact oO
    ·exact rP
    ·(try dsimp only)
     first | done | exact ⟨⟨by omega, by rw [e1, QS hk0 hat]⟩, HD2⟩
    ·(try dsimp only); omega
  ·(try simp only [aF] at h2)
   refine eH (aT (aT (bU (aZ (mP O (aC (fD results12 O ?_)))))))
   exact ⟨by rw [e1, Xd (by omega)], HL⟩
 ·(try simp only [aF] at h1)
  have hb : ¬ back = true := by have h9 := h1; rw [h9]; decide
  have e0 : jg l p i back = qO l p (qE l p - max i 0 + 1).toNat (max i 0).toNat := by unfold jg; rw [if_neg hb]
  refine iy (aO (bY O (aW (afe O O) (iP O (bg ?_)))))
  refine gq [(0, _), (1, _), (9, _)] (fun (k : Int) => [(11, .int .i64 k)]) (fun (k : Int) W => (0 ≤ k ∧ jg l p i back = qO l p (qE l p - k + 1).toNat k.toNat) ∧ V w0 W F) (fun (k : Int) => (qE l p - k + 1).toNat) (max i 0) Du oO ⟨⟨by omega, e0⟩, H⟩ ?_
  rintro k w3 ⟨⟨hk0, e1⟩, HL⟩
  dsimp only [List.cons_append, List.nil_append]
  refine aO (bY O (bT O (aW (qc O O) (jv O (fun h4 => ?_) (fun h4 => ?_)))))
  ·(try simp only [aF] at h4)
   refine iy (aO (bg (aO ?_)))
   have hk : k ≤ qE l p := by unfold qE; omega
   have hmm : k ≤ (l.length : Int) - p.length := hk
   refine aA (jy O O (jy O O (aW (jJ (hv2 _ (HL)) ay O) (aW (fP O O (by omega)) (aW (vU (hv1 _ (HL)) ay iE O O O (by omega)) ?_)))))
   refine bT O (fE O func42 (JH _ _ _ _ _ (jP.cut (hv1 _ (HL)) (by omega) (by omega)) (hv2 _ (HL))) ?_)
   rintro _ w4 ⟨rfl, hD4⟩
   have HD4 := HL.Gp hD4
   refine jv O (fun h5 => ?_) (fun h5 => ?_)
   ·(try simp only [aF] at h5)
    have hat := (Na hk0 hk).1 h5
    refine bY O (ig O (aX (aC (aC (aX (aC (fD results12 O ?_)))))))
    exact ⟨by rw [e1, KY hk0 hk hat], HD4⟩
   ·(try simp only [aF] at h5)
    have hat : ¬ HY l p k.toNat = true := fun c => absurd ((Na hk0 hk).2 c) (by have h9 := h5; simpa using h9)
    refine dS (aP (aZ (aA (bT O (aW (fP O O (by omega)) (iC O (bZ ?_)))))))
    refine dN (k + 1) ?_ ?_ ?_ ?_
    ·exact oO
    ·exact Du
    ·(try dsimp only)
     first | done | exact ⟨⟨by omega, by rw [e1, OV hk0 hk hat]⟩, HD4⟩
    ·(try dsimp only); omega
  ·(try simp only [aF] at h4)
   refine eH (aT (aT (bU (aZ (mP O (fD results12 O ?_))))))
   exact ⟨by rw [e1, CS (by unfold qE; omega)], HL⟩
end
section
variable {w0 w : World} {F : HP} {v v2 : Value} {us : List Value} {ls : List (List Int)} {p : List Int} {place at_ : Int} {back : Bool}
theorem CU (H : V w0 w F) (hv : EL w0 F 1 v ls.length us) (he : ∀ k, k < ls.length → jm w0 F .i32 (us.getD k undef) (ls.getD k [])) (hv2 : jm w0 F .i32 v2 p) (hb8 : ls.length ≤ 4611686018427387904) (TN : ∀ k, k < ls.length → (ls.getD k []).length ≤ 4611686018427387904) :
    iM prog 4 #[v, .int .i64 place, .int .i64 at_, v2, .bool back] w fun v w' => v = .tuple #[.int .i64 (lq ls place at_ p back).1, .int .i64 (lq ls place at_ p back).2.1, .bool (lq ls place at_ p back).2.2] ∧ V w0 w' F := by
  refine adW func4 ntmps4 ?_
  refine jw (iC O (iC O (iP O ?_)))
  refine abG ?_
  refine aO (bY O (aW (fG O O) (mX O (fun h1 => ?_) (fun h1 => ?_))))
  · (try simp only [aF] at h1)
    refine dF (dF (dF (dF (nZ O O (bT O (dF (dF (dF (nZ O O (jd (GV (jw (iC O (iC O (ig O (aC ?_))))))))))))))))
    refine vI ?_
    refine qM (.inl O) results4 O O O ?_
    have hbad : lq ls place at_ p back = (0, 0, false) := by unfold lq; rw [if_pos (by omega)]
    exact ⟨by rw [hbad], H⟩
  · (try simp only [aF] at h1)
    refine bW (bT O (bW (bT O (bW (aW (fV (hv _ (H)) bH O) (bW (aW (nM O O) (kX O O (mX O (fun h2 => ?_) (fun h2 => ?_))))))))))
    · (try simp only [aF] at h2)
      refine dF (dF (dF (nZ O O (jd (GV (jw (iC O (iC O (ig O (aC ?_))))))))))
      refine vI ?_
      refine qM (.inl O) results4 O O O ?_
      have hbad : lq ls place at_ p back = (0, 0, false) := by unfold lq; rw [if_pos (by omega)]
      exact ⟨by rw [hbad], H⟩
    · (try simp only [aF] at h2)
      refine bW (bT O (bW (aW (jJ (hv2 _ (H)) ay O) (bW (aW (kP O O) (kX O O (jv O (fun h3 => ?_) (fun h3 => ?_))))))))
      · (try simp only [aF] at h3)
        refine jw (iC O (iC O (ig O (aC ?_))))
        refine vI ?_
        refine qM (.inl O) results4 O O O ?_
        have hbad : lq ls place at_ p back = (0, 0, false) := by unfold lq; rw [if_pos (by omega)]
        exact ⟨by rw [hbad], H⟩
      · (try simp only [aF] at h3)
        have h09 := h3
        have hgood : lq ls place at_ p back = findAt ls place at_ p back place := by unfold lq findAt; rw [if_neg (by omega)]
        refine iy (kQ O ?_)
        refine rU [(0, _), (1, _), (2, _), (3, _), (4, _)] (fun (_ : Unit) => [(13, .int .i64 (if back then -1 else 1))]) (fun (_ : Unit) W => W = w) sb5 ?_ ?_
        · rintro _ w1 rfl
          dsimp only [List.cons_append, List.nil_append]
          refine rU [(0, _), (1, _), (2, _), (3, _), (4, _)] (fun (_ : Unit) => [(13, .int .i64 (if back then -1 else 1))]) (fun (_ : Unit) W => W = w1) sb5 ?_ ?_
          · rintro _ w2 rfl
            dsimp only [List.cons_append, List.nil_append]
            refine aO (bY O (iP O (bg ?_)))
            refine gq [(0, _), (1, _), (2, _), (3, _), (4, _), (13, _)] (fun (i : Int) => [(14, .int .i64 i)]) (fun (i : Int) W => ((-1 ≤ i ∧ i ≤ ls.length) ∧ (back = true → i < ls.length) ∧ (¬ back = true → 0 ≤ i) ∧ lq ls place at_ p back = findAt ls place at_ p back i) ∧ V w0 W F) (fun (i : Int) => if back then (i + 1).toNat else ((ls.length : Int) - i).toNat) (place) MH oO ⟨⟨by omega, by omega, by omega, hgood⟩, H⟩ ?_
            rintro i w3 ⟨⟨hi, hbk, hfw, e1⟩, HL⟩
            dsimp only [List.cons_append, List.nil_append]
            refine aO (bY O (aW (nM O O) (mX O (fun h4 => ?_) (fun h4 => ?_))))
            · (try simp only [aF] at h4)
              refine bW (bT O (bW (bT O (bW (aW (fV (hv _ (HL)) bH O) (bW (aW (fG O O) (nZ O O (jv O (fun h5 => ?_) (fun h5 => ?_))))))))))
              · (try simp only [aF] at h5)
                refine iy (aO (bg (aO ?_)))
                have hi0 : 0 ≤ i := by omega
                have hil : i < ls.length := by omega
                have af6 := TN i.toNat (by omega)
                have hia : i.toNat < ls.length := by omega
                refine aA (iP O ?_)
                refine rU [(0, _), (1, _), (2, _), (3, _), (4, _), (13, _), (14, _), (35, _), (36, _), (37, _), (38, _)] (fun (_ : Unit) => [(15, .int .i64 (if i = place then at_ else if back then ((ls.getD i.toNat []).length : Int) else 0))]) (fun (_ : Unit) W => W = w3) (Sub.cons O (Sub.cons O (Sub.cons O (Sub.cons O (Sub.cons O MH))))) ?_ ?_
                · rintro _ w4 rfl
                  dsimp only [List.cons_append, List.nil_append]
                  refine bY O (bT O ?_)
                  obtain ⟨bv, ov, cv, ev⟩ := Rd.nR (hv _ (HL)) (by omega)
                  cases ev
                  refine aW (dD bH bF O O (by omega)) ?_
                  refine aW (eG (dn ay O) O (by first | exact Rd.sO (hv _ (HL)) (by omega) | exact Rd.EF (hv _ (HL)) (by omega) | exact Rd.Ey (hv _ (HL)) (by omega))) ?_
                  refine GU (fun aiC aeB => ?_)
                  refine jy O O (bT O (fE O func12 (PX HL (fun W HW => (by rw [aeB]; exact he _ (by omega) _ (HW))) (fun W HW => hv2 _ (HW)) (by omega)) ?_))
                  rintro _ w6 ⟨rfl, H6⟩
                  refine iP O (bY O (aW (nM O O) (jv O (fun h6 => ?_) (fun h6 => ?_))))
                  · (try simp only [aF] at h6)
                    have hyes : 0 ≤ um ls place at_ p back i.toNat := by unfold um; rw [show ((i.toNat : Nat) : Int) = i from by omega]; exact h6
                    refine bY O (bT O (iC O (iC O (ig O (aX (aC (aC (aX (aC ?_)))))))))
                    refine vI ?_
                    refine qM (.inl O) results4 O O O ?_
                    exact ⟨by rw [e1, Ia hi0 hil hyes]; unfold um; rw [show ((i.toNat : Nat) : Int) = i from by omega], H6⟩
                  · (try simp only [aF] at h6)
                    have hno : ¬ 0 ≤ um ls place at_ p back i.toNat := by unfold um; rw [show ((i.toNat : Nat) : Int) = i from by omega]; have h9 := h6; omega
                    refine dS (aP (aZ (aA (jy O O (aW (fP O O (by omega)) (iC O (bZ ?_)))))))
                    refine dN (i + if back then -1 else 1) ?_ ?_ ?_ ?_
                    · exact oO
                    · exact MH
                    · (try dsimp only)
                      first | done | exact ⟨⟨by cases back <;> simp at * <;> omega, by cases back <;> simp at * <;> omega, by cases back <;> simp at * <;> omega, e1.trans (Bq hi0 hil (by first | exact hno | exact Jk (by simpa using ‹back = true›) (by omega) (by omega) | exact Jl (by simp_all) (by omega) (by omega)))⟩, H6⟩
                    · cases back <;> simp <;> omega
                · skip
                  refine bg (bY O (bT O (aW (kP O O) (mX O (fun h7 => ?_) (fun h7 => ?_)))))
                  · (try simp only [aF] at h7)
                    refine bW (bT O (nZ O O (mX O (fun h8 => ?_) (fun h8 => ?_))))
                    · (try simp only [aF] at h8)
                      refine bW (bT O (bW (aW (fG O O) (nZ O O (mX O (fun h9 => ?_) (fun h9 => ?_))))))
                      · (try simp only [aF] at h9)
                        refine dF (dF (dF (dF (uT (uT (dF (dF (uT (uT (uT (uT (uT (uT (uT (dF (nZ O O (iP O (GV (eH ?_)))))))))))))))))))
                        refine vT (by decide) ?_
                        refine aT (bU (aZ (aA (jy O O (aW (fP O O (by omega)) (iC O (bZ ?_)))))))
                        refine dN (i + if back then -1 else 1) ?_ ?_ ?_ ?_
                        · exact oO
                        · exact MH
                        · (try dsimp only)
                          first | done | exact ⟨⟨by cases back <;> simp at * <;> omega, by cases back <;> simp at * <;> omega, by cases back <;> simp at * <;> omega, e1.trans (Bq hi0 hil (by first | exact hno | exact Jk (by simpa using ‹back = true›) (by omega) (by omega) | exact Jl (by simp_all) (by omega) (by omega)))⟩, HL⟩
                        · cases back <;> simp <;> omega
                      · (try simp only [aF] at h9)
                        refine bW (bT O (bW (bT O (bW (aW (kP O O) (bW (mX O (fun h10 => ?_) (fun h10 => ?_))))))))
                        · (try simp only [aF] at h10)
                          refine bW (bT O (bW (aW (mG O) (bW (nZ O O (bW (mX O (fun h11 => ?_) (fun h11 => ?_))))))))
                          · (try simp only [aF] at h11)
                            refine bW (bT O (bW (bT O (bW (bT O (bW ?_))))))
                            obtain ⟨bv, ov, cv, ev⟩ := Rd.nR (hv _ (HL)) (by omega)
                            cases ev
                            refine aW (dD bH bF O O (by omega)) (bW ?_)
                            refine aW (eG (dn ay O) O (by first | exact Rd.sO (hv _ (HL)) (by omega) | exact Rd.EF (hv _ (HL)) (by omega) | exact Rd.Ey (hv _ (HL)) (by omega))) ?_
                            refine GU (fun aiD aeC => ?_)
                            refine bW ?_
                            refine aW (jJ ((by rw [aeC]; exact he _ (by omega) _ (HL))) ay O) ?_
                            refine bW (aW (iT O O) (bW (nZ O O (kX O O (iP O (dA O (fun h12 => ?_) (fun h12 => ?_)))))))
                            · (try simp only [aF] at h12)
                              refine eH ?_
                              refine vT (by decide) ?_
                              refine aT (bU (aZ (aA (jy O O (aW (fP O O (by omega)) (iC O (bZ ?_)))))))
                              refine dN (i + if back then -1 else 1) ?_ ?_ ?_ ?_
                              · exact oO
                              · exact MH
                              · (try dsimp only)
                                first | done | exact ⟨⟨by cases back <;> simp at * <;> omega, by cases back <;> simp at * <;> omega, by cases back <;> simp at * <;> omega, e1.trans (Bq hi0 hil (by first | exact hno | exact Jk (by simpa using ‹back = true›) (by omega) (by omega) | exact Jl (by simp_all) (by omega) (by omega)))⟩, HL⟩
                              · cases back <;> simp <;> omega
                            · (try simp only [aF] at h12)
                              refine bY O (bT O (aW (kP O O) (iP O (dA O (fun h13 => ?_) (fun h13 => ?_)))))
                              · (try simp only [aF] at h13)
                                refine aA (bT O (iC O (bZ (aP ?_))))
                                refine gB (()) ?_ ?_ ?_
                                · exact (Sub.qP O (by simp_all) (Sub.nil _))
                                · exact (Sub.cons O (Sub.cons O (Sub.cons O (Sub.cons O (Sub.cons O MH)))))
                                · (try dsimp only)
                                  first | done | exact rfl
                              · (try simp only [aF] at h13)
                                exfalso; first | contradiction | omega
                          · (try simp only [aF] at h11)
                            refine dF (dF (dF (dF (dF (dF (dF (bW (kX O O (kX O O (iP O (vS (bY O (bT O (aW (kP O O) (iP O (dA O (fun h15 => ?_) (fun h15 => ?_)))))))))))))))))
                            · (try simp only [aF] at h15)
                              refine aA (bT O (iC O (bZ (aP ?_))))
                              refine gB (()) ?_ ?_ ?_
                              · exact (Sub.qP O (by simp_all) (Sub.nil _))
                              · exact (Sub.cons O (Sub.cons O (Sub.cons O (Sub.cons O (Sub.cons O MH)))))
                              · (try dsimp only)
                                first | done | exact rfl
                            · (try simp only [aF] at h15)
                              exfalso; first | contradiction | omega
                        · (try simp only [aF] at h10)
                          exfalso; first | contradiction | omega
                    · (try simp only [aF] at h8)
                      refine dF (dF (kX O O (bT O (bW (bT O (bW (bT O (bW (aW (kP O O) (bW (mX O (fun h19 => ?_) (fun h19 => ?_))))))))))))
                      · (try simp only [aF] at h19)
                        refine bW (bT O (bW (aW (mG O) (bW (nZ O O (bW (mX O (fun h20 => ?_) (fun h20 => ?_))))))))
                        · (try simp only [aF] at h20)
                          refine bW (bT O (bW (bT O (bW (bT O (bW ?_))))))
                          obtain ⟨bv, ov, cv, ev⟩ := Rd.nR (hv _ (HL)) (by omega)
                          cases ev
                          refine aW (dD bH bF O O (by omega)) (bW ?_)
                          refine aW (eG (dn ay O) O (by first | exact Rd.sO (hv _ (HL)) (by omega) | exact Rd.EF (hv _ (HL)) (by omega) | exact Rd.Ey (hv _ (HL)) (by omega))) ?_
                          refine GU (fun ahK acU => ?_)
                          refine bW ?_
                          refine aW (jJ ((by rw [acU]; exact he _ (by omega) _ (HL))) ay O) ?_
                          refine bW (aW (iT O O) (bW (nZ O O (kX O O (iP O (dA O (fun h21 => ?_) (fun h21 => ?_)))))))
                          · (try simp only [aF] at h21)
                            refine eH ?_
                            refine vT (by decide) ?_
                            refine aT (bU (aZ (aA (jy O O (aW (fP O O (by omega)) (iC O (bZ ?_)))))))
                            refine dN (i + if back then -1 else 1) ?_ ?_ ?_ ?_
                            · exact oO
                            · exact MH
                            · (try dsimp only)
                              first | done | exact ⟨⟨by cases back <;> simp at * <;> omega, by cases back <;> simp at * <;> omega, by cases back <;> simp at * <;> omega, e1.trans (Bq hi0 hil (by first | exact hno | exact Jk (by simpa using ‹back = true›) (by omega) (by omega) | exact Jl (by simp_all) (by omega) (by omega)))⟩, HL⟩
                            · cases back <;> simp <;> omega
                          · (try simp only [aF] at h21)
                            refine bY O (bT O (aW (kP O O) (iP O (dA O (fun h22 => ?_) (fun h22 => ?_)))))
                            · (try simp only [aF] at h22)
                              refine aA (bT O (iC O (bZ (aP ?_))))
                              refine gB (()) ?_ ?_ ?_
                              · exact (Sub.qP O (by simp_all) (Sub.nil _))
                              · exact (Sub.cons O (Sub.cons O (Sub.cons O (Sub.cons O (Sub.cons O MH)))))
                              · (try dsimp only)
                                first | done | exact rfl
                            · (try simp only [aF] at h22)
                              exfalso; first | contradiction | omega
                        · (try simp only [aF] at h20)
                          refine dF (dF (dF (dF (dF (dF (dF (bW (kX O O (kX O O (iP O (vS (bY O (bT O (aW (kP O O) (iP O (dA O (fun h24 => ?_) (fun h24 => ?_)))))))))))))))))
                          · (try simp only [aF] at h24)
                            refine aA (bT O (iC O (bZ (aP ?_))))
                            refine gB (()) ?_ ?_ ?_
                            · exact (Sub.qP O (by simp_all) (Sub.nil _))
                            · exact (Sub.cons O (Sub.cons O (Sub.cons O (Sub.cons O (Sub.cons O MH)))))
                            · (try dsimp only)
                              first | done | exact rfl
                          · (try simp only [aF] at h24)
                            exfalso; first | contradiction | omega
                      · (try simp only [aF] at h19)
                        exfalso; first | contradiction | omega
                  · (try simp only [aF] at h7)
                    refine dF (kX O O (bT O (dF (dF (kX O O (bT O (bW (bT O (bW (bT O (bW (aW (kP O O) (bW (mX O (fun h28 => ?_) (fun h28 => ?_)))))))))))))))
                    · (try simp only [aF] at h28)
                      exfalso; first | contradiction | omega
                    · (try simp only [aF] at h28)
                      refine dF (dF (bW (kX O O (bW (bT O (dF (dF (dF (dF (dF (dF (dF (bW (kX O O (kX O O (iP O (vS (bY O (bT O (aW (kP O O) (iP O (dA O (fun h35 => ?_) (fun h35 => ?_)))))))))))))))))))))))
                      · (try simp only [aF] at h35)
                        exfalso; first | contradiction | omega
                      · (try simp only [aF] at h35)
                        refine bY O (iP O (dA O (fun h36 => ?_) (fun h36 => ?_)))
                        · (try simp only [aF] at h36)
                          refine aA (jy O O ?_)
                          obtain ⟨bv, ov, cv, ev⟩ := Rd.nR (hv _ (HL)) (by omega)
                          cases ev
                          refine aW (dD bH bF O O (by omega)) ?_
                          refine aW (eG (dn ay O) O (by first | exact Rd.sO (hv _ (HL)) (by omega) | exact Rd.EF (hv _ (HL)) (by omega) | exact Rd.Ey (hv _ (HL)) (by omega))) ?_
                          refine GU (fun ahL acV => ?_)
                          refine aW (jJ ((by rw [acV]; exact he _ (by omega) _ (HL))) ay O) ?_
                          refine iC O (bZ (aP ?_))
                          refine gB (()) ?_ ?_ ?_
                          · exact (Sub.qP O (by simp_all) (Sub.nil _))
                          · exact (Sub.cons O (Sub.cons O (Sub.cons O (Sub.cons O (Sub.cons O MH)))))
                          · (try dsimp only)
                            first | done | exact rfl
                        · (try simp only [aF] at h36)
                          refine dS (aP ?_)
                          refine gB (()) ?_ ?_ ?_
                          · exact (Sub.qP O (by simp_all) (Sub.nil _))
                          · exact (Sub.cons O (Sub.cons O (Sub.cons O (Sub.cons O (Sub.cons O MH)))))
                          · (try dsimp only)
                            first | done | exact rfl
              · (try simp only [aF] at h5)
                refine eH (aT (aT (bU (aZ (jw (iC O (iC O (ig O ?_))))))))
                refine vI ?_
                refine qM (.inl O) results4 O O O ?_
                exact ⟨by rw [e1, zo (by omega) hbk hfw], HL⟩
            · (try simp only [aF] at h4)
              refine dF (dF (dF (dF (kX O O (jd (vS (eH (aT (aT (bU (aZ (jw (iC O (iC O (ig O ?_)))))))))))))))
              refine vI ?_
              refine qM (.inl O) results4 O O O ?_
              exact ⟨by rw [e1, zo (by omega) hbk hfw], HL⟩
          · skip
            refine abH ?_
            refine gB (()) ?_ ?_ ?_
            · exact (Sub.qP O (by simp_all) (Sub.nil _))
            · exact sb5
            · (try dsimp only)
              first | done | exact rfl
        · skip
          refine bY O (jv O (fun h37 => ?_) (fun h37 => ?_))
          · (try simp only [aF] at h37)
            refine aA (iC O (bZ ?_))
            refine gB (()) ?_ ?_ ?_
            · exact (Sub.qP O (by simp_all) (Sub.nil _))
            · exact sb5
            · (try dsimp only)
              first | done | exact rfl
          · (try simp only [aF] at h37)
            refine dS ?_
            refine gB (()) ?_ ?_ ?_
            · exact (Sub.qP O (by simp_all) (Sub.nil _))
            · exact sb5
            · (try dsimp only)
              first | done | exact rfl
end
def Fj (s : ByteArray) : List Int := rY (uP s)
def setAt (l : List (List Int)) (x : Int × ByteArray) : List (List Int) := l.set x.1.toNat (Fj x.2)
def dw.wL (s : dw) : List (List Int) := (s.hl.map fun x => Fj x.1) ++ [[]]
def dw.lines (s : dw) : List (List Int) := (s.saved.foldl setAt s.wL).set s.c.place.toNat s.c.L
theorem QT (l : List (List Int)) (x : Int × ByteArray) : (setAt l x).length = l.length := by unfold setAt; simp
theorem tJ (xs : List (Int × ByteArray)) : ∀ l : List (List Int), (xs.foldl setAt l).length = l.length := by
  induction xs with
  | nil => intro l; rfl
  | cons x xs ih => intro l; rw [List.foldl_cons, ih, QT]
theorem dw.zq (s : dw) : s.wL.length = s.hl.length + 1 := by unfold dw.wL; simp
theorem dw.F7 (s : dw) : s.lines.length = s.hl.length + 1 := by unfold dw.lines; rw [List.length_set, tJ, s.zq]
theorem Vd {hl : List oH} {tx : Int → Option ByteArray} {place : Int} {n : Nat} {x : Int × ByteArray} (h : x ∈ o9 hl tx place n) : (0 ≤ x.1 ∧ x.1 < n) ∧ x.2 = dR hl tx x.1 := by
  unfold o9 at h
  obtain ⟨k, hk, rfl⟩ := List.mem_map.1 h
  have := (List.mem_filter.1 hk).1
  rw [List.mem_range] at this
  exact ⟨by dsimp only; omega, rfl⟩
theorem Fp {hl : List oH} {tx : Int → Option ByteArray} {place : Int} {x : Int × ByteArray} (h : x ∈ pW hl tx place) : (0 ≤ x.1 ∧ x.1 ≤ hl.length) ∧ x.2 = dR hl tx x.1 := by
  unfold pW at h
  rcases List.mem_append.1 h with h | h
  · have := Vd h; exact ⟨by omega, this.2⟩
  · split at h
    · obtain rfl := List.mem_singleton.1 h; exact ⟨by dsimp only; omega, rfl⟩
    · cases h
theorem La (hl : List oH) (tx : Int → Option ByteArray) (place : Int) : (pW hl tx place).length ≤ hl.length + 1 := by
  unfold pW
  have := uO hl tx place hl.length
  rw [List.length_append]
  split <;> simp <;> omega
theorem BJ.set {I : Hp} {k : IntKind} {vs : List Value} {ls : List (List Int)} {v : Value} {l : List Int} (h : BJ I k vs ls) (g : Gf I k v l) (j : Nat) : BJ I k (vs.set j v) (ls.set j l) := by
  refine ⟨by simp [h.1], fun i hi => ?_⟩
  have hv := h.1
  rw [List.length_set] at hi
  by_cases e : j = i
  · subst e
    rw [List.getD_eq_getElem?_getD, List.getD_eq_getElem?_getD, List.getElem?_set_self (by omega), List.getElem?_set_self hi]
    exact g
  · have h1 := h.2 i hi
    rw [List.getD_eq_getElem?_getD, List.getD_eq_getElem?_getD] at h1 ⊢
    rw [List.getElem?_set_ne e, List.getElem?_set_ne e]
    exact h1
theorem Lc {α β : Type} (f : β → α → β) (s : β) (l : List α) (d : α) {k : Nat} (h : k < l.length) : (l.take (k + 1)).foldl f s = f ((l.take k).foldl f s) (l.getD k d) := by
  rw [List.take_succ_eq_append_getElem h, List.foldl_append, List.getD_eq_getElem?_getD, List.getElem?_eq_getElem h]; rfl
theorem GK {α β : Type} [Inhabited α] (f : α → β) (l : List α) {k : Nat} (h : k < l.length) : (l.take (k + 1)).map f = (l.take k).map f ++ [f (l.getD k default)] := by
  rw [List.take_succ_eq_append_getElem h, List.map_append, List.getD_eq_getElem?_getD, List.getElem?_eq_getElem h]; rfl
section
variable {w0 w : World} {F : HP} {k : IntKind} {v : Value} {l : List Int} {vs : List Value} {ls : List (List Int)} {p : Nat} {hl : List oH} {base most : Int}
theorem V.Fq (H : V w0 w (nS k v l • o7 k vs ls • F)) (j : Nat) : V w0 w (o7 k (vs.set j v) (ls.set j l) • F) := H.F9 (vV (fun I h g => g.set h j) F)
def Yn (c : Nat) (ls : List (List Int)) : HP := yC fun (x : Value × List Value) => eF c (.cells #[x.1] 22 (0, 0)) • Row 23 1 x.1 ls.length x.2 • o7 .i32 x.2 ls
theorem V.lin {c : Nat} (H : V w0 w (Yn c ls • F)) : ∃ u us, V w0 w (eF c (.cells #[u] 22 (0, 0)) • Row 23 1 u ls.length us • o7 .i32 us ls • F) := by
  obtain ⟨⟨u, us⟩, H⟩ := H.pO
  exact ⟨u, us, H.of_eq (by simp only [dK])⟩
theorem V.SI {c n : Nat} {u : Value} {us : List Value} (hn : n = ls.length) (H : V w0 w (eF c (.cells #[u] 22 (0, 0)) • Row 23 1 u n us • o7 .i32 us ls • F)) : V w0 w (Yn c ls • F) :=
  V.jG (u, us) (by subst hn; exact H.of_eq (by simp only [dK]))
theorem V.J8 (H : V w0 w F) : V w0 w (nS k (.slice none 0 0) [] • F) := H.xU fun I => ⟨none, 0, rfl, by simp, by decide, fun h => by simp at h⟩
theorem Xf (H : V w0 w F) (hv : v.oneCell' = true) : iM prog 81 #[v] w fun v' w' => ∃ b, v' = .func (.func 128) #[] #[.pointer (some ⟨b, 0, none⟩)] ∧ V w0 w' (eF b (.cells #[v] 24 (0, 0)) • F) := by
  refine iQ func81 ntmps81 ?_
  refine jw (iY (jo (l := [_]) H O (by first | rfl | exact FQ (by first | rfl | assumption))) ?_)
  rintro _ w1 ⟨b1, rfl, H1⟩
  refine iP O (jw (aW (BD O O) (ig O (fD results81 O ?_))))
  exact ⟨_, O, H1⟩
theorem acW (b : Nat) : Iter prog w0 (.func (.func 128) #[] #[.pointer (some ⟨b, 0, none⟩)]) (eF b (.cells #[v] 24 (0, 0)) • Row 41 2 v hl.length (hl.flatMap lD)) hl.length
  (fun k vs A => vs = [.int .i64 (k : Int), .agg (lD (hl.getD k default)).toArray] ∧ A = emp) := by
 intro l J X w hy H
 refine ⟨128, [], [.pointer (some ⟨b, 0, none⟩)], _, _, O, func128, O, O, ?_⟩
 have H1 : V w0 w (eF b (.cells #[v] 24 (0, 0)) • Row 41 2 v hl.length (hl.flatMap lD) • J 0) := H.of_eq (by ac_rfl)
 obtain ⟨a, c, hv, hc1, hc2, _⟩ := (H1.swap.aN).form
 subst hv
 simp only [List.nil_append, List.cons_append]
 refine YG func128 ntmps128 ?_
 dsimp only [Ad, Nat.reduceAdd]
 refine jw (fB bM O (H1).get.2 O (aW (fV ((H1.f2).aN) bM O) (bT O (jd (bg ?_)))))
 refine gq [(0, _), (5, _), (6, _)] (fun (k : Nat) => [(7, .int .i64 (k : Int))]) (fun (k : Nat) W => k ≤ hl.length ∧ V w0 W (eF b (.cells #[.slice a hl.length c] 24 (0, 0)) • Row 41 2 (.slice a hl.length c) hl.length (hl.flatMap lD) • J k)) (fun (k : Nat) => hl.length - k) (0) Du oO ⟨by omega, H1⟩ ?_
 rintro k w1 ⟨hk, HL⟩
 dsimp only [List.cons_append, List.nil_append]
 refine jw (aW (fG O O) (rV (dA O (fun h1 => ?_) (fun h1 => ?_))))
 ·(try simp only [aF] at h1)
  refine iy (aO (bg (aO ?_)))
  have hkl : k < hl.length := by omega
  refine aA (bT O ?_)
  obtain ⟨bv, ov, cv, ev⟩ := Rd.nR ((HL.f2).aN) (by omega)
  cases ev
  refine aW (dD bM jl O O (by omega)) (aW (qo (ys := [_, _]) ((HL.f2).aN) (by omega) gX O jl O (o8 zf (by omega) default) O) (iY (fK (l := [_, _]) HL mg O) ?_))
  rintro _ w2 ⟨b2, rfl, H2⟩
  refine iC O (aI (dG 0 (l' := [_, _]) (us := [_, _]) H2 jl O O O (aG (aG bK)) O O) ?_)
  rintro _ w3 H3
  refine ql O (bT O (aW (dI gX O jl O O (H3).get.2) (iY (MS O O (hy k (by omega) _ _ ⟨O, O⟩ (Row 41 2 (.slice (some ⟨bv, ov, none⟩) hl.length c) hl.length (hl.flatMap lD) • eF b (.cells #[.slice (some ⟨bv, ov, none⟩) hl.length c] 24 (0, 0))) _ ((V.MF H3.right.f2.f2).of_eq (by ac_rfl))).bool) ?_)))
  rintro _ w4 ⟨t, rfl, ht1, ht2⟩
  refine aW (mG O) (jv O (fun h2 => ?_) (fun h2 => ?_))
  ·(try simp only [aF] at h2)
   have HX := ht2 (by simpa using h2)
   refine mZ (aX (aC (aC (aX (we0 results128 ?_)))))
   exact .inr (HX.of_eq (by ac_rfl))
  ·(try simp only [aF] at h2)
   have HN : V w0 w4 (eF b (.cells #[.slice (some ⟨bv, ov, none⟩) hl.length c] 24 (0, 0)) • Row 41 2 (.slice (some ⟨bv, ov, none⟩) hl.length c) hl.length (hl.flatMap lD) • J (k + 1)) := by
    have h9 := ht1 (by simpa using h2)
    exact h9.of_eq (by ac_rfl)
   refine dS (aP (aZ (aA (aW (fP O O (by omega)) (bT O (bZ ?_))))))
   refine dN (k + 1) ?_ ?_ ?_ ?_
   ·exact oO
   ·exact Du
   ·(try dsimp only)
    first | done | exact ⟨by omega, HN.f2.f2⟩
   ·(try dsimp only); omega
 ·(try simp only [aF] at h1)
  refine eH (aT (aT (bU (kY (.inr O) results128 ?_))))
  obtain rfl : k = hl.length := by omega
  exact .inl (HL.of_eq (by ac_rfl))
theorem SK (H : V w0 w (iI p hl base most • F)) : iM prog 37 #[.pointer (some ⟨p, 0, none⟩)] w fun v' w' => ∃ b v, v' = .func (.func 128) #[] #[.pointer (some ⟨b, 0, none⟩)] ∧
  V w0 w' (eF b (.cells #[v] 24 (0, 0)) • Row 41 2 v hl.length (hl.flatMap lD) • iI p hl base most • F) := by
 refine iQ func37 ntmps37 ?_
 refine kQ O (kQ O (aO (bY O (fE O func79 (zC H) ?_))))
 rintro _ _ ⟨rfl, rfl⟩
 refine aW (mG O) (jd (GV ?_))
 obtain ⟨Pz, vO, xX⟩ := (H).hist
 have hcl := vO.1
 refine aA (mJ O O (bn 0 iF O mO O (bn 0 iG O gW O (fB bM O (xX).get.2 O (fE O func80 (Ed xX (fun W HW => (HW.f2).aN) (by omega)) ?_)))))
 rintro u3 w3 H3
 refine iP O (bY O (fE O func81 (Xf H3 (Rd.one ((H3).aN))) ?_))
 rintro _ w4 ⟨bA4, rfl, H4⟩
 refine ig O (fD results37 O ?_)
 have Ho6 := H4.f4.f4
 have Hc7 := V.Ec vO Ho6
 exact ⟨_, _, O, Hc7.f3.f3⟩
end
section
variable {w0 w : World} {F : HP} {e : Nat} {s : dw}
theorem QU {hl : List oH} (h : ∀ x ∈ hl, aat x) {k : Nat} (hk : k < hl.length) : (hl.getD k default).1.size ≤ 16384 := by
  rw [List.getD_eq_getElem?_getD, List.getElem?_eq_getElem hk]; exact (h _ (List.getElem_mem hk)).1
theorem Jm (H : V w0 w (jq e s • F)) (hT : Cj w0) : iM prog 10 #[.pointer (some ⟨e, 0, none⟩)] w fun v w' => ∃ us, V w0 w' (Row 23 1 v s.lines.length us • o7 .i32 us s.lines • jq e s • F) := by
 obtain ⟨hok, hlk⟩ : JZ s.hl s.c ∧ HOk s.hl s.base s.most := by
  obtain ⟨Ap, Aq, Ar, Au, Aw, Az, AA, AB, yE, xk, xq, xu, xw, xA, xB, xC, xE, xG, xH, xI, jf, dX, nG, kF⟩ := (H).Ox
  obtain ⟨hv9, hk9, _⟩ := (kF.f7).hist
  exact ⟨jf.1, hk9⟩
 have hln := hlk.1
 have hpl := hok.1
 have hsl : s.saved.length ≤ s.hl.length + 1 := La _ _ _
 have hpl2 := hok.2.1
 refine iQ func10 ntmps10 ?_
 refine kQ O (bY O (fE O func36 (U0 H) ?_))
 rintro _ w1 ⟨q1, rfl, H1⟩
 refine sS O (bY O (aW (iJ lu O O) (jd (vS (iy (jw (iY (fK (l := [_]) H1 zeroValue22 O) ?_)))))))
 rintro _ w2 ⟨b2, rfl, H2⟩
 refine rV (bY O (fE O func37 (SK H2.f2) ?_))
 rintro _ w3 ⟨bA3, lv3, rfl, H3⟩
 refine jd (bg ?_)
 have PD := H3.f4
 have MK := V.SI (us := []) (ls := (s.hl.take 0).map fun x => Fj x.1) rfl ((PD.EX.gG none).f3)
 have Zm := MK.f4.right
 obtain ⟨R7, hR7, HR7⟩ := V.Nl (Zm.f3.f3)
 refine Am O (acW bA3) (fun k => Yn b2 ((s.hl.take k).map fun x => Fj x.1) • R7) (fact False) (fun _ => fact False) (HR7.f3.f3.f3.f3.f3.f3.g2.comm) (by rfl) ?_ ?_ ?_ ?_
 ·rintro l8 k acL vs8 A8 ⟨rfl, rfl⟩ G8 w8 H8
  try simp only [dK, qL, xK] at H8
  refine ⟨O, ?_⟩
  dsimp only [Uw]
  have hkh : k < s.hl.length := by omega
  have hks := QU hlk.2.2.2.2.2 hkh
  have hb2 := vH (s.hl.getD k default).1
  have hb3 := oq (s.hl.getD k default).1
  have hb4 : (uP (s.hl.getD k default).1).length ≤ 17179869184 := by omega
  have hlt : ((s.hl.take k).map fun x => Fj x.1).length = k := by simp; omega
  obtain ⟨u, us, HI⟩ := (H8).lin
  refine aA (iY (fK (l := [_, _]) HI mg O) ?_)
  rintro _ w9 ⟨b9, rfl, H9⟩
  refine aI (dG 0 (l' := [_, _]) (us := [_, _]) H9 jl O O O (aG (aG bK)) O O) ?_
  rintro _ w10 sF
  refine bZ ?_
  refine RS (sF.g5) ?_
  intro G11 Iq sG
  try simp only [dK] at sG
  refine bg ?_
  have adE := sG.drew
  have SL := V.kp (adE.f4.f4.f4.f4)
  refine uU [0, 2] SL O (iO 0 O SL (fun W hW => jT bH O ((Kp.h hW).f2).get.2 O) (fQ 1 O SL 0 gX O kG O (iO 2 O SL (fun W hW => jT dU O ((Kp.h hW)).get.2 O) (lU 3 O (rE adE dU bf bD O (by omega)) ?_))))
  rintro l12 w12 tN
  have DF := V.kp (tN.f5.f5.f5.f5.f5)
  refine dZ DF (fun W hW => (Kp.h hW).right.f4.f4.f4.f4) ?_
  refine lU 4 O (wY O func38 (DT tN (by assumption) (fun W HW => (HW).jh) (by assumption) (by omega))) ?_
  rintro u13 Qz Ak
  have aeD := Ak.kK
  have IW := V.kp (aeD.f6.f6.f6.f6.f6.f6)
  refine dZ IW (fun W hW => (Kp.h hW).right.f5.f5.f5.f5.f5) ?_
  refine lU 5 O (kU (vs := [_]) aeD bH bF zeroValue23 O O O (by decide) (aY (by first | rfl | exact Rd.one ((aeD).jh)) bK)) ?_
  rintro l15 Ws CG
  have CO := V.kp (CG.f7.f7.f7.f7.f7.f7.f7)
  refine dZ CO (fun W hW => (Kp.h hW).right.f6.f6.f6.f6.f6.f6) ?_
  refine lU 6 O (eX CG.f6 bH Va O O O ((CG).aN) (aY (by first | rfl | exact Rd.one ((CG.f2).jh)) bK) (by omega) (by omega)) ?_
  rintro l16 w16 yj
  have RP := yj.f2.right
  have Gt := V.kp (RP.f6.f6.f6.f6.f6.f6)
  refine fH Gt (by kernel_rfl) ?_
  refine gU 7 O (by kernel_rfl) (eY 0 (l' := [_]) RP.f5 sizeOf22 O O (by first | rfl | exact Rd.one ((RP).aN)) O O) ?_
  rintro _ ZN EM
  have E8 := V.kp (EM.f6.f6.f6.f6.f6.f6)
  refine fH E8 (by kernel_rfl) ?_
  refine qj (aP ?_)
  refine Hl ?_
  rw [GK _ _ hkh]
  exact (V.SI (by simp) (V.FV EM.f4.right.f4.right.f2.f2.f3.f4).f3.f3).deep
 ·rintro D19 ZO DY
  have af7 := DY.ed
  try simp only [dK, qL, xK] at af7
  have af8 := af7.TS
  subst hR7
  rw [List.take_of_length_le (Nat.le_refl _)] at af8
  obtain ⟨u, us, HI⟩ := (af8.f4).lin
  have hl0 : (s.hl.map fun x => Fj x.1).length = s.hl.length := by simp
  refine aP (aZ (jw (fB bH O (HI).get.2 O (iY (kU (vs := [_]) HI bH bF zeroValue23 O O O (by decide) (aG bK)) ?_))))
  rintro l20 YT EI
  refine iY (eX EI.f3 bH Va O O O ((EI).aN) (aG bK) (by omega) (by omega)) ?_
  rintro l21 YU wG
  have LW := wG.f2.right
  refine aI (eY 0 (l' := [_]) LW.f2 sizeOf22 O O (by first | rfl | exact Rd.one ((LW).aN)) O O) ?_
  rintro _ YV DC
  refine rV ?_
  have aef := DC.f3
  have aeg := ((aef).J8.swap).FV
  have aeh := aeg.f3.f3
  have aei := V.SI (ls := s.wL) (by rw [s.zq, hl0]) aeh
  refine aA (bT O (fE O func39 (Eo aei.f5) ?_))
  rintro _ w28 ⟨u28, ahM, ahN, af9, rfl, ZP⟩
  obtain ⟨bus, rfl⟩ : ∃ q, q = ahN := ⟨_, rfl⟩
  refine iY (fK (l := [_, _, _, _, _, _, _, _, _, _, _, _, _, _, _, _, _]) ZP je O) ?_
  rintro _ w29 ⟨b29, rfl, JQ⟩
  refine aI (dG 0 (l' := [_, _, _, _, _, _, _, _, _, _, _, _, _, _, _, _, _]) (us := [_, _, _, _, _, _, _, _, _, _, _, _, _, _, _, _, _]) JQ pF O O O (aY (by first | rfl | exact Rd.one ((JQ.f2).aN)) (aG (aG (aG (aG (aG (aG (aG (aG (aG (aG (aY (by first | rfl | exact Rd.one ((JQ.f3).aN)) (aG (aY (by first | rfl | exact Rd.one ((JQ.f5).aN)) (aG (aG (aG bK))))))))))))))))) O O) ?_
  rintro _ w30 PG
  refine rV (jw (bn 13 dY O sizeOf77 O (fB iV O (PG).get.2 O (aW (fV ((PG.f5).aN) iV O) (bT O (jd (bg ?_)))))))
  refine gq [(4, _), (7, _), (31, _), (32, _)] (fun (j : Nat) => [(33, .int .i64 (j : Int))]) (fun (j : Nat) W => j ≤ s.saved.length ∧ V w0 W (Marks [D19] • Yn b2 ((s.saved.take j).foldl setAt s.wL) • eF b29 (.cells (Hz s u28 ahM af9).toArray 79 (0, 0)) • jR 21 .i32 u28 s.c.L • Row 82 2 af9 s.saved.length (s.saved.flatMap BP) • jq e s • F)) (fun (j : Nat) => s.saved.length - j) (0) Wh oO ⟨by omega, PG.f3.right.f3.right.f7.right.f7.right.f4.f4.f4.f4.f5.f6⟩ ?_
  rintro j w31 ⟨hj, HJ⟩
  dsimp only [List.cons_append, List.nil_append]
  refine jw (aW (fG O O) (rV (dA O (fun h1 => ?_) (fun h1 => ?_))))
  ·(try simp only [aF] at h1)
   refine iy (aO (bg (aO ?_)))
   have hjl : j < s.saved.length := by omega
   obtain ⟨hx1, hx2⟩ := Fp (show s.saved.getD j default ∈ s.saved from by rw [List.getD_eq_getElem?_getD, List.getElem?_eq_getElem hjl]; exact List.getElem_mem hjl)
   have hxs : (s.saved.getD j default).2.size ≤ 16384 := by rw [hx2]; exact qB hlk.2.2.2.2.2 hok.2.2 _
   have hc2 := vH (s.saved.getD j default).2
   have hc3 := oq (s.saved.getD j default).2
   have hc4 : (uP (s.saved.getD j default).2).length ≤ 17179869184 := by omega
   have hfl : ((s.saved.take j).foldl setAt s.wL).length = s.hl.length + 1 := by rw [tJ, s.zq]
   obtain ⟨u2, us2, HI2⟩ := (HJ.f2).lin
   refine aA ?_
   obtain ⟨aiE, aiF, aiG, aga⟩ := Rd.nR ((HI2.f7).aN) (by omega)
   cases aga
   refine aW (dD iV sizeOf82 O O (by omega)) (aW (qo (ys := [_, _]) ((HI2.f7).aN) (by omega) oL O sizeOf82 O (o8 J4 (by omega) default) O) (iY (fK (l := [_, _]) HI2 pX O) ?_))
   rintro _ w32 ⟨b32, rfl, Pn⟩
   refine aI (dG 0 (l' := [_, _]) (us := [_, _]) Pn sizeOf82 O O O (aG (aG bK)) O O) ?_
   rintro _ w33 TM
   refine jd ?_
   have abI := TM.drew
   have F8 := V.kp (abI.f9.f9.f9.f9.f9.f9.f9.f9.f9)
   refine uU [0, 2, 4] F8 O (iO 0 O F8 (fun W hW => jT bH O ((Kp.h hW).f2).get.2 O) (fQ 1 O F8 0 oL O aj O (iO 2 O F8 (fun W hW => jT aB O ((Kp.h hW)).get.2 O) (fQ 3 O F8 1 oL O kG O (iO 4 O F8 (fun W hW => jT dU O ((Kp.h hW)).get.2 O) (lU 5 O (rE abI dU bf bD O (by omega)) ?_))))))
   rintro l34 w34 UU
   have KN := V.kp (UU.f10.f10.f10.f10.f10.f10.f10.f10.f10.f10)
   refine dZ KN (fun W hW => (Kp.h hW).right.f9.f9.f9.f9.f9.f9.f9.f9.f9) ?_
   refine lU 6 O (wY O func38 (DT UU (by assumption) (fun W HW => (HW).jh) (by assumption) (by omega))) ?_
   rintro u35 w35 ZQ
   have acX := ZQ.kK
   have Yk := V.kp (acX.f11.f11.f11.f11.f11.f11.f11.f11.f11.f11.f11)
   refine dZ Yk (fun W hW => (Kp.h hW).right.f10.f10.f10.f10.f10.f10.f10.f10.f10.f10) ?_
   obtain ⟨bu2, ou2, cu2, eu2⟩ := Rd.nR ((acX.f5).aN) (by omega)
   cases eu2
   refine iL 7 O Yk (fun _ => dD bH bF O O (by omega)) ?_
   refine gU 8 O (by kernel_rfl) (sQ 0 acX.f5 bF O O (by first | rfl | exact Rd.one ((acX).jh)) (by omega) (by decide)) ?_
   rintro _ w37 UW
   have abx := V.kp (UW.f11.f11.f11.f11.f11.f11.f11.f11.f11.f11.f11)
   refine fH abx (by kernel_rfl) ?_
   simp only [Nat.mul_one, Nat.add_zero] at UW
   have ahO := UW.f5.f6.f4
   have ahP := V.SI (ls := setAt ((s.saved.take j).foldl setAt s.wL) (s.saved.getD j default)) (by rw [QT]) ((V.Fq ahO (s.saved.getD j default).1.toNat).f3.f3)
   refine qj (aP (aZ (aA (aW (fP O O (by omega)) (bT O (bZ ?_))))))
   refine dN (j + 1) ?_ ?_ ?_ ?_
   ·exact oO
   ·exact Wh
   ·(try dsimp only)
    first | done | exact ⟨by omega, by rw [Lc _ _ _ default hjl]; exact ahP.f2.right.f2.right.f6.f6.f6.f6.f5.f6⟩
   ·(try dsimp only); omega
  ·(try simp only [aF] at h1)
   refine eH (aT (aT (bU (aZ (aO ?_)))))
   obtain rfl : j = s.saved.length := by omega
   rw [List.take_of_length_le (Nat.le_refl _)] at HJ
   have hfl : (s.saved.foldl setAt s.wL).length = s.hl.length + 1 := by rw [tJ, s.zq]
   obtain ⟨u3, us3, HI3⟩ := (HJ.f2).lin
   have aev := HI3.f6
   have U5 := V.kK aev
   refine aA (fB bH O (U5.f2).get.2 O (bn 12 dY O aj O (fB aB O (U5.f6).get.2 O (bn 0 dY O sizeOf52 O (bn 0 lC O bF O (fB ay O (U5.f6).get.2 O ?_))))))
   obtain ⟨bu3, ou3, cu3, eu3⟩ := Rd.nR ((U5.f3).aN) (by omega)
   cases eu3
   refine aW (dD bH bF O O (by omega)) (aI (sQ 0 U5.f3 bF O O (by first | rfl | exact Rd.one ((U5).jh)) (by omega) (by decide)) ?_)
   rintro _ w42 WT
   refine YK (fB bH O (WT.f3).get.2 O (ig O ?_))
   refine Iu (.inl O) (WT.f5) (fun w43 WU => ?_)
   refine ⟨_, aci results10 O, ?_⟩
   simp only [Nat.mul_one, Nat.add_zero, Hz, List.getElem_toArray, List.getElem_cons_zero] at WU
   have X := V.Fq WU.f3.right.f4.right.f4.right.f4.f2.f4.f4 s.c.place.toNat
   exact ⟨_, by rw [show s.lines.length = (s.saved.foldl setAt s.wL).length from by rw [s.F7, hfl]]; exact X.swap⟩
 ·rintro D w H; exact absurd H.swap.fact.1 id
 ·rintro id D w H; exact absurd H.swap.fact.1 fun h => h
end
theorem Gg.cut {I : Hp} {v : Value} {sz n : Nat} {xs : List Value} (hr : Gg I sz v n xs) {l h : Nat} (h1 : l ≤ h) (h2 : h ≤ n) : Gg I sz (uo sz l h v) (h - l) ((xs.drop (l * sz)).take ((h - l) * sz)) := by
  obtain ⟨hl, a, c, rfl, hc1, hc2, hc⟩ := hr
  refine ⟨?_, GX a l c sz, c - l, rfl, by omega, by omega, fun hp => ?_⟩
  · rw [List.length_take, List.length_drop, hl, ← Nat.sub_mul]
    exact Nat.min_eq_left (Nat.mul_le_mul_right _ (by omega))
  · obtain ⟨b, o, cs, e, fr, rfl, hI, hcell⟩ := hc (by omega)
    have : ¬ c = l := by omega
    refine ⟨b, o + l * sz, cs, e, fr, by simp [GX, this, yY], hI, fun j hj => ?_⟩
    have e1 : l * sz + (h - l) * sz = h * sz := by rw [← Nat.add_mul]; congr 1; omega
    have e2 : h * sz ≤ n * sz := Nat.mul_le_mul_right _ h2
    have := hcell (l * sz + j) (by omega)
    rw [Nat.add_assoc, this, List.getD_eq_getElem?_getD, List.getD_eq_getElem?_getD, List.getElem?_take, if_pos hj, List.getElem?_drop]
theorem Rd.agb {w : World} {v : Value} {sz n : Nat} {xs : List Value} (hr : Rd w sz v n xs) {i : Nat} (h : i ≤ n) : Rd w sz (uo sz i n v) (n - i) (xs.drop (i * sz)) := by
  have h1 := hr.cut h (Nat.le_refl _)
  rwa [List.take_of_length_le (by rw [List.length_drop, hr.len, ← Nat.sub_mul]; exact Nat.le_refl _)] at h1
def ZR (v : Value) (l : List oH) : HP := know (fun I => Gg I 2 v l.length (l.flatMap lD)) fun _ _ hl h => h.mono hl
def iW (p : Nat) (hl : List oH) (base most : Int) : HP := yC fun (v : Value) => fact (HOk hl base most) • eF p (.cells #[v, .int .i64 base, .int .i64 most] 84 (0, 0)) • ZR v hl
section
variable {P : Program} {L : List (Nat × Value)} {w0 w : World} {F : HP} {p : Nat} {hl l : List oH} {base most : Int} {v : Value}
theorem V.yB (H : V w0 w (ZR v l • F)) : Rd w 2 v l.length (l.flatMap lD) := let ⟨I, h, hI⟩ := H.wC; h.rd hI
theorem V.J9 (H : V w0 w (Row 41 2 v l.length (l.flatMap lD) • F)) : V w0 w (ZR v l • F) := by
  have hl := H.Ai
  rcases H.xQ with ⟨a, rfl, h1, h2, H1⟩ | ⟨g, o, c, cur, rfl, h2, h3, h4, h5, H1⟩
  · exact H1.xU fun I => ⟨hl, a, 0, by rw [h1], by omega, by decide, fun h => by omega⟩
  · exact H1.freeze.F9 (qJ (fun I hI => ⟨hl, _, c, rfl, h2, h3, fun _ => ⟨g, o, cur, _, (0, 0), rfl, hI, h5⟩⟩) F)
theorem V.acY (H : V w0 w (ZR v l • F)) (h : 1 ≤ l.length) : V w0 w (ZR (uo 2 1 l.length v) (l.drop 1) • F) := H.F9 (qJ (fun I hI => by
  have h1 := hI.cut h (Nat.le_refl _)
  rw [List.take_of_length_le (by rw [ML, XQ]; simp), ML] at h1
  rwa [List.length_drop]) F)
theorem V.CV (H : V w0 w (iW p hl base most • F)) : ∃ v, HOk hl base most ∧ V w0 w (eF p (.cells #[v, .int .i64 base, .int .i64 most] 84 (0, 0)) • ZR v hl • F) := by
  obtain ⟨v, H⟩ := H.pO
  obtain ⟨h, H⟩ := H.flat.fact
  exact ⟨v, h, H.flat⟩
theorem V.wB (h : HOk hl base most) (H : V w0 w (eF p (.cells #[v, .int .i64 base, .int .i64 most] 84 (0, 0)) • ZR v hl • F)) : V w0 w (iW p hl base most • F) :=
  V.jG v (V.deep (V.oG h H.deep))
theorem Xg {l : List oH} {k : Nat} (hk : k < l.length) : (l.flatMap lD).getD (k * 2 + 0) undef = .string (l.getD k default).1 := by
  have h := congrArg (fun x => x.getD 0 undef) (o8 zf hk default)
  simp only [List.getD_eq_getElem?_getD, List.getElem?_take, List.getElem?_drop] at h ⊢
  exact h
theorem aeE {l : List oH} {k : Nat} (hk : k < l.length) : (l.flatMap lD).getD (k * 2 + 1) undef = .int .i64 (l.getD k default).2 := by
  have h := congrArg (fun x => x.getD 1 undef) (o8 zf hk default)
  simp only [List.getD_eq_getElem?_getD, List.getElem?_take, List.getElem?_drop] at h ⊢
  exact h
theorem PY (H : V w0 w F) (hv : EL w0 F 2 v l.length (l.flatMap lD)) (hb : l.length ≤ 35184372087808) : iM prog 117 #[v] w fun v' w' => v' = .int .i64 (wZ l) ∧ V w0 w' F := by
 refine iQ func117 ntmps117 ?_
 refine kQ O (aO (kQ O (bg ?_)))
 refine gq [(0, _)] (fun (k : Nat) => [(3, .int .i64 (k : Int))]) (fun (k : Nat) W => (k ≤ l.length ∧ ∀ i, i < k → ¬ (16384 : Int) < (l.getD i default).1.size) ∧ V w0 W F) (fun (k : Nat) => l.length - k) (0) oO oO ⟨⟨by omega, fun i hi => absurd hi (by omega)⟩, H⟩ ?_
 rintro k w1 ⟨⟨hk, hsh⟩, HL⟩
 dsimp only [List.cons_append, List.nil_append]
 refine aO (bY O (bT O (aW (fV (hv _ (HL)) bM O) (aW (fG O O) (jv O (fun h1 => ?_) (fun h1 => ?_))))))
 ·(try simp only [aF] at h1)
  refine iy (aO (bg (aO ?_)))
  have hkl : k < l.length := by omega
  refine aA (jy O O ?_)
  obtain ⟨bv, ov, cv, ev⟩ := Rd.nR (hv _ (HL)) (by omega)
  cases ev
  refine aW (dD bM jl O O (by omega)) (bn 0 gX O kG O (aW (EP (eG (dn dU O) O (Rd.atS (hv _ (HL)) (by omega) (by decide))) (Xg hkl)) (aW (JF dU O) (aW (iT O O) (jv O (fun h2 => ?_) (fun h2 => ?_))))))
  ·(try simp only [aF] at h2)
   have hkb := h2
   refine mP O (aX (aC (aC (aX (aC (fD results117 O ?_))))))
   exact ⟨by rw [Qw hkl hkb], HL⟩
  ·(try simp only [aF] at h2)
   have hks : ¬ (16384 : Int) < (l.getD k default).1.size := by have h9 := h2; omega
   refine dS (aP (aZ (aA (bT O (aW (fP O O (by omega)) (iC O (bZ ?_)))))))
   refine dN (k + 1) ?_ ?_ ?_ ?_
   ·exact oO
   ·exact oO
   ·(try dsimp only)
    first | done | exact ⟨⟨by omega, fun i hi => (show i < k ∨ i = k from by omega).elim (hsh i) (fun c => c ▸ hks)⟩, HL⟩
   ·(try dsimp only); omega
 ·(try simp only [aF] at h1)
  refine eH (aT (aT (bU (aZ (aO (aO ?_))))))
  obtain rfl : k = l.length := by omega
  refine aA (iP O (bg ?_))
  refine gq [(0, _)] (fun (k2 : Nat) => [(4, .int .i64 (k2 : Int))]) (fun (k2 : Nat) W => (k2 ≤ l.length ∧ ∀ i, i < k2 → ¬ (l.getD i default).2 < 0) ∧ V w0 W F) (fun (k2 : Nat) => l.length - k2) (0) oO oO ⟨⟨by omega, fun i hi => absurd hi (by omega)⟩, HL⟩ ?_
  rintro k2 w2 ⟨⟨hk2, hpo⟩, HL2⟩
  dsimp only [List.cons_append, List.nil_append]
  refine aO (bY O (bT O (aW (fV (hv _ (HL2)) bM O) (aW (fG O O) (jv O (fun h3 => ?_) (fun h3 => ?_))))))
  ·(try simp only [aF] at h3)
   refine iy (aO (bg (aO ?_)))
   have hkl2 : k2 < l.length := by omega
   refine aA (jy O O ?_)
   obtain ⟨bv, ov, cv, ev⟩ := Rd.nR (hv _ (HL2)) (by omega)
   cases ev
   refine aW (dD bM jl O O (by omega)) (bn 1 gX O oQ O (aW (EP (eG (dn pU O) O (Rd.atS (hv _ (HL2)) (by omega) (by decide))) (aeE hkl2)) (aW (fG O O) (jv O (fun h4 => ?_) (fun h4 => ?_)))))
   ·(try simp only [aF] at h4)
    have hkn := h4
    refine mP O (aX (aC (aC (aX (aC (fD results117 O ?_))))))
    exact ⟨by rw [Uj hsh hkl2 hkn], HL2⟩
   ·(try simp only [aF] at h4)
    have hkp : ¬ (l.getD k2 default).2 < 0 := by have h9 := h4; omega
    refine dS (aP (aZ (aA (bT O (aW (fP O O (by omega)) (iC O (bZ ?_)))))))
    refine dN (k2 + 1) ?_ ?_ ?_ ?_
    ·exact oO
    ·exact oO
    ·(try dsimp only)
     first | done | exact ⟨⟨by omega, fun i hi => (show i < k2 ∨ i = k2 from by omega).elim (hpo i) (fun c => c ▸ hkp)⟩, HL2⟩
    ·(try dsimp only); omega
  ·(try simp only [aF] at h3)
   refine eH (aT (aT (bU (aZ (aO ?_)))))
   obtain rfl : k2 = l.length := by omega
   refine aA (ig O (fD results117 O ?_))
   exact ⟨by rw [XP hsh hpo], HL2⟩
theorem PZ (H : V w0 w (eF p (.cells #[v, .int .i64 base, .int .i64 most] 84 (0, 0)) • ZR v hl • F)) (hm : 0 ≤ most ∧ most ≤ 4096) (hb : 1 ≤ base ∧ base ≤ 2305843009213693952) (hn : hl.length ≤ 70368744177664) :
  iM prog 118 #[.pointer (some ⟨p, 0, none⟩)] w fun _ w' => ∃ v', V w0 w' (eF p (.cells #[v', .int .i64 (base + su hl most), .int .i64 most] 84 (0, 0)) • ZR v' (hl.drop (su hl most)) • F) := by
 refine iQ func118 ntmps118 ?_
 refine bg ?_
 refine gq [(0, _)] (fun (⟨k, u⟩ : Nat × Value) => []) (fun (⟨k, u⟩ : Nat × Value) W => k ≤ su hl most ∧ V w0 W (eF p (.cells #[u, .int .i64 (base + k), .int .i64 most] 84 (0, 0)) • ZR u (hl.drop k) • F)) (fun (⟨k, u⟩ : Nat × Value) => su hl most - k) ((0, v)) oO (Sub.nil _) ⟨by omega, by simpa using H⟩ ?_
 rintro ⟨k, u⟩ w1 ⟨hk, HL⟩
 dsimp only [List.cons_append, List.nil_append]
 refine aO (aO ?_)
 have Xh := HL.drew
 have Fv := V.kp (Xh.f2.f2)
 refine uU [3, 8] Fv O (gQ 0 O Fv O (jQ 1 O Fv O (fQ 2 O Fv 0 gY O gW O (iO 3 O Fv (fun W hW => jT bM O ((Kp.h hW)).get.2 O) (iL 4 O Fv (fun _ => fV ((Xh.f2).yB) bM O) (gQ 5 O Fv O (jQ 6 O Fv O (fQ 7 O Fv 2 gY O aj O (iO 8 O Fv (fun W hW => jT aB O ((Kp.h hW)).get.2 O) (iL 9 O Fv (fun _ => iT O O) (qj (aZ (dA O (fun h1 => ?_) (fun h1 => ?_))))))))))))))
 ·(try simp only [aF] at h1)
  have hlt : k < su hl most := by have h9 := h1; rw [List.length_drop] at h9; unfold su; omega
  have hdl : (hl.drop k).length = hl.length - k := List.length_drop
  have hd1 : 1 ≤ (hl.drop k).length := by rw [hdl]; unfold su at hlt; omega
  refine iy (bg (bY O (mJ O O (bn 0 gY O gW O (fB bM O (Xh).get.2 O (aW (vU ((Xh.f2).yB) bM jl O O O (by omega)) ?_))))))
  refine dO O (bn 0 gY O gW O (aI (eY 0 (l' := [_, _, _]) Xh gW O O (by first | rfl | exact Rd.one (Rd.agb ((Xh.f2).yB) (by omega))) O O) ?_))
  rintro _ w2 H2
  refine jd (aA (mJ O O (bn 1 gY O oQ O (fB pU O (H2).get.2 O (aW (fP O O (by omega)) (dO O (bn 1 gY O oQ O (aI (st3 1 H2 oQ) ?_))))))))
  rintro _ w3 H3
  have HN := (H3.f2).acY hd1 |>.swap
  rw [List.drop_drop] at HN
  refine bZ (aP ?_)
  refine dN ((k + 1, uo 2 1 (hl.drop k).length u)) ?_ ?_ ?_ ?_
  ·exact (Sub.nil _)
  ·exact oO
  ·(try dsimp only)
   first | done | exact ⟨by omega, by rw [show (base + ((k + 1 : Nat) : Int)) = base + k + 1 from by omega]; exact HN⟩
  ·(try dsimp only); omega
 ·(try simp only [aF] at h1)
  have hge : k = su hl most := by have h9 := h1; rw [List.length_drop] at h9; unfold su at hk ⊢; omega
  refine eH (aT (aT (bU (kY (.inr O) results118 ?_))))
  exact ⟨_, by rw [← hge]; exact Xh⟩
theorem GL (H : V w0 w (iW p hl base most • F)) (hv : EL w0 F 2 v l.length (l.flatMap lD)) (hb : hl.length + l.length ≤ 5864062014805) (hbase : base ≤ 1152921504606846976) :
  iM prog 68 #[.pointer (some ⟨p, 0, none⟩), v] w fun v' w' => v' = .int .i64 (wZ l) ∧ V w0 w' (iW p (Hf hl most l) (Rw hl base most l) most • F) := by
 refine qI func68 ntmps68 ?_
 refine kQ O (aO (bY O (fE O func117 (PY H (fun W HW => hv _ (HW.right)) (by omega)) ?_)))
 rintro _ w1 ⟨rfl, H1⟩
 refine iP O (bY O (aW (gy O O) (jv O (fun h1 => ?_) (fun h1 => ?_))))
 ·(try simp only [aF] at h1)
  have hm := h1
  refine bY O (ig O (aC (fD results68 O ?_)))
  exact ⟨O, by unfold Hf Rw; rw [if_neg hm, if_neg hm]; exact H1⟩
 ·(try simp only [aF] at h1)
  have hm : wZ l = 0 := h1
  refine iy (aO ?_)
  obtain ⟨Pz, vO, xX⟩ := (H1).CV
  have hkl := vO.1
  have hon := @IJ l
  have SN := @IJ hl
  refine aA (jy O O (dO O (bn 0 gY O gW O (fB bM O (xX).get.2 O (iY (eX (xX.gG none) bM XR O O O ((xX.f2).yB) (by assumption) (by omega) (by omega)) ?_)))))
  rintro l3 w3 H3
  refine bT O (iY (eX H3 bM XR O O O (hv _ (H3.right.right.right)) (by assumption) (by omega) (by omega)) ?_)
  rintro l4 w4 H4
  refine dO O (bn 0 gY O gW O (aI (eY 0 (l' := [_, _, _]) H4.f2 gW O O (by first | rfl | exact Rd.one ((H4).aN)) O O) ?_))
  rintro _ w5 H5
  refine ql O (fE O func118 (PZ (hl := hl ++ l) (by have HQ := H5.f3.right.f2; rw [List.nil_append, Nat.zero_add, ← List.flatMap_append, ← List.length_append] at HQ; exact HQ.J9.swap) ⟨by have := vO.2.2.2.1; omega, vO.2.2.2.2.1⟩ ⟨vO.2.1, by omega⟩ (by have := vO.1; rw [List.length_append]; omega)) ?_)
  rintro _ w6 ⟨v2, H6⟩
  refine jd (mP O (fD results68 O ?_))
  exact ⟨by rw [hm], by unfold Hf Rw; rw [if_pos hm, if_pos hm]; exact V.wB (adn vO hb hm hbase) H6⟩
theorem GN {n : Int} (H : V w0 w F) (hn : 0 ≤ n ∧ n ≤ 4096) : iM prog 67 #[.int .i64 n] w fun v w' => ∃ p, v = .tuple #[.pointer (some ⟨p, 0, none⟩), .int .i64 0] ∧ V w0 w' (iW p [] 1 n • F) := by
  refine iQ func67 ntmps67 ?_
  refine jw (iC O (sS O (bY O (aW (fG O O) (mX O (fun h1 => ?_) (fun h1 => ?_))))))
  · (try simp only [aF] at h1)
    exfalso; first | contradiction | omega
  · (try simp only [aF] at h1)
    refine bW (bT O (bW (aW (iT O O) (kX O O (jv O (fun h2 => ?_) (fun h2 => ?_))))))
    · (try simp only [aF] at h2)
      exfalso; first | contradiction | omega
    · (try simp only [aF] at h2)
      refine iy (bY O ?_)
      refine aW (fA (zl := [.slice none 0 0, .int .i64 0, .int .i64 0]) (pl := [(0, 1), (1, 1), (2, 1)]) [_, _, _] gY zeroValue84 O (fun w => by kernel_rfl) O (.zero (zs := [.slice none 0 0]) O (.on (.on .nil))) O) ?_
      refine iY (jo (l := [_, _, _]) H O O) ?_
      rintro _ w1 ⟨b1, rfl, H1⟩
      refine iC O (ig O (Dw results67 O O ?_))
      exact ⟨_, O, V.wB (v := .slice none 0 0) (hl := []) ⟨by simp, by decide, by decide, by simp; omega, by omega, by simp⟩ ((H1.gG none).J9 (l := [])).swap⟩
theorem OW {n : Int} (H : V w0 w F) (hn : 0 ≤ n ∧ n ≤ 4096) (hv : EL w0 F 2 v l.length (l.flatMap lD)) (hb : l.length ≤ 5864062014805) (hm : wZ l ≠ 0) : iM prog 27 #[.int .i64 n, v] w fun v' w' =>
    v' = .tuple #[.pointer none, .int .i64 (wZ l)] ∧ V w0 w' F := by
  refine qI func27 ntmps27 ?_
  refine jw (iC O (iP O (bY O (fE O func67 (GN H (by omega)) ?_))))
  rintro _ w1 ⟨p1, rfl, H1⟩
  refine bT O (sD O O (sD O O (iC O (sS O (bY O (aW (gy O O) (jd (Ip O (fun h1 => ?_)))))))))
  (try simp only [aF] at h1)
  refine iy (aO (bY O (bT O (fE O func68 (GL H1 hv (by simp; omega) (by decide)) ?_))))
  rintro _ w2 ⟨rfl, H2⟩
  refine iP O (bY O (aW (gy O O) (jv O (fun h2 => ?_) (fun h => by exfalso; (try simp only [aF] at h); exact hm h))))
  (try simp only [aF] at h2)
  refine bY O (iC O (ig O (aC (Dw results27 O O ?_))))
  exact ⟨O, H2.right⟩
theorem ED {n : Int} (H : V w0 w F) (hn : 0 ≤ n ∧ n ≤ 4096) (hv : EL w0 F 2 v l.length (l.flatMap lD)) (hb : l.length ≤ 5864062014805) (hm : wZ l = 0) : iM prog 27 #[.int .i64 n, v] w fun v' w' =>
    ∃ p, v' = .tuple #[.pointer (some ⟨p, 0, none⟩), .int .i64 0] ∧ V w0 w' (iW p (Hf [] n l) (Rw [] 1 n l) n • F) := by
  refine qI func27 ntmps27 ?_
  refine jw (iC O (iP O (bY O (fE O func67 (GN H (by omega)) ?_))))
  rintro _ w1 ⟨p1, rfl, H1⟩
  refine bT O (sD O O (sD O O (iC O (sS O (bY O (aW (gy O O) (jd (Ip O (fun h1 => ?_)))))))))
  (try simp only [aF] at h1)
  refine iy (aO (bY O (bT O (fE O func68 (GL H1 hv (by simp; omega) (by decide)) ?_))))
  rintro _ w2 ⟨rfl, H2⟩
  refine iP O (bY O (aW (gy O O) (jv O (fun h => by exfalso; (try simp only [aF] at h); exact h hm) (fun h2 => ?_))))
  (try simp only [aF] at h2)
  refine iy (bY O (iC O (ig O (Dw results27 O O ?_))))
  exact ⟨_, O, H2⟩
theorem LZ (H : V w0 w (iW p hl base most • F)) : iM prog 70 #[.pointer (some ⟨p, 0, none⟩)] w fun v w' => ∃ q, v = .pointer (some ⟨q, 0, none⟩) ∧ V w0 w' (iW q hl base most • iW p hl base most • F) := by
 refine iQ func70 ntmps70 ?_
 refine kQ O (aO ?_)
 obtain ⟨Pz, vO, xX⟩ := (H).CV
 have hkl := vO.1
 have SN := @IJ hl
 have PL := xX.drew
 have kV := V.kp (PL.f2.f2)
 refine uU [3, 8, 12] kV O (gQ 0 O kV O (jQ 1 O kV O (fQ 2 O kV 0 gY O gW O (iO 3 O kV (fun W hW => jT bM O ((Kp.h hW)).get.2 O) (gQ 5 O kV O (jQ 6 O kV O (fQ 7 O kV 1 gY O oQ O (iO 8 O kV (fun W hW => jT pU O ((Kp.h hW)).get.2 O) (gQ 9 O kV O (jQ 10 O kV O (fQ 11 O kV 2 gY O aj O (iO 12 O kV (fun W hW => jT aB O ((Kp.h hW)).get.2 O) (lU 4 O (eX (PL.gG none) bM XR O O O ((PL.f2).yB) (by assumption) (by omega) (by omega)) ?_)))))))))))))
 rintro l2 w2 H2
 have zT := V.kp (H2.f3.f3.f3)
 refine dZ zT (fun W hW => (Kp.h hW).right.f2.f2) ?_
 refine iL 13 O zT (fun _ => fA (zl := [.slice none 0 0, .int .i64 0, .int .i64 0]) (pl := [(0, 1), (1, 1), (2, 1)]) [_, _, _] gY zeroValue84 O (fun w => by kernel_rfl) O (.one (Rd.one ((H2).aN)) (.on (.on .nil))) O) ?_
 refine lU 14 O (jo (l := [_, _, _]) H2 O O) ?_
 rintro _ w3 ⟨b3, rfl, H3⟩
 have nT := V.kp (H3.f4.f4.f4.f4)
 refine fH nT (by kernel_rfl) ?_
 refine iL 15 O nT (fun _ => fU O) (qj (aZ (mZ (fD results70 O ?_))))
 have Ho5 := H3.f4.f4
 have Hc6 := V.wB vO Ho5
 have HQ := Hc6.f2.f3
 rw [List.nil_append, Nat.zero_add] at HQ
 exact ⟨_, O, V.wB vO HQ.J9.swap⟩
end
end Go.Proofs.YtgofgnlkpeghcaaGreatDoor
end
