import Derived.Test.YtgofgnlkpeghcaaGreatDoorZ4
import Derived.Test.YtgofgnlkpeghcaaGreatDoorZ22
import Derived.Test.YtgofgnlkpeghcaaGreatDoorZ17
import Derived.Test.YtgofgnlkpeghcaaGreatDoorZ6
import Derived.Test.YtgofgnlkpeghcaaGreatDoorZ2
import Derived.Test.YtgofgnlkpeghcaaGreatDoorZ19
import Derived.Test.YtgofgnlkpeghcaaGreatDoorZ13
import Derived.Test.YtgofgnlkpeghcaaGreatDoorZ11
set_option linter.unusedSimpArgs false
set_option linter.unusedVariables false
/- Texts of mine, joined, their names in short: RIs2 IsS IsN IsA IsA2 FieldVal IsD IsMade. -/
section
namespace Go.Proofs.YtgofgnlkpeghcaaGreatDoor
open Go.RowKit
open _root_.Go.Proofs.Tryz
section
variable {w0 w : World} {F : HP} {v v2 : Value} {us : List Value} {ls : List (List Int)} {p : List Int} {place at_ : Int} {back : Bool}
theorem Zz {n : Nat} : um ls place at_ p true n = jg (ls.getD n []) p (if (n : Int) = place then min at_ ((ls.getD n []).length : Int) else ((ls.getD n []).length : Int)) true := by
  unfold um
  by_cases h : (n : Int) = place
  · rw [if_pos h, if_pos h]
    by_cases h2 : ((ls.getD n []).length : Int) < at_
    · rw [Int.min_eq_right (by omega)]; exact VG h2
    · rw [Int.min_eq_left (by omega)]
  · rw [if_neg h, if_neg h, if_pos rfl]
theorem ab3 {n : Nat} : um ls place at_ p false n = jg (ls.getD n []) p (if (n : Int) = place then max at_ 0 else 0) false := by
  unfold um
  by_cases h : (n : Int) = place
  · rw [if_pos h, if_pos h]
    by_cases h2 : at_ < 0
    · rw [Int.max_eq_right (by omega)]; exact TB h2
    · rw [Int.max_eq_left (by omega)]
  · rw [if_neg h, if_neg h, if_neg (by decide)]
theorem ab4 (H : V w0 w F) (hv : EL w0 F 1 v ls.length us) (he : ∀ k, k < ls.length → jm w0 F .i32 (us.getD k undef) (ls.getD k [])) (hv2 : jm w0 F .i32 v2 p) (hb8 : ls.length ≤ 4611686018427387904) (TN : ∀ k, k < ls.length → (ls.getD k []).length ≤ 4611686018427387903) :
  iM prog 5 #[v, .int .i64 place, .int .i64 at_, v2, .bool true] w fun v w' => v = .tuple #[.int .i64 (lq ls place at_ p true).1, .int .i64 (lq ls place at_ p true).2.1, .bool (lq ls place at_ p true).2.2] ∧ V w0 w' F := by
 refine adW func5 ntmps5 ?_
 refine jw (iC O (iC O (sS O (bY O (aW (fG O O) (mX O (fun h1 => ?_) (fun h1 => ?_)))))))
 ·(try simp only [aF] at h1)
  refine dF (dF (dF (dF (nZ O O (bT O (dF (dF (dF (nZ O O (jd (GV (jw (iC O (iC O (ig O (aC ?_))))))))))))))))
  refine qM (.inl O) results5 O O O ?_
  have hbad : lq ls place at_ p true = (0, 0, false) := by unfold lq; rw [if_pos (by omega)]
  exact ⟨by rw [hbad], H⟩
 ·(try simp only [aF] at h1)
  refine bW (bT O (bW (bT O (bW (aW (fV (hv _ (H)) bH O) (bW (aW (nM O O) (kX O O (mX O (fun h2 => ?_) (fun h2 => ?_))))))))))
  ·(try simp only [aF] at h2)
   refine dF (dF (dF (nZ O O (jd (GV (jw (iC O (iC O (ig O (aC ?_))))))))))
   refine qM (.inl O) results5 O O O ?_
   have hbad : lq ls place at_ p true = (0, 0, false) := by unfold lq; rw [if_pos (by omega)]
   exact ⟨by rw [hbad], H⟩
  ·(try simp only [aF] at h2)
   refine bW (bT O (bW (aW (jJ (hv2 _ (H)) ay O) (bW (aW (kP O O) (kX O O (jv O (fun h3 => ?_) (fun h3 => ?_))))))))
   ·(try simp only [aF] at h3)
    refine jw (iC O (iC O (ig O (aC ?_))))
    refine qM (.inl O) results5 O O O ?_
    have hbad : lq ls place at_ p true = (0, 0, false) := by unfold lq; rw [if_pos (by omega)]
    exact ⟨by rw [hbad], H⟩
   ·(try simp only [aF] at h3)
    have h09 := h3
    have hgood : lq ls place at_ p true = findAt ls place at_ p true place := by unfold lq findAt; rw [if_neg (by omega)]
    refine iy (aO (bY O (iP O (bg ?_))))
    refine gq [(0, _), (1, _), (2, _), (3, _), (4, _)] (fun (i : Int) => [(13, .int .i64 i)]) (fun (i : Int) W => ((-1 ≤ i ∧ i ≤ ls.length) ∧ i < ls.length ∧ lq ls place at_ p true = findAt ls place at_ p true i) ∧ V w0 W F) (fun (i : Int) => (i + 1).toNat) (place) sb5 oO ⟨⟨by omega, by omega, hgood⟩, H⟩ ?_
    rintro i w1 ⟨⟨hi, hbd, e1⟩, HL⟩
    dsimp only [List.cons_append, List.nil_append]
    refine aO (bY O (aW (nM O O) (mX O (fun h4 => ?_) (fun h4 => ?_))))
    ·(try simp only [aF] at h4)
     refine bW (bT O (bW (bT O (bW (aW (fV (hv _ (HL)) bH O) (bW (aW (fG O O) (nZ O O (jv O (fun h5 => ?_) (fun h5 => ?_))))))))))
     ·(try simp only [aF] at h5)
      refine iy (bg (aO ?_))
      have hi0 : 0 ≤ i := by omega
      have hil : i < ls.length := by omega
      have af6 := TN i.toNat (by omega)
      have hia : i.toNat < ls.length := by omega
      have hit : ((i.toNat : Nat) : Int) = i := by omega
      have hln := Zz (ls := ls) (place := place) (at_ := at_) (p := p) (n := i.toNat)
      rw [hit] at hln
      refine aA (jy O O ?_)
      obtain ⟨bv, ov, cv, ev⟩ := Rd.nR (hv _ (HL)) (by omega)
      cases ev
      refine aW (dD bH bF O O (by omega)) ?_
      refine aW (eG (dn ay O) O (by first | exact Rd.sO (hv _ (HL)) (by omega) | exact Rd.EF (hv _ (HL)) (by omega) | exact Rd.Ey (hv _ (HL)) (by omega))) ?_
      refine GU (fun agx Ik => ?_)
      refine iP O (bY O (sS O (bY O (jd (GV ?_)))))
      refine rU [(0, _), (1, _), (2, _), (3, _), (4, _), (13, _), (14, _), (35, _), (36, _), (37, _), (38, _)] (fun (_ : Unit) => [(15, .int .i64 (if i = place then min at_ ((ls.getD i.toNat []).length : Int) else ((ls.getD i.toNat []).length : Int)))]) (fun (_ : Unit) W => W = w1) (Sub.cons O (Sub.cons O (Sub.cons O (Sub.cons O (Sub.cons O MH))))) ?_ ?_
      ·rintro _ w3 rfl
       dsimp only [List.cons_append, List.nil_append]
       refine aO (aO ?_)
       obtain ⟨s0, hs0⟩ : ∃ s, s = (if i = place then min at_ ((ls.getD i.toNat []).length : Int) else ((ls.getD i.toNat []).length : Int)) := ⟨_, rfl⟩
       have hs1 : s0 ≤ ((ls.getD i.toNat []).length : Int) := by rw [hs0]; split <;> omega
       rw [← hs0] at hln
       refine aA (bT O (iP O (bg ?_)))
       rw [← hs0]
       refine gq [(0, _), (1, _), (2, _), (3, _), (4, _), (13, _), (14, _), (35, _), (36, _), (37, _), (38, _)] (fun (j : Int) => [(16, .int .i64 j)]) (fun (j : Int) W => ((-1 ≤ j ∨ j = s0) ∧ j ≤ ((ls.getD i.toNat []).length : Int) ∧ um ls place at_ p true i.toNat = jg (ls.getD i.toNat []) p j true) ∧ V w0 W F) (fun (j : Int) => (j + 1).toNat) (s0) (Sub.cons O (Sub.cons O (Sub.cons O (Sub.cons O (Sub.cons O MH))))) oO ⟨⟨.inr O, hs1, hln⟩, HL⟩ ?_
       rintro j w4 ⟨⟨hj, hj1, hj2⟩, HJ⟩
       dsimp only [List.cons_append, List.nil_append]
       refine aO (bY O (aW (nM O O) (jv O (fun h6 => ?_) (fun h6 => ?_))))
       ·(try simp only [aF] at h6)
        refine iy (aO (bg (aO ?_)))
        have hj0 : 0 ≤ j := by omega
        refine aA (jy O O (bT O (fE O func13 (Jz HJ (fun W HW => (by rw [Ik]; exact he _ (by omega) _ (HW))) (fun W HW => hv2 _ (HW)) (by omega)) ?_)))
        rintro _ w5 ⟨rfl, H5⟩
        refine jv O (fun h7 => ?_) (fun h7 => ?_)
        ·(try simp only [aF] at h7)
         have hst : Tz (ls.getD i.toNat []) j p = true := h7
         refine bY O (bT O (iC O (iC O (ig O (aX (aC (aC (aX (aC (aC (aX (aC (aX (aC ?_))))))))))))))
         refine qM (.inl O) results5 O O O ?_
         have hy := hj2.trans (Me hj0 hst)
         have hz := Ia (back := true) hi0 hil (by rw [hy]; exact hj0)
         exact ⟨by rw [e1, hz, hy], H5⟩
        ·(try simp only [aF] at h7)
         have hst : ¬ Tz (ls.getD i.toNat []) j p = true := by have h9 := h7; rw [h9]; decide
         refine dS (aP (aZ (aA (bT O (aW (lW O O (by omega)) (iC O (bZ ?_)))))))
         refine dN (j - 1) ?_ ?_ ?_ ?_
         ·exact oO
         ·exact (Sub.cons O (Sub.cons O (Sub.cons O (Sub.cons O (Sub.cons O MH)))))
         ·(try dsimp only)
          first | done | exact ⟨⟨.inl (by omega), by omega, hj2.trans (VF hj0 hst)⟩, H5⟩
         ·(try dsimp only); omega
       ·(try simp only [aF] at h6)
        refine eH (aT (aT (bU (aZ (aO ?_)))))
        have hno : ¬ 0 ≤ um ls place at_ p true i.toNat := by rw [hj2, MB (by omega)]; decide
        refine aA (bT O (aW (lW O O (by omega)) (iP O (eH (aT (bU ?_))))))
        refine dN (i - 1) ?_ ?_ ?_ ?_
        ·exact oO
        ·exact sb5
        ·(try dsimp only)
         first | done | exact ⟨⟨by omega, by omega, e1.trans (Bq hi0 hil hno)⟩, HJ⟩
        ·(try dsimp only); omega
      ·skip
       refine bY O (bT O (aW (gy O O) (mX O (fun h8 => ?_) (fun h8 => ?_))))
       ·(try simp only [aF] at h8)
        refine dF (dF (dF (dF (nZ O O (jd (GV (aA (bT O ?_))))))))
        refine aW (jJ ((by rw [Ik]; exact he _ (by omega) _ (HL))) ay O) ?_
        refine iC O (bZ ?_)
        refine gB (()) ?_ ?_ ?_
        ·exact (Sub.qP O (by congr 1; split <;> omega) (Sub.nil _))
        ·exact (Sub.cons O (Sub.cons O (Sub.cons O (Sub.cons O (Sub.cons O MH)))))
        ·(try dsimp only)
         first | done | exact rfl
       ·(try simp only [aF] at h8)
        refine bW (bT O (bW (bT O (bW ?_))))
        refine aW (jJ ((by rw [Ik]; exact he _ (by omega) _ (HL))) ay O) ?_
        refine bW (aW (iT O O) (kX O O (jv O (fun h9 => ?_) (fun h9 => ?_))))
        ·(try simp only [aF] at h9)
         refine aA (bT O ?_)
         refine aW (jJ ((by rw [Ik]; exact he _ (by omega) _ (HL))) ay O) ?_
         refine iC O (bZ ?_)
         refine gB (()) ?_ ?_ ?_
         ·exact (Sub.qP O (by congr 1; split <;> omega) (Sub.nil _))
         ·exact (Sub.cons O (Sub.cons O (Sub.cons O (Sub.cons O (Sub.cons O MH)))))
         ·(try dsimp only)
          first | done | exact rfl
        ·(try simp only [aF] at h9)
         refine dS ?_
         refine gB (()) ?_ ?_ ?_
         ·exact (Sub.qP O (by congr 1; split <;> omega) (Sub.nil _))
         ·exact (Sub.cons O (Sub.cons O (Sub.cons O (Sub.cons O (Sub.cons O MH)))))
         ·(try dsimp only)
          first | done | exact rfl
     ·(try simp only [aF] at h5)
      refine eH (aT (aT (bU (aZ (jw (iC O (iC O (ig O ?_))))))))
      refine qM (.inl O) results5 O O O ?_
      exact ⟨by rw [e1, zo (by omega) (fun _ => hbd) (fun h => absurd O h)], HL⟩
    ·(try simp only [aF] at h4)
     refine dF (dF (dF (dF (kX O O (jd (vS (eH (aT (aT (bU (aZ (jw (iC O (iC O (ig O ?_)))))))))))))))
     refine qM (.inl O) results5 O O O ?_
     exact ⟨by rw [e1, zo (by omega) (fun _ => hbd) (fun h => absurd O h)], HL⟩
theorem ab5 (H : V w0 w F) (hv : EL w0 F 1 v ls.length us) (he : ∀ k, k < ls.length → jm w0 F .i32 (us.getD k undef) (ls.getD k [])) (hv2 : jm w0 F .i32 v2 p) (hb8 : ls.length ≤ 4611686018427387904) (TN : ∀ k, k < ls.length → (ls.getD k []).length ≤ 4611686018427387903) :
  iM prog 5 #[v, .int .i64 place, .int .i64 at_, v2, .bool false] w fun v w' => v = .tuple #[.int .i64 (lq ls place at_ p false).1, .int .i64 (lq ls place at_ p false).2.1, .bool (lq ls place at_ p false).2.2] ∧ V w0 w' F := by
 refine adW func5 ntmps5 ?_
 refine jw (iC O (iC O (sS O (bY O (aW (fG O O) (mX O (fun h1 => ?_) (fun h1 => ?_)))))))
 ·(try simp only [aF] at h1)
  refine dF (dF (dF (dF (nZ O O (bT O (dF (dF (dF (nZ O O (jd (GV (jw (iC O (iC O (ig O (aC ?_))))))))))))))))
  refine qM (.inl O) results5 O O O ?_
  have hbad : lq ls place at_ p false = (0, 0, false) := by unfold lq; rw [if_pos (by omega)]
  exact ⟨by rw [hbad], H⟩
 ·(try simp only [aF] at h1)
  refine bW (bT O (bW (bT O (bW (aW (fV (hv _ (H)) bH O) (bW (aW (nM O O) (kX O O (mX O (fun h2 => ?_) (fun h2 => ?_))))))))))
  ·(try simp only [aF] at h2)
   refine dF (dF (dF (nZ O O (jd (GV (jw (iC O (iC O (ig O (aC ?_))))))))))
   refine qM (.inl O) results5 O O O ?_
   have hbad : lq ls place at_ p false = (0, 0, false) := by unfold lq; rw [if_pos (by omega)]
   exact ⟨by rw [hbad], H⟩
  ·(try simp only [aF] at h2)
   refine bW (bT O (bW (aW (jJ (hv2 _ (H)) ay O) (bW (aW (kP O O) (kX O O (jv O (fun h3 => ?_) (fun h3 => ?_))))))))
   ·(try simp only [aF] at h3)
    refine jw (iC O (iC O (ig O (aC ?_))))
    refine qM (.inl O) results5 O O O ?_
    have hbad : lq ls place at_ p false = (0, 0, false) := by unfold lq; rw [if_pos (by omega)]
    exact ⟨by rw [hbad], H⟩
   ·(try simp only [aF] at h3)
    have h09 := h3
    have hgood : lq ls place at_ p false = findAt ls place at_ p false place := by unfold lq findAt; rw [if_neg (by omega)]
    refine iy (aO (bY O (iP O (bg ?_))))
    refine gq [(0, _), (1, _), (2, _), (3, _), (4, _)] (fun (i : Int) => [(13, .int .i64 i)]) (fun (i : Int) W => ((-1 ≤ i ∧ i ≤ ls.length) ∧ 0 ≤ i ∧ lq ls place at_ p false = findAt ls place at_ p false i) ∧ V w0 W F) (fun (i : Int) => ((ls.length : Int) - i).toNat) (place) sb5 oO ⟨⟨by omega, by omega, hgood⟩, H⟩ ?_
    rintro i w1 ⟨⟨hi, hbd, e1⟩, HL⟩
    dsimp only [List.cons_append, List.nil_append]
    refine aO (bY O (aW (nM O O) (mX O (fun h4 => ?_) (fun h4 => ?_))))
    ·(try simp only [aF] at h4)
     refine bW (bT O (bW (bT O (bW (aW (fV (hv _ (HL)) bH O) (bW (aW (fG O O) (nZ O O (jv O (fun h5 => ?_) (fun h5 => ?_))))))))))
     ·(try simp only [aF] at h5)
      refine iy (bg (aO ?_))
      have hi0 : 0 ≤ i := by omega
      have hil : i < ls.length := by omega
      have af6 := TN i.toNat (by omega)
      have hia : i.toNat < ls.length := by omega
      have hit : ((i.toNat : Nat) : Int) = i := by omega
      have hln := ab3 (ls := ls) (place := place) (at_ := at_) (p := p) (n := i.toNat)
      rw [hit] at hln
      refine aA (jy O O ?_)
      obtain ⟨bv, ov, cv, ev⟩ := Rd.nR (hv _ (HL)) (by omega)
      cases ev
      refine aW (dD bH bF O O (by omega)) ?_
      refine aW (eG (dn ay O) O (by first | exact Rd.sO (hv _ (HL)) (by omega) | exact Rd.EF (hv _ (HL)) (by omega) | exact Rd.Ey (hv _ (HL)) (by omega))) ?_
      refine GU (fun agx Ik => ?_)
      refine iP O (bY O (sS O (bY O (jd (vS (iy ?_))))))
      refine rU [(0, _), (1, _), (2, _), (3, _), (4, _), (13, _), (14, _), (35, _), (36, _), (37, _), (38, _)] (fun (_ : Unit) => [(15, .int .i64 (if i = place then max at_ 0 else 0))]) (fun (_ : Unit) W => W = w1) (Sub.cons O (Sub.cons O (Sub.cons O (Sub.cons O (Sub.cons O MH))))) ?_ ?_
      ·rintro _ w3 rfl
       dsimp only [List.cons_append, List.nil_append]
       refine aO (aO ?_)
       obtain ⟨s0, hs0⟩ : ∃ s, s = (if i = place then max at_ 0 else 0) := ⟨_, rfl⟩
       have hs1 : 0 ≤ s0 := by rw [hs0]; split <;> omega
       rw [← hs0] at hln
       refine aA (bT O (iP O (bg ?_)))
       rw [← hs0]
       refine gq [(0, _), (1, _), (2, _), (3, _), (4, _), (13, _), (14, _), (35, _), (36, _), (37, _), (38, _)] (fun (j : Int) => [(17, .int .i64 j)]) (fun (j : Int) W => ((j ≤ ((ls.getD i.toNat []).length : Int) + 1 ∨ j = s0) ∧ 0 ≤ j ∧ um ls place at_ p false i.toNat = jg (ls.getD i.toNat []) p j false) ∧ V w0 W F) (fun (j : Int) => (((ls.getD i.toNat []).length : Int) + 1 - j).toNat) (s0) (Sub.cons O (Sub.cons O (Sub.cons O (Sub.cons O (Sub.cons O MH))))) oO ⟨⟨.inr O, hs1, hln⟩, HL⟩ ?_
       rintro j w4 ⟨⟨hj, hj0, hj2⟩, HJ⟩
       dsimp only [List.cons_append, List.nil_append]
       refine aO (bY O (bT O ?_))
       refine aW (jJ ((by rw [Ik]; exact he _ (by omega) _ (HJ))) ay O) ?_
       refine aW (qc O O) (jv O (fun h6 => ?_) (fun h6 => ?_))
       ·(try simp only [aF] at h6)
        refine iy (aO (bg (bY O (jy O O (fE O func13 (Jz HJ (fun W HW => (by rw [Ik]; exact he _ (by omega) _ (HW))) (fun W HW => hv2 _ (HW)) (by omega)) ?_)))))
        rintro _ w5 ⟨rfl, H5⟩
        refine jv O (fun h7 => ?_) (fun h7 => ?_)
        ·(try simp only [aF] at h7)
         have hst : Tz (ls.getD i.toNat []) j p = true := h7
         refine bY O (bT O (iC O (iC O (ig O (aX (aC (aC (aX (aC (aX (aC (aX (aC ?_)))))))))))))
         refine qM (.inl O) results5 O O O ?_
         have hy := hj2.trans (Qd hj0 hst)
         have hz := Ia (back := false) hi0 hil (by rw [hy]; exact hj0)
         exact ⟨by rw [e1, hz, hy], H5⟩
        ·(try simp only [aF] at h7)
         have hst : ¬ Tz (ls.getD i.toNat []) j p = true := by have h9 := h7; rw [h9]; decide
         refine dS (aP (aZ (aA (bT O (aW (fP O O (by omega)) (iC O (bZ ?_)))))))
         refine dN (j + 1) ?_ ?_ ?_ ?_
         ·exact oO
         ·exact (Sub.cons O (Sub.cons O (Sub.cons O (Sub.cons O (Sub.cons O MH)))))
         ·(try dsimp only)
          first | done | exact ⟨⟨.inl (by omega), by omega, hj2.trans (Zy hj0 hst)⟩, H5⟩
         ·(try dsimp only); omega
       ·(try simp only [aF] at h6)
        refine eH (aT (aT (bU (aZ ?_))))
        have hno : ¬ 0 ≤ um ls place at_ p false i.toNat := by rw [hj2, Qe (by omega)]; decide
        refine aA (bT O (aW (fP O O (by omega)) (iC O (bZ (aP ?_)))))
        refine dN (i + 1) ?_ ?_ ?_ ?_
        ·exact oO
        ·exact sb5
        ·(try dsimp only)
         first | done | exact ⟨⟨by omega, by omega, e1.trans (Bq hi0 hil hno)⟩, HJ⟩
        ·(try dsimp only); omega
      ·skip
       refine bY O (bT O (aW (gy O O) (mX O (fun h8 => ?_) (fun h8 => ?_))))
       ·(try simp only [aF] at h8)
        refine dF (dF (nZ O O (jd (GV (aA (iC O (bZ ?_)))))))
        refine gB (()) ?_ ?_ ?_
        ·exact (Sub.qP O (by congr 1; split <;> omega) (Sub.nil _))
        ·exact (Sub.cons O (Sub.cons O (Sub.cons O (Sub.cons O (Sub.cons O MH)))))
        ·(try dsimp only)
         first | done | exact rfl
       ·(try simp only [aF] at h8)
        refine bW (bT O (bW (aW (fG O O) (kX O O (jv O (fun h9 => ?_) (fun h9 => ?_))))))
        ·(try simp only [aF] at h9)
         refine aA (iC O (bZ ?_))
         refine gB (()) ?_ ?_ ?_
         ·exact (Sub.qP O (by congr 1; split <;> omega) (Sub.nil _))
         ·exact (Sub.cons O (Sub.cons O (Sub.cons O (Sub.cons O (Sub.cons O MH)))))
         ·(try dsimp only)
          first | done | exact rfl
        ·(try simp only [aF] at h9)
         refine dS ?_
         refine gB (()) ?_ ?_ ?_
         ·exact (Sub.qP O (by congr 1; split <;> omega) (Sub.nil _))
         ·exact (Sub.cons O (Sub.cons O (Sub.cons O (Sub.cons O (Sub.cons O MH)))))
         ·(try dsimp only)
          first | done | exact rfl
     ·(try simp only [aF] at h5)
      refine eH (aT (aT (bU (aZ (jw (iC O (iC O (ig O ?_))))))))
      refine qM (.inl O) results5 O O O ?_
      exact ⟨by rw [e1, zo (by omega) (fun h => absurd h (by decide)) (fun _ => hbd)], HL⟩
    ·(try simp only [aF] at h4)
     refine dF (dF (dF (dF (kX O O (jd (vS (eH (aT (aT (bU (aZ (jw (iC O (iC O (ig O ?_)))))))))))))))
     refine qM (.inl O) results5 O O O ?_
     exact ⟨by rw [e1, zo (by omega) (fun h => absurd h (by decide)) (fun _ => hbd)], HL⟩
theorem Il (H : V w0 w F) (hv : EL w0 F 1 v ls.length us) (he : ∀ k, k < ls.length → jm w0 F .i32 (us.getD k undef) (ls.getD k [])) (hv2 : jm w0 F .i32 v2 p) (hb8 : ls.length ≤ 4611686018427387904) (TN : ∀ k, k < ls.length → (ls.getD k []).length ≤ 4611686018427387903) :
    iM prog 5 #[v, .int .i64 place, .int .i64 at_, v2, .bool back] w fun v w' => v = .tuple #[.int .i64 (lq ls place at_ p back).1, .int .i64 (lq ls place at_ p back).2.1, .bool (lq ls place at_ p back).2.2] ∧ V w0 w' F := by
  cases back with
  | true => exact ab4 H hv he hv2 hb8 TN
  | false => exact ab5 H hv he hv2 hb8 TN
end
end Go.Proofs.YtgofgnlkpeghcaaGreatDoor
end
section
namespace Go.Proofs.YtgofgnlkpeghcaaGreatDoor
open Go.RowKit
structure ZT where
  pat : List Int
  back : Bool
  failed : Bool
  place : Int
  at_ : Int
deriving Inhabited
structure SS where
  L : List (List Int)
  last : List Int
  now : ZT
  was : List ZT
def TD (pv : Value) (t : ZT) (n : Nat) : List Value := [pv, .bool t.back, .bool t.failed, .int .i64 t.place, .int .i64 t.at_, .int .i64 (n : Int)]
def TF (lv Xq pv uv : Value) (t : ZT) (n : Nat) : List Value := [lv, Xq, pv, .bool t.back, .bool t.failed, .int .i64 t.place, .int .i64 t.at_, .int .i64 (n : Int), uv]
def Yu (I : Hp) (p n : Nat) (v : Value) (t : ZT) : Prop := ∃ (old box : Nat) (pv : Value), v = .func (.func 93) #[] #[.pointer (some ⟨old, 0, none⟩), .pointer (some ⟨box, 0, none⟩)] ∧
  I old = some (.cells (TD pv t n).toArray 48 (0, 0)) ∧ I box = some (.cells #[.pointer (some ⟨p, 0, none⟩)] 42 (0, 0)) ∧ Gf I .i32 pv t.pat
def ae4 (I : Hp) (p n : Nat) (vs : List Value) (ts : List ZT) : Prop := vs.length = ts.length ∧ ∀ j, j < ts.length → Yu I p n (vs.getD j undef) (ts.getD j default)
theorem Yu.mono {I I' : Hp} {p n : Nat} {v : Value} {t : ZT} (hl : Hp.le I I') (h : Yu I p n v t) : Yu I' p n v t := by
  obtain ⟨old, box, pv, h1, h2, h3, h4⟩ := h
  exact ⟨old, box, pv, h1, hl _ _ h2, hl _ _ h3, h4.mono hl⟩
def Ky (p n : Nat) (vs : List Value) (ts : List ZT) : HP := know (fun I => ae4 I p n vs ts) fun _ _ hl h => ⟨h.1, fun j hj => (h.2 j hj).mono hl⟩
def MC (S : SS) : Prop := (0 < S.L.length ∧ S.L.length ≤ 4097 ∧ ∀ k, k < S.L.length → (S.L.getD k []).length ≤ 16384) ∧ S.now.pat.length ≤ 1024 ∧ (0 ≤ S.now.place ∧ S.now.place < S.L.length) ∧ S.was.length ≤ 35184372087808 ∧ ∀ t ∈ S.was, t.pat.length ≤ 1024 ∧ 0 ≤ t.place ∧ t.place < S.L.length
def oz (p : Nat) (S : SS) : HP := yC fun (x : Value × Value × Value × Value × List Value × List Value) => fact (MC S) • eF p (.cells (TF x.1 x.2.1 x.2.2.1 x.2.2.2.1 S.now S.L.length).toArray 102 (0, 0)) •
  Row 23 1 x.1 S.L.length x.2.2.2.2.1 • o7 .i32 x.2.2.2.2.1 S.L • nS .i32 x.2.1 S.last • nS .i32 x.2.2.1 S.now.pat • Row 1 1 x.2.2.2.1 S.was.length x.2.2.2.2.2 • Ky p S.L.length x.2.2.2.2.2 S.was
section
variable {w0 w : World} {F : HP} {p n : Nat} {S : SS} {lv Xq pv uv : Value} {us ws : List Value}
theorem V.ab6 {k : IntKind} {v : Value} {l : List Int} (H : V w0 w (nS k v l • F)) : V w0 w (nS k v l • nS k v l • F) := H.uD
theorem V.search (H : V w0 w (oz p S • F)) : ∃ lv Xq pv uv us ws, MC S ∧ V w0 w (eF p (.cells (TF lv Xq pv uv S.now S.L.length).toArray 102 (0, 0)) • Row 23 1 lv S.L.length us • o7 .i32 us S.L • nS .i32 Xq S.last • nS .i32 pv S.now.pat •
    Row 1 1 uv S.was.length ws • Ky p S.L.length ws S.was • F) := by
  obtain ⟨⟨lv, Xq, pv, uv, us, ws⟩, H⟩ := H.pO
  obtain ⟨h, H⟩ := H.flat.fact
  exact ⟨lv, Xq, pv, uv, us, ws, h, H.of_eq (by simp only [dK])⟩
theorem V.tY (h : MC S) (H : V w0 w (eF p (.cells (TF lv Xq pv uv S.now S.L.length).toArray 102 (0, 0)) • Row 23 1 lv S.L.length us • o7 .i32 us S.L • nS .i32 Xq S.last • nS .i32 pv S.now.pat • Row 1 1 uv S.was.length ws • Ky p S.L.length ws S.was • F)) :
    V w0 w (oz p S • F) := V.jG (lv, Xq, pv, uv, us, ws) (V.deep (V.oG h (H.of_eq (by simp only [dK]))))
theorem ZA (H : V w0 w F) : V w0 w (Ky p n [] [] • F) := H.xU fun I => ⟨rfl, fun j hj => by simp at hj⟩
theorem Xt {vs : List Value} {ts : List ZT} {old box : Nat} {t : ZT} (H : V w0 w (Ky p n vs ts • imm old (.cells (TD pv t n).toArray 48 (0, 0)) • imm box (.cells #[.pointer (some ⟨p, 0, none⟩)] 42 (0, 0)) • nS .i32 pv t.pat • F)) :
    V w0 w (Ky p n (vs ++ [.func (.func 93) #[] #[.pointer (some ⟨old, 0, none⟩), .pointer (some ⟨box, 0, none⟩)]]) (ts ++ [t]) • F) := by
  refine H.F9 fun I x ha => ?_
  have h1 := (oN _ _ _ I x).1 ha
  have h2 := (oN _ _ _ I x).1 h1.2
  have h3 := (oN _ _ _ I x).1 h2.2
  have h4 := (oN _ _ _ I x).1 h3.2
  refine (oN _ _ F I x).2 ⟨⟨by simp [h1.1.1], fun j hj => ?_⟩, h4.2⟩
  have hl := h1.1.1
  rw [List.length_append, List.length_singleton] at hj
  by_cases e : j < ts.length
  · rw [tK (by omega), tK e]; exact h1.1.2 j e
  · rw [rZ (by omega), rZ (by omega), show j - vs.length = 0 from by omega, show j - ts.length = 0 from by omega]
    exact ⟨old, box, pv, rfl, h2.1, h3.1, h4.1⟩
end
end Go.Proofs.YtgofgnlkpeghcaaGreatDoor
end
section
namespace Go.Proofs.YtgofgnlkpeghcaaGreatDoor
open Go.RowKit
open _root_.Go.Proofs.Tryz
namespace SS
def start (L : List (List Int)) (last : List Int) (back : Bool) (place at_ : Int) : SS := ⟨L, last, ⟨[], back, false, place, at_⟩, []⟩
def found (S : SS) (at_ : Int) : Int × Int × Bool := lq S.L S.now.place at_ S.now.pat S.now.back
def Q8 (S : SS) (at_ : Int) : Int := if (S.found at_).2.2 then 0 else 6
def Ll (S : SS) (at_ : Int) : SS := if (S.found at_).2.2 then { S with now := { S.now with failed := false, place := (S.found at_).1, at_ := (S.found at_).2.1 } } else { S with now := { S.now with failed := true } }
def keep (S : SS) : SS := { S with was := S.was ++ [S.now] }
def more (S : SS) (l : List Int) : SS := { S.keep with now := { S.now with pat := S.now.pat ++ l } }
def yu (S : SS) (l : List Int) : Int := if 1024 < S.now.pat.length + l.length then 3 else if l.length = 0 then 0 else (S.more l).Q8 S.now.at_
def Hf (S : SS) (l : List Int) : SS := if 1024 < S.now.pat.length + l.length then S else if l.length = 0 then S else (S.more l).Ll S.now.at_
def aiL (S : SS) : Int := if S.was.length = 0 then 6 else 0
def aiM (S : SS) : SS := if S.was.length = 0 then S else { S with now := S.was.getD (S.was.length - 1) default, was := S.was.take (S.was.length - 1) }
end SS
section
variable {w0 w : World} {F : HP} {p n e : Nat} {S : SS} {s : dw} {v lv Xq pv uv : Value} {us ws : List Value} {l : List Int} {back : Bool} {at_ : Int}
theorem FN (H : V w0 w (oz p S • F)) : iM prog 44 #[.pointer (some ⟨p, 0, none⟩)] w fun v w' => v = .bool false ∧ w = w' := by
 refine iQ func44 ntmps44 ?_
 refine kQ O (aO ?_)
 obtain ⟨Xu, Pg, Xv, Xw, Xx, Xy, Dt, zA⟩ := (H).search
 obtain ⟨aiN, aiO, aiP, agy⟩ := Rd.nR ((zA.f2).aN) (by have h9 := Dt.1.1; omega)
 cases agy
 refine aA (bT O (aW (iJ underlying42 O O) (mX O (fun h1 => ?_) (fun h1 => ?_))))
 ·(try simp only [aF] at h1)
  exfalso; first | contradiction | omega
 ·(try simp only [aF] at h1)
  refine bW (bT O (bW (dO O (bW (bn 0 gK O sizeOf22 O (bW (fB bH O (zA).get.2 O (bW (aW (zM bH O O) ?_)))))))))
  refine kX O O (ig O (fD results44 O ?_))
  exact ⟨O, O⟩
theorem ZB (hlen : s.hl.length ≤ 4096) (hp : 0 ≤ s.c.place ∧ s.c.place ≤ s.hl.length) (hL : ∀ k, k < s.lines.length → (s.lines.getD k []).length ≤ 16384) : MC (.start s.lines l back s.c.place at_) := by
  have := s.F7
  exact ⟨⟨by show 0 < s.lines.length; omega, by show s.lines.length ≤ 4097; omega, hL⟩, by show 0 ≤ 1024; omega, by show 0 ≤ s.c.place ∧ s.c.place < s.lines.length; omega, by show 0 ≤ _; omega, fun t ht => by cases ht⟩
theorem VH {s : dw} (h1 : ∀ x ∈ s.hl, x.1.size ≤ 16384) (h2 : ∀ x ∈ s.saved, x.2.size ≤ 16384) (h3 : s.c.L.length ≤ 16384) : ∀ k, k < s.lines.length → (s.lines.getD k []).length ≤ 16384 := by
  have ht : ∀ b : ByteArray, b.size ≤ 16384 → (Fj b).length ≤ 16384 := fun b hb => by have := Wj (uP b); rw [oq] at this; unfold Fj; omega
  have key : ∀ (xs : List (Int × ByteArray)) (l : List (List Int)), (∀ x ∈ xs, x.2.size ≤ 16384) → (∀ x ∈ l, x.length ≤ 16384) → ∀ x ∈ xs.foldl setAt l, x.length ≤ 16384 := by
    intro xs
    induction xs with
    | nil => intro l _ h; exact h
    | cons y xs ih =>
      intro l hx hl
      rw [List.foldl_cons]
      refine ih _ (fun x h => hx x (List.mem_cons_of_mem _ h)) fun x h => ?_
      rcases List.mem_or_eq_of_mem_set h with h | rfl
      · exact hl x h
      · exact ht _ (hx y (List.mem_cons_self ..))
  have all : ∀ x ∈ s.lines, x.length ≤ 16384 := fun x h => by
    unfold dw.lines at h
    rcases List.mem_or_eq_of_mem_set h with h | rfl
    · refine key _ _ h2 (fun x h => ?_) x h
      unfold dw.wL at h
      rcases List.mem_append.1 h with h | h
      · obtain ⟨y, hy, rfl⟩ := List.mem_map.1 h; exact ht _ (h1 y hy)
      · obtain rfl := List.mem_singleton.1 h; simp
    · exact h3
  intro k hk
  rw [List.getD_eq_getElem?_getD, List.getElem?_eq_getElem hk]
  exact all _ (List.getElem_mem hk)
theorem Xz (H : V w0 w (jq e s • F)) (hr : jm w0 F .i32 v l) (hl : l.length ≤ 35184372087808) (hT : Cj w0) : iM prog 14 #[.pointer (some ⟨e, 0, none⟩), .bool back, v] w fun v' w' => ∃ p, v' = .tuple #[.pointer (some ⟨p, 0, none⟩), .int .i64 0] ∧
  V w0 w' (oz p (.start s.lines l back s.c.place s.c.pt) • jq e s • F) := by
 obtain ⟨hok, hlk, hsL⟩ : JZ s.hl s.c ∧ HOk s.hl s.base s.most ∧ s.c.L.length ≤ 1024 := by
  obtain ⟨Ap, Aq, Ar, Au, Aw, Az, AA, AB, yE, xk, xq, xu, xw, xA, xB, xC, xE, xG, xH, xI, jf, dX, nG, kF⟩ := (H).Ox
  obtain ⟨hv9, hk9, _⟩ := (kF.f7).hist
  have hL : s.c.L.length ≤ 1024 := by obtain ⟨a, c, xs, f, t, h1, h2, h3, h4, h5, h6, h7, hc1, hc2, hl, H1⟩ := (kF.f2).buf; exact h4
  exact ⟨jf.1, hk9, hL⟩
 have hlen := s.F7
 have hsh := VH (s := s) (fun x hx => (hlk.2.2.2.2.2 x hx).1) (fun x hx => by rw [(Fp hx).2]; exact qB hlk.2.2.2.2.2 hok.2.2 _) (by omega)
 have hln := hlk.1
 refine NC func14 ntmps14 ?_
 refine jw (iC O (iP O (bY O (fE O func10 (Jm H (by assumption)) ?_))))
 rintro u1 w1 ⟨us1, H1⟩
 obtain ⟨lus, rfl⟩ : ∃ q, q = us1 := ⟨_, rfl⟩
 obtain ⟨bu1, ou1, cu1, eu1⟩ := Rd.nR ((H1).aN) (by omega)
 cases eu1
 refine sS O (bY O (aW (zM bH O O) ?_))
 refine jd (vS (iy (bY O (fE O func39 (Eo H1.f3) ?_))))
 rintro _ w2 ⟨u2, ks2, us2, sv2, rfl, H2⟩
 obtain ⟨bus, rfl⟩ : ∃ q, q = us2 := ⟨_, rfl⟩
 refine iY (fK (l := [_, _, _, _, _, _, _, _, _, _, _, _, _, _, _, _, _]) H2 je O) ?_
 rintro _ w3 ⟨b3, rfl, H3⟩
 refine aI (dG 0 (l' := [_, _, _, _, _, _, _, _, _, _, _, _, _, _, _, _, _]) (us := [_, _, _, _, _, _, _, _, _, _, _, _, _, _, _, _, _]) H3 pF O O O (aY (by first | rfl | exact Rd.one ((H3.f2).aN)) (aG (aG (aG (aG (aG (aG (aG (aG (aG (aG (aY (by first | rfl | exact Rd.one ((H3.f3).aN)) (aG (aY (by first | rfl | exact Rd.one ((H3.f5).aN)) (aG (aG (aG bK))))))))))))))))) O O) ?_
 rintro _ w4 H4
 refine rV ?_
 have Jf := H4.drew
 have mM := V.kp (Jf.f8.f8.f8.f8.f8.f8.f8.f8)
 refine uU [5, 8] mM O (gQ 0 O mM O (gQ 1 O mM O (gQ 3 O mM O (fQ 4 O mM 12 dY O aj O (iO 5 O mM (fun W hW => jT aB O ((Kp.h hW)).get.2 O) (fQ 6 O mM 0 dY O sizeOf52 O (fQ 7 O mM 1 lC O aj O (iO 8 O mM (fun W hW => jT aB O ((Kp.h hW)).get.2 O) (gQ 9 O mM O (iL 10 O mM (fun _ => jS bH O) ?_))))))))))
 refine iL 11 O mM (fun _ => fA (zl := [.slice none 0 0, .bool false, .bool false, .int .i64 0, .int .i64 0, .int .i64 0]) (pl := [(0, 1), (1, 1), (2, 1), (3, 1), (4, 1), (5, 1)]) [_, _, _, _, _, _] gZ zeroValue48 O (fun w => by kernel_rfl) O (.zero (zs := [.slice none 0 0]) O (.on (.zero (zs := [.bool false]) O (.on (.on (.on .nil)))))) O) ?_
 refine lU 2 O (wY O func43 (uY Jf (fun W HW => hr _ (HW.right.right.right.right.right.right.right.right)) (by omega))) ?_
 rintro u5 w5 H5
 have vw := V.kp (H5.f9.f9.f9.f9.f9.f9.f9.f9.f9)
 refine dZ vw (fun W hW => (Kp.h hW).right.f8.f8.f8.f8.f8.f8.f8.f8) ?_
 refine iL 12 O vw (fun _ => fA (zl := [.slice none 0 0, .slice none 0 0, .slice none 0 0, .bool false, .bool false, .int .i64 0, .int .i64 0, .int .i64 0, .slice none 0 0]) (pl := [(0, 1), (1, 1), (2, 6), (8, 1)]) [_, _, _, _, _, _, _, _, _] gK zeroValue102 O (fun w => by kernel_rfl) O (.one (Rd.one ((H5.f8).aN)) (.one (Rd.one ((H5).aN)) (.agg (us := [_, _, _, _, _, _]) (zs := [.slice none 0 0, .bool false, .bool false, .int .i64 0, .int .i64 0, .int .i64 0]) O O (.zero (zs := [.slice none 0 0]) O .nil)))) O) (lU 13 O (jo (l := [_, _, _, _, _, _, _, _, _]) H5 O O) ?_)
 rintro _ w6 ⟨b6, rfl, H6⟩
 have wJ := V.kp (H6.f10.f10.f10.f10.f10.f10.f10.f10.f10.f10)
 refine fH wJ (by kernel_rfl) ?_
 refine iL 14 O wJ (fun _ => fU O) (iL 15 O wJ (fun _ => fU O) (qj (aZ (mZ (Dw results14 O O ?_)))))
 have X := ZA (p := b6) (n := s.lines.length) (V.gG (e := 1) (sz := 1) (V.J8 (k := .i32) (H6.f3.right.f3.right.f3.right.f3.right.f3.right.f3.f5.f5.f4.f5).kK) none)
 exact ⟨_, O, V.tY (S := .start s.lines l back s.c.place s.c.pt) (ZB hln ⟨hok.1, hok.2.1⟩ hsh) X.f2.f3.f4.f7.f7.f7⟩
end
theorem Yv {S : SS} (h : MC S) (hw : S.was.length ≤ 1099511627776) : MC S.keep := by
  obtain ⟨h1, h2, h3, h4, h5⟩ := h
  refine ⟨h1, h2, h3, by show (S.was ++ [S.now]).length ≤ _; simp; omega, fun t ht => ?_⟩
  rcases List.mem_append.1 ht with h | h
  · exact h5 t h
  · obtain rfl := List.mem_singleton.1 h; exact ⟨h2, h3⟩
section
variable {w0 w : World} {F : HP} {p n e : Nat} {S : SS} {v lv Xq pv uv : Value} {us ws : List Value} {l : List Int} {back : Bool} {at_ : Int}
theorem VI (H : V w0 w (oz p S • F)) (hw : S.was.length ≤ 1099511627776) : iM prog 45 #[.pointer (some ⟨p, 0, none⟩)] w fun v w' => V w0 w' (oz p S.keep • F) := by
 refine iQ func45 ntmps45 ?_
 refine jw (iY (jo (l := [_]) H O O) ?_)
 rintro _ w1 ⟨b1, rfl, H1⟩
 refine rV ?_
 obtain ⟨Xu, Pg, Xv, Xw, Xx, Xy, Dt, zA⟩ := (H1.f2).search
 refine aA (fB underlying42 O (zA.f8).get.2 O (dO O (bn 2 gK O kW O (aW (sJ 2 (xs := [_, _, _, _, _, _]) gZ O kW O O (zA).get.2 O) (iY (fK (l := [_, _, _, _, _, _]) zA zeroValue48 O) ?_)))))
 rintro _ w3 ⟨b3, rfl, H3⟩
 refine aI (dG 0 (l' := [_, _, _, _, _, _]) (us := [_, _, _, _, _, _]) H3 kW O O O (aY (by first | rfl | exact Rd.one ((H3.f6).jh)) (aG (aG (aG (aG (aG bK)))))) O O) ?_
 rintro _ w4 H4
 refine jd ?_
 have agz := H4.drew
 have Ph := V.kp (agz.f7.right.f8.f8.f8.f8.f8.f8.f8.f8)
 refine uU [0, 1, 4] Ph O (iO 0 O Ph (fun W hW => jT underlying42 O ((Kp.h hW).f8).get.2 O) (iO 1 O Ph (fun W hW => jT underlying42 O ((Kp.h hW).f8).get.2 O) (jQ 2 O Ph O (fQ 3 O Ph 8 gK O sizeOf100 O (iO 4 O Ph (fun W hW => jT underlying100 O ((Kp.h hW).f2).get.2 O) (iL 5 O Ph (fun _ => BD O O) (lU 6 O (kU (vs := [_]) agz underlying100 sizeOf1 zeroValue1 O O O (by decide) (aG bK)) ?_)))))))
 rintro l5 w5 H5
 have vw := V.kp (H5.right.f7.right.f8.f8.f8.f8.f8.f8.f8.f8)
 refine dZ vw (fun W hW => (Kp.h hW).f8.f8.f8.f8.f8.f8.f8.f8) ?_
 refine lU 7 O (eX H5.f8 underlying100 aic O O O ((H5).aN) (aG bK) (by omega) (by omega)) ?_
 rintro l6 w6 H6
 have LQ := H6.f2.right
 have BK := V.kp (LQ.f9.f9.f9.f9.f9.f9.f9.f9.f9)
 refine dZ BK (fun W hW => (Kp.h hW).right.f8.f8.f8.f8.f8.f8.f8.f8) ?_
 refine jQ 8 O BK O (fQ 9 O BK 8 gK O sizeOf100 O ?_)
 refine gU 10 O (by kernel_rfl) (eY 8 (l' := [_, _, _, _, _, _, _, _, _]) LQ.f3 sizeOf100 O O (by first | rfl | exact Rd.one ((LQ).aN)) O O) ?_
 rintro _ w8 H8
 have LK := V.kp (H8.f9.f9.f9.f9.f9.f9.f9.f9.f9)
 refine fH LK (by kernel_rfl) ?_
 refine qj (kY (.inr O) results45 ?_)
 have X := ((H8.f2.f6.f6.f6.f5.f8.f8.f9.f9).freeze.swap.freeze.f3).ab6
 have X2 := Xt (t := S.now) X.f3.f4.f5
 exact V.tY (S := S.keep) (Yv Dt hw) (by show V w0 _ (_ • _ • _ • _ • _ • Row _ _ _ (S.was ++ [S.now]).length _ • _ • F); rw [List.length_append, List.length_singleton]; exact X2.f7.f3.f7.f7.f7.f7)
end
theorem VJ {L : List (List Int)} {place at_ : Int} {pat : List Int} {back : Bool} (h : (lq L place at_ pat back).2.2 = true) : 0 ≤ (lq L place at_ pat back).1 ∧ (lq L place at_ pat back).1 < L.length ∧ 0 ≤ (lq L place at_ pat back).2.1 := by
  have kb : ∀ n, n ≤ L.length → (GI L place at_ pat n).2.2 = true → 0 ≤ (GI L place at_ pat n).1 ∧ (GI L place at_ pat n).1 < L.length ∧ 0 ≤ (GI L place at_ pat n).2.1 := by
    intro n
    induction n with
    | zero => intro _ h; cases h
    | succ n ih =>
      intro hn h
      unfold GI at h ⊢
      split
      · rename_i h1; exact ⟨by show (0 : Int) ≤ (n : Nat); omega, by show ((n : Nat) : Int) < _; omega, h1⟩
      · rename_i h1; rw [if_neg h1] at h; exact ih (by omega) h
  have kf : ∀ n i, i + n ≤ L.length → (findF L place at_ pat n i).2.2 = true → 0 ≤ (findF L place at_ pat n i).1 ∧ (findF L place at_ pat n i).1 < L.length ∧ 0 ≤ (findF L place at_ pat n i).2.1 := by
    intro n
    induction n with
    | zero => intro i _ h; cases h
    | succ n ih =>
      intro i hn h
      unfold findF at h ⊢
      split
      · rename_i h1; exact ⟨by show (0 : Int) ≤ (i : Nat); omega, by show ((i : Nat) : Int) < _; omega, h1⟩
      · rename_i h1; rw [if_neg h1] at h; exact ih _ (by omega) h
  unfold lq at h ⊢
  split
  · rename_i hb; rw [if_pos hb] at h; cases h
  · rename_i hb
    rw [if_neg hb] at h
    split
    · rename_i hk; rw [if_pos hk] at h; exact kb _ (by omega) h
    · rename_i hk; rw [if_neg hk] at h; exact kf _ _ (by omega) h
theorem Yw {S : SS} (h : MC S) (a : Int) : MC (S.Ll a) := by
  obtain ⟨h1, h2, h3, h4, h5⟩ := h
  unfold SS.Ll
  split
  · rename_i hf
    have := VJ hf
    exact ⟨h1, h2, ⟨this.1, this.2.1⟩, h4, h5⟩
  · exact ⟨h1, h2, h3, h4, h5⟩
section
variable {w0 w : World} {F : HP} {p n e : Nat} {S : SS} {v lv Xq pv uv : Value} {us ws : List Value} {l : List Int} {back : Bool} {at_ : Int}
theorem TG (H : V w0 w (oz p S • F)) : iM prog 47 #[.pointer (some ⟨p, 0, none⟩), .int .i64 at_] w fun v w' => v = .int .i64 (S.Q8 at_) ∧ V w0 w' (oz p (S.Ll at_) • F) := by
 refine qI func47 ntmps47 ?_
 refine kQ O (aO ?_)
 obtain ⟨Xu, Pg, Xv, Xw, Xx, Xy, Dt, zA⟩ := (H).search
 have PL := zA.drew
 have kV := V.kp (PL.f7.f7.f7.f7.f7.f7.f7)
 refine uU [3, 8, 14, 19] kV O (gQ 0 O kV O (jQ 1 O kV O (fQ 2 O kV 0 gK O sizeOf22 O (iO 3 O kV (fun W hW => jT bH O ((Kp.h hW)).get.2 O) (gQ 4 O kV O (jQ 5 O kV O (fQ 6 O kV 2 gK O kW O (fQ 7 O kV 3 gZ O aj O (iO 8 O kV (fun W hW => jT aB O ((Kp.h hW)).get.2 O) (gQ 9 O kV O (gQ 10 O kV O (jQ 11 O kV O (fQ 12 O kV 2 gK O kW O (fQ 13 O kV 0 gZ O bF O (iO 14 O kV (fun W hW => jT ay O ((Kp.h hW)).get.2 O) (gQ 15 O kV O (jQ 16 O kV O (fQ 17 O kV 2 gK O kW O (fQ 18 O kV 1 gZ O aQ O (iO 19 O kV (fun W hW => jT cZ O ((Kp.h hW)).get.2 O) (lU 20 O (wY O func4 (CU (ls := S.L) (p := S.now.pat) PL (fun W HW => HW.f2.aN) (fun k hk W HW => HW.f3.FU hk) (fun W HW => HW.f5.jh) (by have := Dt.1.2.1; omega) (fun k hk => by have := Dt.1.2.2 k hk; omega))) ?_)))))))))))))))))))))
 rintro _ w2 ⟨rfl, H2⟩
 have zT := V.kp (H2.f7.f7.f7.f7.f7.f7.f7)
 refine fH zT (by kernel_rfl) ?_
 refine gQ 21 O zT O (iL 22 O zT (fun _ => Bd O O) (iL 23 O zT (fun _ => Bd O O) (iL 24 O zT (fun _ => Bd O O) (iL 25 O zT (fun _ => fU O) (iL 26 O zT (fun _ => fU O) (iL 27 O zT (fun _ => fU O) (qj (aZ (aO ?_)))))))))
 obtain ⟨r, hr⟩ : ∃ r, lq S.L S.now.place at_ S.now.pat S.now.back = r := ⟨_, rfl⟩
 rw [hr]
 refine aA (jy O O (aW (mG O) (dO O (bn 2 gK O kW O (bn 2 gZ O aQ O (aI (eY 4 (l' := [_, _, _, _, _, _, _, _, _]) H2 aQ O O (by first | rfl | assumption) O O) ?_))))))
 rintro _ w3 H3
 refine rV (bY O (aW (mG O) (jv O (fun h1 => ?_) (fun h1 => ?_))))
 ·(try simp only [aF] at h1)
  have hno : r.2.2 = false := by have h9 := h1; simpa using h9
  refine mP O (aC (fD results47 O ?_))
  have e1 : S.Ll at_ = { S with now := { S.now with failed := true } } := by unfold SS.Ll SS.found; rw [hr, if_neg (by rw [hno]; decide)]
  have e2 : S.Q8 at_ = 6 := by unfold SS.Q8 SS.found; rw [hr, if_neg (by rw [hno]; decide)]
  have X := H3
  rw [hno] at X
  exact ⟨by rw [e2], e1 ▸ V.tY (S := { S with now := { S.now with failed := true } }) (e1 ▸ Yw Dt at_) X⟩
 ·(try simp only [aF] at h1)
  have hyes : r.2.2 = true := by have h9 := h1; simpa using h9
  refine iy (bY O (jy O O (mJ O O (bn 2 gK O kW O (bn 3 gZ O aj O (aI (eY 5 (l' := [_, _, _, _, _, _, _, _, _]) H3 aj O O (by first | rfl | assumption) O O) ?_))))))
  rintro _ w4 H4
  refine dO O (bn 2 gK O kW O (bn 4 gZ O aj O (aI (eY 6 (l' := [_, _, _, _, _, _, _, _, _]) H4 aj O O (by first | rfl | assumption) O O) ?_)))
  rintro _ w5 H5
  refine jd (mP O (fD results47 O ?_))
  have e1 : S.Ll at_ = { S with now := { S.now with failed := false, place := r.1, at_ := r.2.1 } } := by unfold SS.Ll SS.found; rw [hr, if_pos hyes]
  have e2 : S.Q8 at_ = 0 := by unfold SS.Q8 SS.found; rw [hr, if_pos hyes]
  have X := H5
  rw [hyes] at X
  exact ⟨by rw [e2], e1 ▸ V.tY (S := { S with now := { S.now with failed := false, place := r.1, at_ := r.2.1 } }) (e1 ▸ Yw Dt at_) X⟩
theorem ab7 (h : MC S.keep) : MC S := by
  obtain ⟨h1, h2, h3, h4, h5⟩ := h
  have : (S.was ++ [S.now]).length ≤ 35184372087808 := h4
  rw [List.length_append, List.length_singleton] at this
  exact ⟨h1, h2, h3, by omega, fun t ht => h5 t (List.mem_append_left _ ht)⟩
theorem ade (h : MC S) (hw : S.was.length ≤ 1099511627776) (hl : S.now.pat.length + l.length ≤ 1024) : MC (S.more l) := by
  obtain ⟨h1, h2, h3, h4, h5⟩ := Yv h hw
  exact ⟨h1, by show (S.now.pat ++ l).length ≤ 1024; rw [List.length_append]; omega, h3, h4, h5⟩
theorem XA (H : V w0 w (oz p S • F)) (hr : jm w0 F .i32 v l) (hl : l.length ≤ 35184372087808) (hw : S.was.length ≤ 1099511627776) : iM prog 15 #[.pointer (some ⟨p, 0, none⟩), v] w fun v' w' => v' = .int .i64 (S.yu l) ∧ V w0 w' (oz p (S.Hf l) • F) := by
 unfold SS.yu SS.Hf
 refine qI func15 ntmps15 ?_
 refine kQ O (aO (bY O (fE O func44 (FN H) ?_)))
 rintro _ _ ⟨rfl, rfl⟩
 refine jd (vS (iy (aO (aO ?_))))
 obtain ⟨Xu, Pg, Xv, Xw, Xx, Xy, Dt, zA⟩ := (H).search
 have hpl := Dt.2.1
 refine aA (mJ O O (bn 2 gK O kW O (bn 0 gZ O bF O (fB ay O (zA).get.2 O (aW (jJ ((zA.f5).jh) ay O) (bT O (aW (jJ (hr _ (zA.right.right.right.right.right.right.right)) ay O) (aW (fP O O (by omega)) (aW (iT O O) (jv O (fun h1 => ?_) (fun h1 => ?_)))))))))))
 ·(try simp only [aF] at h1)
  have hbig := h1
  refine mP O (aC (fD results15 O ?_))
  have PD := zA.f7.f7.f7.f7.f7.f7.f7
  have MK := V.tY Dt PD
  exact ⟨by rw [if_pos (by omega)], by rw [if_pos (by omega)]; exact MK⟩
 ·(try simp only [aF] at h1)
  have hsm : ¬ 1024 < S.now.pat.length + l.length := by have h9 := h1; omega
  have RY := zA.f7.f7.f7.f7.f7.f7.f7
  have PS := V.tY Dt RY
  refine iy (aO (bY O (aW (jJ (hr _ (PS.right)) ay O) (aW (kP O O) (jv O (fun h2 => ?_) (fun h2 => ?_))))))
  ·(try simp only [aF] at h2)
   have hz := h2
   refine mP O (aC (fD results15 O ?_))
   exact ⟨by rw [if_neg hsm, if_pos (by omega)], by rw [if_neg hsm, if_pos (by omega)]; exact PS⟩
  ·(try simp only [aF] at h2)
   have hnz : ¬ l.length = 0 := by have h9 := h2; omega
   refine iy (bY O (fE O func45 (VI PS hw) ?_))
   rintro _ w9 H9
   obtain ⟨Xu, Pg, Xv, Xw, Xx, Xy, Dt, zA⟩ := (H9).search
   have hpk : S.keep.now.pat.length ≤ 1024 := hpl
   have hpk2 : S.keep.now.pat.length + l.length ≤ 1024 := by show S.now.pat.length + l.length ≤ 1024; omega
   refine ql O (mJ O O (bn 2 gK O kW O (bn 0 gZ O bF O (fB ay O (zA).get.2 O (bT O (iY (kU (vs := [_, _]) zA bH bF zeroValue23 O O O (by decide) (aY (by first | rfl | exact Rd.one ((zA.f5).jh)) (aY (by first | rfl | exact Rd.one (hr _ (zA.right.right.right.right.right.right.right))) bK))) ?_))))))
   rintro l11 Iq sG
   refine fE O func46 (Ug sG (fun W HW => (HW).aN) (fun W HW => (HW.f6).jh) (fun W HW => hr _ (HW.right.right.right.right.right.right.right.right)) (by first|omega|(simp only [List.length_take, List.length_drop]; omega))) ?_
   rintro u12 w12 tN
   refine dO O (bn 2 gK O kW O (bn 0 gZ O bF O (aI (eY 2 (l' := [_, _, _, _, _, _, _, _, _]) tN.f3 bF O O (by first | rfl | exact Rd.one ((tN).aN)) O O) ?_)))
   rintro _ Qz Ak
   refine rV ?_
   have Sv := Ak.f2
   have Sz := Sv.kK
   have HX : V w0 _ (oz p (S.more l) • F) := V.tY (S := S.more l) (ade (ab7 Dt) hw hpk2) Sz.f3.right.f6.right.f7.f7.f3.f7.f7.f7.f7
   obtain ⟨Xu, Pg, Xv, Xw, Xx, Xy, Dt, zA⟩ := (HX).search
   refine aA (jy O O (dO O (bn 2 gK O kW O (bn 4 gZ O aj O (fB aB O (zA).get.2 O ?_)))))
   have aeQ := zA.f7.f7.f7.f7.f7.f7.f7
   have aeR := V.tY Dt aeQ
   refine fE O func47 (TG (S := S.more l) aeR) ?_
   rintro _ YT ⟨rfl, EI⟩
   refine ig O (fD results15 O ?_)
   exact ⟨by rw [if_neg hsm, if_neg hnz]; rfl, by rw [if_neg hsm, if_neg hnz]; exact EI⟩
end
end Go.Proofs.YtgofgnlkpeghcaaGreatDoor
end
section
namespace Go.Proofs.YtgofgnlkpeghcaaGreatDoor
open Go.RowKit
theorem CX {P : Program} {L : List (Nat × Value)} {w : World} {ty t : TypeId} {fs : Array Field} {f : Field} {i : Nat} {x : Operand} {cs : Array Value} {u : Value} (off : Nat) (ht : P.underlying t = some (.struct fs)) (hf : fs[i]? = some f) (ho : f.offset = off) (hp : uS P f.type = true) (hx : ev L x = some (.agg cs)) (hc : cs[off]? = some u) :
    Val P L (.field t x i) ty w u w := fun ρ hρ _ _ _ _ => by
  simp [execOp, hρ _ _ hx, Instr.field, run_underlying ht, hf, part, asAgg, Iw hp, ho, hc]
end Go.Proofs.YtgofgnlkpeghcaaGreatDoor
end
section
namespace Go.Proofs.YtgofgnlkpeghcaaGreatDoor
open Go.RowKit
open _root_.Go.Proofs.Tryz
section
variable {w0 w : World} {F : HP} {p n n0 e old box : Nat} {S : SS} {s : dw} {v lv Xq pv qv uv : Value} {us ws : List Value} {l : List Int} {back : Bool} {at_ place : Int} {t u : ZT}
theorem TI (H : V w0 w (oz p S • F)) : iM prog 16 #[.pointer (some ⟨p, 0, none⟩)] w fun v w' => ∃ u, v = .agg (TD u S.now S.L.length).toArray ∧ V w0 w' (jR 21 .i32 u S.now.pat • oz p S • F) := by
 refine iQ func16 ntmps16 ?_
 refine jw (iY (fK (l := [_, _, _, _, _, _]) H zeroValue48 O) ?_)
 rintro _ w1 ⟨b1, rfl, H1⟩
 refine rV (bY O (fE O func44 (FN H1.f2) ?_))
 rintro _ _ ⟨rfl, rfl⟩
 refine jd (vS (iy (aO ?_)))
 obtain ⟨Xu, Pg, Xv, Xw, Xx, Xy, Dt, zA⟩ := (H1.f2).search
 have hpl := Dt.2.1
 refine aA (mJ O O (bn 2 gK O kW O (aW (sJ 2 (xs := [_, _, _, _, _, _]) gZ O kW O O (zA).get.2 O) (iY (fK (l := [_, _, _, _, _, _]) zA zeroValue48 O) ?_))))
 rintro _ w4 ⟨b4, rfl, H4⟩
 refine aI (dG 0 (l' := [_, _, _, _, _, _]) (us := [_, _, _, _, _, _]) H4 kW O O O (aY (by first | rfl | exact Rd.one ((H4.f6).jh)) (aG (aG (aG (aG (aG bK)))))) O O) ?_
 rintro _ w5 H5
 refine YK (bn 0 gZ O bF O (fB ay O (H5).get.2 O (fE O func43 (uY H5 (fun W HW => (HW.f6).jh) (by omega)) ?_)))
 rintro u6 w6 H6
 refine bn 0 gZ O bF O (aI (eY 0 (l' := [_, _, _, _, _, _]) H6.f2 bF O O (by first | rfl | exact Rd.one ((H6).aN)) O O) ?_)
 rintro _ w7 H7
 refine YK (aW (dI gZ O kW O O (H7).get.2) (aI (dG 0 (l' := [_, _, _, _, _, _]) (us := [_, _, _, _, _, _]) H7.f10 kW O O O (aY (by first | rfl | exact Rd.one ((H7.f2).aN)) (aG (aG (aG (aG (aG bK)))))) O O) ?_))
 rintro _ w8 H8
 refine zkc ?_
 refine rW (.inl O) (Lr results16 O gZ O (by rw [agA]; rfl) (H8).get.2) ?_
 have Om := H8.f10.f10.f10.f10.f10.f10.f10
 have LU := V.tY Dt Om
 exact ⟨_, O, LU.f2.right.f2.right.f2⟩
end
namespace dw
def JA (s : dw) (place : Int) : dw := if s.c.place = place then s else s.wz place
def zJ (s : dw) (place at_ : Int) : Bool := decide (at_ < 0 ∨ ((s.JA place).c.L.length : Int) < at_)
def Pj (s : dw) (place at_ : Int) : Int := if s.c.place ≠ place ∧ s.qC place ≠ 0 then s.qC place else if s.zJ place at_ then 6 else (s.JA place).Gw at_
def Pm (s : dw) (place at_ : Int) : dw := if s.c.place ≠ place ∧ s.qC place ≠ 0 then s else if s.zJ place at_ then s.JA place else (s.JA place).yA at_
def JB (s : dw) (place at_ : Int) : dw := if s.yx ≠ 0 then s else (s.lg.Pm place at_).uy (s.lg.Pj place at_)
def Nk (s : dw) (place at_ : Int) : Int := if s.yx ≠ 0 then s.yx else (s.lg.Pm place at_).EK (s.lg.Pj place at_)
end dw
section
variable {w0 w : World} {F : HP} {p n n0 e old box : Nat} {S : SS} {s : dw} {v lv Xq pv qv uv : Value} {us ws : List Value} {l : List Int} {back : Bool} {at_ place : Int} {t u : ZT}
theorem VK (H : V w0 w (jq e s • F)) (hT : Cj w0) (hR : vP s.c.L) : iM prog 48 #[.pointer (some ⟨e, 0, none⟩), .int .i64 place, .int .i64 at_] w fun v w' => v = .int .i64 (s.Pj place at_) ∧ V w0 w' (jq e (s.Pm place at_) • F) := by
  refine NC func48 ntmps48 ?_
  refine kQ O ?_
  refine rU [(0, _), (2, _)] (fun (_ : Unit) => []) (fun (_ : Unit) W => (¬ (s.c.place ≠ place ∧ s.qC place ≠ 0)) ∧ V w0 W (jq e (s.JA place) • F)) rP ?_ ?_
  · rintro _ w1 ⟨hn1, HJ⟩
    dsimp only [List.cons_append, List.nil_append]
    refine aO (bY O (aW (fG O O) (mX O (fun h1 => ?_) (fun h1 => ?_))))
    · (try simp only [aF] at h1)
      refine dF (dF (dF (dF (dF (dF (nZ O O (jd (GV (mP O (aC (fD results48 O ?_)))))))))))
      have hb : s.zJ place at_ = true := by unfold dw.zJ; exact decide_eq_true (by omega)
      exact ⟨by unfold dw.Pj; rw [if_neg hn1, if_pos hb], by unfold dw.Pm; rw [if_neg hn1, if_pos hb]; exact HJ⟩
    · (try simp only [aF] at h1)
      refine bW (bT O (bW (bT O (bW (fE O func18 (KP HJ) ?_)))))
      rintro _ w2 ⟨u2, rfl, H2⟩
      refine bW (aW (CX 0 lC O O (dn ay O) O O) (bW (aW (jJ ((H2).aN) ay O) ?_)))
      have Hd3 := H2.right
      refine bW (aW (iT O O) (kX O O (jv O (fun h2 => ?_) (fun h2 => ?_))))
      · (try simp only [aF] at h2)
        have hb : s.zJ place at_ = true := by unfold dw.zJ; exact decide_eq_true (by omega)
        refine mP O (aC (fD results48 O ?_))
        have hb : s.zJ place at_ = true := by unfold dw.zJ; exact decide_eq_true (by omega)
        exact ⟨by unfold dw.Pj; rw [if_neg hn1, if_pos hb], by unfold dw.Pm; rw [if_neg hn1, if_pos hb]; exact Hd3⟩
      · (try simp only [aF] at h2)
        have hb : ¬ s.zJ place at_ = true := by unfold dw.zJ; rw [decide_eq_true_eq]; have h9 := h2; omega
        refine iy (bY O (bT O (fE O func26 (KO Hd3) ?_)))
        rintro _ w4 ⟨rfl, H4⟩
        refine ig O (fD results48 O ?_)
        exact ⟨by unfold dw.Pj; rw [if_neg hn1, if_neg hb], by unfold dw.Pm; rw [if_neg hn1, if_neg hb]; exact H4⟩
  · skip
    refine bY O (fE O func39 (Eo H) ?_)
    rintro _ w5 ⟨u5, ks5, us5, sv5, rfl, H5⟩
    refine aW (CX 12 dY O O (dn aB O) O O) (bT O (aW (gy O O) ?_))
    have Zm := H5.right
    have LQ := Zm.right
    have Hd8 := LQ.right
    have Hd9 := Hd8.right
    refine jv O (fun h3 => ?_) (fun h3 => ?_)
    · (try simp only [aF] at h3)
      have hne : ¬ s.c.place = place := h3
      refine bY O (bT O (fE O func24 (KX Hd9 (by assumption) (by assumption)) ?_))
      rintro _ w10 ⟨rfl, sF⟩
      refine iP O (bY O (aW (gy O O) (jv O (fun h4 => ?_) (fun h4 => ?_))))
      · (try simp only [aF] at h4)
        have hg : s.qC place ≠ 0 := h4
        have hge : s.wz place = s := by unfold dw.wz; rw [if_neg hg]
        refine bY O (ig O (aC (fD results48 O ?_)))
        exact ⟨by unfold dw.Pj; rw [if_pos ⟨hne, hg⟩], by unfold dw.Pm; rw [if_pos ⟨hne, hg⟩]; rw [hge] at sF; exact sF⟩
      · (try simp only [aF] at h4)
        have hg : s.qC place = 0 := by have h9 := h4; simpa using h9
        have ht : s.JA place = s.wz place := by unfold dw.JA; rw [if_neg hne]
        have hn1 : ¬ (s.c.place ≠ place ∧ s.qC place ≠ 0) := fun c => c.2 hg
        have HX := sF
        rw [← ht] at HX
        refine dS ?_
        refine gB (()) ?_ ?_ ?_
        · exact (Sub.nil _)
        · exact rP
        · (try dsimp only)
          first | done | exact ⟨hn1, HX⟩
    · (try simp only [aF] at h3)
      have heq : s.c.place = place := by have h9 := h3; simpa using h9
      have ht : s.JA place = s := by unfold dw.JA; rw [if_pos heq]
      have hn1 : ¬ (s.c.place ≠ place ∧ s.qC place ≠ 0) := fun c => c.1 heq
      have HX := Hd9
      rw [← ht] at HX
      refine dS ?_
      refine gB (()) ?_ ?_ ?_
      · exact (Sub.nil _)
      · exact rP
      · (try dsimp only)
        first | done | exact ⟨hn1, HX⟩
theorem Qg (H : V w0 w (jq e s • oz p S • F)) (hT : Cj w0) (hR : vP s.lg.c.L) : iM prog 17 #[.pointer (some ⟨p, 0, none⟩), .pointer (some ⟨e, 0, none⟩)] w fun v w' => v = .int .i64 (s.Nk S.now.place S.now.at_) ∧ V w0 w' (jq e (s.JB S.now.place S.now.at_) • oz p S • F) := by
 refine qI func17 ntmps17 ?_
 refine kQ O (aO (bY O (fE O func44 (FN H.f2) ?_)))
 rintro _ _ ⟨rfl, rfl⟩
 refine jd (vS (iy (aO (bY O (fE O func22 (AL H) ?_)))))
 rintro _ w2 ⟨rfl, H2⟩
 refine iP O (bY O (aW (gy O O) (jv O (fun h1 => ?_) (fun h1 => ?_))))
 ·(try simp only [aF] at h1)
  have hbe : s.yx ≠ 0 := h1
  have hbs : s.lg = s := by unfold dw.lg dw.yx at *; split at hbe <;> simp_all
  refine bY O (ig O (aC (fD results17 O ?_)))
  exact ⟨by unfold dw.Nk; rw [if_pos hbe], by unfold dw.JB; rw [if_pos hbe]; rw [hbs] at H2; exact H2.f2.f2⟩
 ·(try simp only [aF] at h1)
  have hbe : ¬ s.yx ≠ 0 := by have h9 := h1; simpa using h9
  refine iy (aO ?_)
  obtain ⟨Xu, Pg, Xv, Xw, Xx, Xy, Dt, zA⟩ := (H2.f2).search
  have agB := zA.drew
  have DX := V.kp (agB.f8.f8.f8.f8.f8.f8.f8.f8)
  refine uU [6, 11] DX O (gQ 0 O DX O (gQ 1 O DX O (gQ 2 O DX O (jQ 3 O DX O (fQ 4 O DX 2 gK O kW O (fQ 5 O DX 3 gZ O aj O (iO 6 O DX (fun W hW => jT aB O ((Kp.h hW)).get.2 O) (gQ 7 O DX O (jQ 8 O DX O (fQ 9 O DX 2 gK O kW O (fQ 10 O DX 4 gZ O aj O (iO 11 O DX (fun W hW => jT aB O ((Kp.h hW)).get.2 O) (lU 12 O (wY O func48 (VK agB.f8 (by assumption) (by assumption))) ?_)))))))))))))
  rintro _ w4 ⟨rfl, H4⟩
  have uZ := V.kp (H4.f8.f8.f8.f8.f8.f8.f8.f8)
  refine fH uZ (by kernel_rfl) ?_
  refine lU 13 O (wY O func23 (Em H4)) ?_
  rintro _ w5 ⟨rfl, H5⟩
  have vw := V.kp (H5.f8.f8.f8.f8.f8.f8.f8.f8)
  refine fH vw (by kernel_rfl) ?_
  refine iL 14 O vw (fun _ => fU O) (qj (aZ (mZ (fD results17 O ?_))))
  have RY := H5.f8.f8.f8.f8.f8.f8.f8
  have PS := V.tY Dt RY
  exact ⟨by unfold dw.Nk; rw [if_neg hbe], by unfold dw.JB; rw [if_neg hbe]; exact PS.f2⟩
end
namespace dw
variable (s : dw)
def agC (k : Int) : dw := (s.lg.wz k).uy (s.lg.qC k)
def aid (l : List Int) : dw := (s.lg.WH l).uy (s.lg.Y6 l)
def agD (x : Int) : dw := (s.lg.yA x).uy (s.lg.Gw x)
end dw
def Io (l : List oH) (ln : List Int) : dw := (dw.new (Qx l) (Qy l) 4096).FC (Qx l) (Qy l) 4096 ln
def Lm (l : List oH) (ln : List Int) (place : Int) (ty : List Int) (pt : Int) : dw := (((Io l ln).agC place).aid ty).agD pt
theorem Yx {l : List oH} {ln : List Int} (h : ln.length ≤ 1024) : (Io l ln).lg.c.L = ln := by
  have e : (dw.new (Qx l) (Qy l) 4096).tu ln = 0 := by unfold dw.tu; rw [if_neg (by rw [show (dw.new (Qx l) (Qy l) 4096).inn = false from rfl]; decide), if_neg (by omega)]
  unfold Io dw.FC
  rw [if_pos e]
  rfl
theorem Et (l : List oH) (ln : List Int) : (dw.new (Qx l) (Qy l) 4096).tu ln = if 1024 < ln.length then 3 else 0 := by
  unfold dw.tu; rw [if_neg (by rw [show (dw.new (Qx l) (Qy l) 4096).inn = false from rfl]; decide)]
section
variable {w0 w : World} {F : HP} {l : List oH} {hv lv tv : Value} {ln ty : List Int} {place pt : Int}
theorem Q9 (H : V w0 w F) (q1 : EL w0 F 2 hv l.length (l.flatMap lD)) (q2 : jm w0 F .i32 lv ln) (q3 : jm w0 F .i32 tv ty) (hb : l.length ≤ 5864062014805) (hm : wZ l = 0) (hln : ln.length ≤ 1024) (hT : Cj w0) (hRL : vP ln) :
    iM prog 7 #[.agg #[hv, lv, .int .i64 place, tv, .int .i64 pt]] w fun v w' => ∃ e, v = .pointer (some ⟨e, 0, none⟩) ∧ V w0 w' (jq e (Lm l ln place ty pt) • F) := by
  have hR2 : vP (Io l ln).lg.c.L := by rw [Yx hln]; exact hRL
  refine iQ func7 ntmps7 ?_
  refine jw (iY (jo (l := [_, _, _, _, _]) H O O) ?_)
  rintro _ w1 ⟨b1, rfl, H1⟩
  refine iP O (jw (bn 0 fO O gW O (fB bM O (H1).get.2 O (fE O func19 (EZ H1 (by decide) (fun W HW => q1 _ (HW.right)) hb hm) ?_))))
  rintro _ w2 ⟨p2, rfl, H2⟩
  refine bT O (sD O O (sD O O (iC O (sS O (bY O (aW (gy O O) (jd (Ip O (fun h1 => ?_)))))))))
  (try simp only [aF] at h1)
  refine iy (bY O (fE O func20 (OD H2) ?_))
  rintro _ w3 ⟨e3, rfl, H3⟩
  refine bT O (sD O O (sD O O (iC O (sS O (bY O (aW (gy O O) (TJ O (fun h2 => ?_))))))))
  (try simp only [aF] at h2)
  refine bW (bT O (bW (aW (iJ lZ O O) (kX O O (TJ O (fun h3 => ?_))))))
  (try simp only [aF] at h3)
  refine bW (bT O (bW (bT O (bW (bn 1 fO O bF O (bW (fB ay O (H3.f3).get.2 O (bW (fE O func21 (Jq H3.f2.f2 (fun W HW => q2 _ (HW.right))) ?_)))))))))
  rintro _ w4 ⟨rfl, H4⟩
  refine bW (aW (gy O O) (kX O O (jv O (fun h => by exfalso; (try simp only [aF] at h); have h9 := Et l ln; rw [if_neg (by omega)] at h9; exact h h9) (fun h4 => ?_))))
  (try simp only [aF] at h4)
  refine iy (bY O (fE O func22 (AL (s := Io l ln) H4) ?_))
  rintro _ w5 ⟨rfl, H5⟩
  refine ql O (bT O (bn 2 fO O aj O (fB aB O (H5.f3).get.2 O (fE O func24 (KX H5 (by assumption) (by assumption)) ?_))))
  rintro _ w6 ⟨rfl, H6⟩
  refine fE O func23 (Em H6) ?_
  rintro _ w7 ⟨rfl, H7⟩
  refine ql O (fE O func22 (AL H7) ?_)
  rintro _ w8 ⟨rfl, H8⟩
  refine ql O (bT O (bn 3 fO O bF O (fB ay O (H8.f3).get.2 O (fE O func25 (PU H8 (fun W HW => q3 _ (HW.right.right))) ?_))))
  rintro _ w9 ⟨rfl, H9⟩
  refine fE O func23 (Em H9) ?_
  rintro _ w10 ⟨rfl, sF⟩
  refine ql O (fE O func22 (AL sF) ?_)
  rintro _ Iq ⟨rfl, sG⟩
  refine ql O (bT O (bn 4 fO O aj O (fB aB O (sG.f3).get.2 O (fE O func26 (KO sG) ?_))))
  rintro _ w12 ⟨rfl, tN⟩
  refine fE O func23 (Em tN) ?_
  rintro _ Qz ⟨rfl, Ak⟩
  refine ql O (ig O (fD results7 O ?_))
  exact ⟨_, O, Ak.f2.right.f2.right⟩
theorem ZC (H : V w0 w F) (q1 : EL w0 F 2 hv l.length (l.flatMap lD)) (hb : l.length ≤ 5864062014805) (hm : wZ l ≠ 0) :
    iM prog 7 #[.agg #[hv, lv, .int .i64 place, tv, .int .i64 pt]] w fun v w' => v = .pointer none ∧ V w0 w' F := by
  refine iQ func7 ntmps7 ?_
  refine jw (iY (jo (l := [_, _, _, _, _]) H O O) ?_)
  rintro _ w1 ⟨b1, rfl, H1⟩
  refine iP O (jw (bn 0 fO O gW O (fB bM O (H1).get.2 O (fE O func19 (PE H1 (by decide) (fun W HW => q1 _ (HW.right)) hb hm) ?_))))
  rintro _ w2 ⟨rfl, H2⟩
  refine bT O (sD O O (sD O O (iC O (sS O (bY O (aW (gy O O) (jv O (fun h1 => ?_) (fun h => by exfalso; (try simp only [aF] at h); exact hm h))))))))
  (try simp only [aF] at h1)
  refine mP O (aC (fD results7 O ?_))
  exact ⟨O, H2.right⟩
theorem ZE (H : V w0 w F) (q1 : EL w0 F 2 hv l.length (l.flatMap lD)) (q2 : jm w0 F .i32 lv ln) (hb : l.length ≤ 5864062014805) (hm : wZ l = 0) (hln : 1024 < ln.length) :
    iM prog 7 #[.agg #[hv, lv, .int .i64 place, tv, .int .i64 pt]] w fun v w' => v = .pointer none ∧ V w0 w' F := by
  refine iQ func7 ntmps7 ?_
  refine jw (iY (jo (l := [_, _, _, _, _]) H O O) ?_)
  rintro _ w1 ⟨b1, rfl, H1⟩
  refine iP O (jw (bn 0 fO O gW O (fB bM O (H1).get.2 O (fE O func19 (EZ H1 (by decide) (fun W HW => q1 _ (HW.right)) hb hm) ?_))))
  rintro _ w2 ⟨p2, rfl, H2⟩
  refine bT O (sD O O (sD O O (iC O (sS O (bY O (aW (gy O O) (jd (Ip O (fun h1 => ?_)))))))))
  (try simp only [aF] at h1)
  refine iy (bY O (fE O func20 (OD H2) ?_))
  rintro _ w3 ⟨e3, rfl, H3⟩
  refine bT O (sD O O (sD O O (iC O (sS O (bY O (aW (gy O O) (TJ O (fun h2 => ?_))))))))
  (try simp only [aF] at h2)
  refine bW (bT O (bW (aW (iJ lZ O O) (kX O O (TJ O (fun h3 => ?_))))))
  (try simp only [aF] at h3)
  refine bW (bT O (bW (bT O (bW (bn 1 fO O bF O (bW (fB ay O (H3.f3).get.2 O (bW (fE O func21 (Jq H3.f2.f2 (fun W HW => q2 _ (HW.right))) ?_)))))))))
  rintro _ w4 ⟨rfl, H4⟩
  refine bW (aW (gy O O) (kX O O (jv O (fun h4 => ?_) (fun h => by exfalso; (try simp only [aF] at h); have h9 := Et l ln; rw [if_pos (by omega)] at h9; exact absurd (h9.symm.trans h) (by decide)))))
  (try simp only [aF] at h4)
  refine mP O (aC (fD results7 O ?_))
  exact ⟨O, H4.right.right.right⟩
end
end Go.Proofs.YtgofgnlkpeghcaaGreatDoor
end
