import Derived.Test.YtpdeedplgmbopaaGreatDoorZ4
import Derived.Test.YtpdeedplgmbopaaGreatDoorZ9
import Derived.Test.YtpdeedplgmbopaaGreatDoorZ3
import Derived.Laws.BitsLemmas
import Derived.Lib.RuneBytes
import Derived.Scope
import Derived.Laws.RangeString
import Derived.Lib.OthersKept
import Derived.Lib.Bytealg
import Derived.Test.YtpdeedplgmbopaaGreatDoorProg
import Derived.Test.YtpdeedplgmbopaaGreatDoorZ2
import Derived.Test.YtpdeedplgmbopaaGreatDoorZ6
import Derived.Test.YtpdeedplgmbopaaGreatDoorZ8
set_option linter.unusedSimpArgs false
set_option linter.unusedVariables false
/- Texts of mine, joined, their names in short: VW4 VS Bits VN Str StrF VI VC HistF. -/
section
namespace Go.Proofs.YtpdeedplgmbopaaGreatDoor
open Go.RowKit
open _root_.Go.Proofs.Tryz
def zn (l : List Int) (x : Int) (big : Bool) : Int :=
  if 0 < uJ (fun r => eU r == 0) l x then uJ (fun r => cZ r big == cZ (l.getD (uJ (fun r => eU r == 0) l x - 1).toNat 0) big) l (uJ (fun r => eU r == 0) l x) else uJ (fun r => eU r == 0) l x
def E8 (l : List Int) (x : Int) (big : Bool) : Int :=
  if (l.length : Int) ≤ jY (fun r => eU r == 0) l (x + 1) then (l.length : Int) - 1 else jY (fun r => cZ r big == cZ (l.getD (jY (fun r => eU r == 0) l (x + 1)).toNat 0) big) l (jY (fun r => eU r == 0) l (x + 1) + 1) - 1
section
variable {w0 w : World} {F : HP} {r x : Int} {big : Bool} {l : List Int} {v : Value}
theorem SV (H : V w0 w F) (hr : jM w0 F .i32 v l) (hT : yK w0) (hx0 : 0 ≤ x) (hx1 : x ≤ l.length) : gQ prog 96 #[v, .int .i64 x, .bool big] w fun v' w' => v' = .int .i64 (zn l x big) ∧ V w0 w' F := by
 have Ug : l.length ≤ 9223372036854775807 := by have := (hr _ H).open; obtain ⟨a, c, e, h3, h4, _⟩ := this; omega
 refine FY func96 ntmps96 ?_
 refine jk O (aO (aZ ?_))
 refine fC [(0, _), (2, _)] (fun (y : Int) => [(1, .int .i64 y)]) (fun (y : Int) W => ((0 ≤ y ∧ y ≤ l.length) ∧ uJ (fun r => eU r == 0) l y = uJ (fun r => eU r == 0) l x) ∧ V w0 W F) (fun (y : Int) => y.toNat) (x) oO kD ⟨⟨⟨hx0, hx1⟩, O⟩, H⟩ ?_
 rintro y w1 ⟨⟨⟨hy0, hyl⟩, hy⟩, HL⟩
 dsimp only [List.cons_append, List.nil_append]
 refine aO (bT O (Z (jc O O) (jL O (fun h1 => ?_) (fun h1 => ?_))))
 ·(try simp only [aF] at h1)
  refine bC (bQ O (bC (bQ O (bC (Z (lu O O (by omega)) (bC ?_))))))
  obtain ⟨bv, ov, cv, ev⟩ := eX.nX (hr _ (HL)) (by omega)
  cases ev
  refine Z (dw ay bK O O (by omega)) (bC ?_)
  refine Z (dR (bV bf O) O (by first | exact eX.jT (hr _ (HL)) (by omega) | exact eX.rP (hr _ (HL)) (by omega) | exact eX.rO (hr _ (HL)) (by omega))) ?_
  refine bC (eG O func14 (oh HL hT) ?_)
  rintro _ w2 ⟨rfl, H2⟩
  refine bC (Z (dO O O) (jw O O (iV O (fun h2 => ?_) (fun h2 => ?_))))
  ·(try simp only [aF] at h2)
   have hP : (eU (l.getD (y - 1).toNat 0) == 0) = true := by rw [beq_iff_eq]; exact h2
   refine fV (aZ (aB (bQ O (Z (lu O O (by omega)) (fU O (bP (aJ ?_)))))))
   refine dH (y - 1) ?_ ?_ ?_ ?_
   ·exact kD
   ·exact oO
   ·(try dsimp only)
    first | done | exact ⟨⟨⟨by omega, by omega⟩, (GK (by omega) hyl hP).symm.trans hy⟩, H2⟩
   ·(try dsimp only); omega
  ·(try simp only [aF] at h2)
   have hP : ¬ (eU (l.getD (y - 1).toNat 0) == 0) = true := by rw [beq_iff_eq]; exact h2
   refine dn (aI (aI (aY (aW (aO (aO ?_))))))
   have e1 : uJ (fun r => eU r == 0) l x = y := hy.symm.trans (by first | exact tZ (by omega) | exact xg (by omega) hyl hP)
   refine aB (bQ O (Z (jc O O) (iV O (fun h3 => ?_) (fun h3 => ?_))))
   ·(try simp only [aF] at h3)
    refine bT O (bQ O (Z (lu O O (by omega)) (Z (dw ay bK O O (by omega)) ?_)))
    refine Z (dR (bV bf O) O (by first | exact eX.jT (hr _ (H2)) (by omega) | exact eX.rP (hr _ (H2)) (by omega) | exact eX.rO (hr _ (H2)) (by omega))) ?_
    refine bQ O (eG O func142 (lM H2 hT) ?_)
    rintro _ w3 ⟨rfl, H3⟩
    refine gB O (aZ ?_)
    refine fC [(0, _), (2, _), (7, _)] (fun (z : Int) => [(1, .int .i64 z)]) (fun (z : Int) W => ((0 ≤ z ∧ z ≤ l.length) ∧ uJ (fun r => cZ r big == cZ (l.getD (y - 1).toNat 0) big) l z = uJ (fun r => cZ r big == cZ (l.getD (y - 1).toNat 0) big) l y) ∧ V w0 W F) (fun (z : Int) => z.toNat) (y) uF kD ⟨⟨⟨by omega, by omega⟩, O⟩, H3⟩ ?_
    rintro z w4 ⟨⟨⟨hz0, hzl⟩, hz⟩, HM⟩
    dsimp only [List.cons_append, List.nil_append]
    refine aO (bT O (Z (jc O O) (jL O (fun h4 => ?_) (fun h4 => ?_))))
    ·(try simp only [aF] at h4)
     refine bC (bQ O (bC (bQ O (bC (Z (lu O O (by omega)) (bC (Z (dw ay bK O O (by omega)) (bC ?_))))))))
     refine Z (dR (bV bf O) O (by first | exact eX.jT (hr _ (HM)) (by omega) | exact eX.rP (hr _ (HM)) (by omega) | exact eX.rO (hr _ (HM)) (by omega))) ?_
     refine bC (bQ O (bC (eG O func142 (lM HM hT) ?_)))
     rintro _ w5 ⟨rfl, H5⟩
     refine bC (bQ O (bC (Z (dO O O) (jw O O (iV O (fun h5 => ?_) (fun h5 => ?_))))))
     ·(try simp only [aF] at h5)
      have hQ : (cZ (l.getD (z - 1).toNat 0) big == cZ (l.getD (y - 1).toNat 0) big) = true := by rw [beq_iff_eq]; exact h5
      refine fV (aZ (aB (bQ O (Z (lu O O (by omega)) (fU O (bP (aJ ?_)))))))
      refine dH (z - 1) ?_ ?_ ?_ ?_
      ·exact kD
      ·exact uF
      ·(try dsimp only)
       first | done | exact ⟨⟨⟨by omega, by omega⟩, (GK (by omega) hzl hQ).symm.trans hz⟩, H5⟩
      ·(try dsimp only); omega
     ·(try simp only [aF] at h5)
      have hQ : ¬ (cZ (l.getD (z - 1).toNat 0) big == cZ (l.getD (y - 1).toNat 0) big) = true := by rw [beq_iff_eq]; exact h5
      refine dn (aI (aI (aY (aW (bT O (fF O (dG results96 O ?_)))))))
      exact ⟨by unfold zn; rw [e1]; first | (rw [if_neg (by omega)]; done) | (rw [if_pos (by omega), ← hz]; first | rw [tZ (by omega)] | rw [xg (by omega) hzl hQ]), H5⟩
    ·(try simp only [aF] at h4)
     refine bH (bH (bH (bH (bH (bH (bH (bH (bH (iJ O O (iK (pW (dn (aI (aI (aY (aW (bT O (fF O (dG results96 O ?_)))))))))))))))))))
     exact ⟨by unfold zn; rw [e1]; first | (rw [if_neg (by omega)]; done) | (rw [if_pos (by omega), ← hz]; first | rw [tZ (by omega)] | rw [xg (by omega) hzl hQ]), HM⟩
   ·(try simp only [aF] at h3)
    refine fV (bT O (fF O (dG results96 O ?_)))
    exact ⟨by unfold zn; rw [e1]; first | (rw [if_neg (by omega)]; done) | (rw [if_pos (by omega), ← hz]; first | rw [tZ (by omega)] | rw [xg (by omega) hzl hQ]), H2⟩
 ·(try simp only [aF] at h1)
  refine bH (bH (bH (bH (bH (bH (bH (iJ O O (iK (pW (dn (aI (aI (aY (aW (aO (aO ?_))))))))))))))))
  have e1 : uJ (fun r => eU r == 0) l x = y := hy.symm.trans (by first | exact tZ (by omega) | exact xg (by omega) hyl hP)
  refine aB (bQ O (Z (jc O O) (iV O (fun h6 => ?_) (fun h6 => ?_))))
  ·(try simp only [aF] at h6)
   refine bT O (bQ O (Z (lu O O (by omega)) ?_))
   obtain ⟨bv, ov, cv, ev⟩ := eX.nX (hr _ (HL)) (by omega)
   cases ev
   refine Z (dw ay bK O O (by omega)) ?_
   refine Z (dR (bV bf O) O (by first | exact eX.jT (hr _ (HL)) (by omega) | exact eX.rP (hr _ (HL)) (by omega) | exact eX.rO (hr _ (HL)) (by omega))) ?_
   refine bQ O (eG O func142 (lM HL hT) ?_)
   rintro _ w6 ⟨rfl, H6⟩
   refine gB O (aZ ?_)
   refine fC [(0, _), (2, _), (7, _)] (fun (z : Int) => [(1, .int .i64 z)]) (fun (z : Int) W => ((0 ≤ z ∧ z ≤ l.length) ∧ uJ (fun r => cZ r big == cZ (l.getD (y - 1).toNat 0) big) l z = uJ (fun r => cZ r big == cZ (l.getD (y - 1).toNat 0) big) l y) ∧ V w0 W F) (fun (z : Int) => z.toNat) (y) uF kD ⟨⟨⟨by omega, by omega⟩, O⟩, H6⟩ ?_
   rintro z w7 ⟨⟨⟨hz0, hzl⟩, hz⟩, HM⟩
   dsimp only [List.cons_append, List.nil_append]
   refine aO (bT O (Z (jc O O) (jL O (fun h7 => ?_) (fun h7 => ?_))))
   ·(try simp only [aF] at h7)
    refine bC (bQ O (bC (bQ O (bC (Z (lu O O (by omega)) (bC (Z (dw ay bK O O (by omega)) (bC ?_))))))))
    refine Z (dR (bV bf O) O (by first | exact eX.jT (hr _ (HM)) (by omega) | exact eX.rP (hr _ (HM)) (by omega) | exact eX.rO (hr _ (HM)) (by omega))) ?_
    refine bC (bQ O (bC (eG O func142 (lM HM hT) ?_)))
    rintro _ w8 ⟨rfl, H8⟩
    refine bC (bQ O (bC (Z (dO O O) (jw O O (iV O (fun h8 => ?_) (fun h8 => ?_))))))
    ·(try simp only [aF] at h8)
     have hQ : (cZ (l.getD (z - 1).toNat 0) big == cZ (l.getD (y - 1).toNat 0) big) = true := by rw [beq_iff_eq]; exact h8
     refine fV (aZ (aB (bQ O (Z (lu O O (by omega)) (fU O (bP (aJ ?_)))))))
     refine dH (z - 1) ?_ ?_ ?_ ?_
     ·exact kD
     ·exact uF
     ·(try dsimp only)
      first | done | exact ⟨⟨⟨by omega, by omega⟩, (GK (by omega) hzl hQ).symm.trans hz⟩, H8⟩
     ·(try dsimp only); omega
    ·(try simp only [aF] at h8)
     have hQ : ¬ (cZ (l.getD (z - 1).toNat 0) big == cZ (l.getD (y - 1).toNat 0) big) = true := by rw [beq_iff_eq]; exact h8
     refine dn (aI (aI (aY (aW (bT O (fF O (dG results96 O ?_)))))))
     exact ⟨by unfold zn; rw [e1]; first | (rw [if_neg (by omega)]; done) | (rw [if_pos (by omega), ← hz]; first | rw [tZ (by omega)] | rw [xg (by omega) hzl hQ]), H8⟩
   ·(try simp only [aF] at h7)
    refine bH (bH (bH (bH (bH (bH (bH (bH (bH (iJ O O (iK (pW (dn (aI (aI (aY (aW (bT O (fF O (dG results96 O ?_)))))))))))))))))))
    exact ⟨by unfold zn; rw [e1]; first | (rw [if_neg (by omega)]; done) | (rw [if_pos (by omega), ← hz]; first | rw [tZ (by omega)] | rw [xg (by omega) hzl hQ]), HM⟩
  ·(try simp only [aF] at h6)
   refine fV (bT O (fF O (dG results96 O ?_)))
   exact ⟨by unfold zn; rw [e1]; first | (rw [if_neg (by omega)]; done) | (rw [if_pos (by omega), ← hz]; first | rw [tZ (by omega)] | rw [xg (by omega) hzl hQ]), HL⟩
theorem Vs (H : V w0 w F) (hr : jM w0 F .i32 v l) (hT : yK w0) (hx0 : 0 ≤ x) (hx1 : x ≤ l.length) (hl8 : l.length ≤ 4611686018427387904) : gQ prog 97 #[v, .int .i64 x, .bool big] w fun v' w' => v' = .int .i64 (E8 l x big) ∧ V w0 w' F := by
 refine FY func97 ntmps97 ?_
 refine jk O (bT O (Z (fK O O (by omega)) (vZ O (aZ ?_))))
 refine fC [(0, _), (2, _)] (fun (y : Int) => [(1, .int .i64 y)]) (fun (y : Int) W => ((0 ≤ y ∧ y ≤ l.length + 1) ∧ jY (fun r => eU r == 0) l y = jY (fun r => eU r == 0) l (x + 1)) ∧ V w0 W F) (fun (y : Int) => (l.length + 1 - y).toNat) (x + 1) oO kD ⟨⟨⟨by omega, by omega⟩, O⟩, H⟩ ?_
 rintro y w1 ⟨⟨⟨hy0, hyl⟩, hy⟩, HL⟩
 dsimp only [List.cons_append, List.nil_append]
 refine aO (bT O (bQ O (Z (iF (hr _ (HL)) ay O) (Z (gZ O O) (jL O (fun h1 => ?_) (fun h1 => ?_))))))
 ·(try simp only [aF] at h1)
  refine bC (bQ O (bC (bQ O (bC ?_))))
  obtain ⟨bv, ov, cv, ev⟩ := eX.nX (hr _ (HL)) (by omega)
  cases ev
  refine Z (dw ay bK O O (by omega)) (bC ?_)
  refine Z (dR (bV bf O) O (by first | exact eX.jT (hr _ (HL)) (by omega) | exact eX.rP (hr _ (HL)) (by omega) | exact eX.rO (hr _ (HL)) (by omega))) ?_
  refine bC (eG O func14 (oh HL hT) ?_)
  rintro _ w2 ⟨rfl, H2⟩
  refine bC (Z (dO O O) (jw O O (iV O (fun h2 => ?_) (fun h2 => ?_))))
  ·(try simp only [aF] at h2)
   have hP : (eU (l.getD y.toNat 0) == 0) = true := by rw [beq_iff_eq]; exact h2
   refine fV (aZ (aB (bQ O (Z (fK O O (by omega)) (fU O (bP (aJ ?_)))))))
   refine dH (y + 1) ?_ ?_ ?_ ?_
   ·exact kD
   ·exact oO
   ·(try dsimp only)
    first | done | exact ⟨⟨⟨by omega, by omega⟩, (qy hy0 (by omega) hP).symm.trans hy⟩, H2⟩
   ·(try dsimp only); omega
  ·(try simp only [aF] at h2)
   have hP : ¬ (eU (l.getD y.toNat 0) == 0) = true := by rw [beq_iff_eq]; exact h2
   refine dn (aI (aI (aY (aW (aO (aO ?_))))))
   have e1 : jY (fun r => eU r == 0) l (x + 1) = y := hy.symm.trans (by first | exact jr (by omega) | exact kU hy0 (by omega) hP)
   refine aB (jF O O (Z (nM ay O) (Z (lJ O O) (iV O (fun h3 => ?_) (fun h3 => ?_)))))
   ·(try simp only [aF] at h3)
    refine bT O (Z (nM ay O) (Z (lu O O (by omega)) (fF O (aG (dG results97 O ?_)))))
    exact ⟨by unfold E8; rw [e1, if_pos (by omega)], H2⟩
   ·(try simp only [aF] at h3)
    refine fV (bT O (bQ O (Z (dw ay bK O O (by omega)) ?_)))
    refine Z (dR (bV bf O) O (by first | exact eX.jT (hr _ (H2)) (by omega) | exact eX.rP (hr _ (H2)) (by omega) | exact eX.rO (hr _ (H2)) (by omega))) ?_
    refine bQ O (eG O func142 (lM H2 hT) ?_)
    rintro _ w3 ⟨rfl, H3⟩
    refine vZ O (aZ ?_)
    refine fC [(0, _), (2, _), (7, _)] (fun (z : Int) => [(1, .int .i64 z)]) (fun (z : Int) W => ((0 ≤ z ∧ z < l.length) ∧ jY (fun r => cZ r big == cZ (l.getD y.toNat 0) big) l (z + 1) = jY (fun r => cZ r big == cZ (l.getD y.toNat 0) big) l (y + 1)) ∧ V w0 W F) (fun (z : Int) => (l.length - z).toNat) (y) uF kD ⟨⟨⟨by omega, by omega⟩, O⟩, H3⟩ ?_
    rintro z w4 ⟨⟨⟨hz0, hzl⟩, hz⟩, HM⟩
    dsimp only [List.cons_append, List.nil_append]
    refine aO (bT O (Z (fK O O (by omega)) (bQ O (Z (nM ay O) (Z (gZ O O) (jL O (fun h4 => ?_) (fun h4 => ?_)))))))
    ·(try simp only [aF] at h4)
     refine bC (bQ O (bC (bQ O (bC (Z (fK O O (by omega)) (bC (Z (dw ay bK O O (by omega)) (bC ?_))))))))
     refine Z (dR (bV bf O) O (by first | exact eX.jT (hr _ (HM)) (by omega) | exact eX.rP (hr _ (HM)) (by omega) | exact eX.rO (hr _ (HM)) (by omega))) ?_
     refine bC (bQ O (bC (eG O func142 (lM HM hT) ?_)))
     rintro _ w5 ⟨rfl, H5⟩
     refine bC (bQ O (bC (Z (dO O O) (jw O O (iV O (fun h5 => ?_) (fun h5 => ?_))))))
     ·(try simp only [aF] at h5)
      have hQ : (cZ (l.getD (z + 1).toNat 0) big == cZ (l.getD y.toNat 0) big) = true := by rw [beq_iff_eq]; exact h5
      refine fV (aZ (aB (bQ O (Z (fK O O (by omega)) (fU O (bP (aJ ?_)))))))
      refine dH (z + 1) ?_ ?_ ?_ ?_
      ·exact kD
      ·exact uF
      ·(try dsimp only)
       first | done | exact ⟨⟨⟨by omega, by omega⟩, (qy (by omega) (by omega) hQ).symm.trans hz⟩, H5⟩
      ·(try dsimp only); omega
     ·(try simp only [aF] at h5)
      have hQ : ¬ (cZ (l.getD (z + 1).toNat 0) big == cZ (l.getD y.toNat 0) big) = true := by rw [beq_iff_eq]; exact h5
      refine dn (aI (aI (aY (aW (bT O (fF O (dG results97 O ?_)))))))
      exact ⟨by unfold E8; rw [e1, if_neg (by omega), ← hz]; first | (rw [jr (by omega)]; congr 1; omega) | (rw [kU (by omega) (by omega) hQ]; congr 1; omega), H5⟩
    ·(try simp only [aF] at h4)
     refine bH (bH (bH (bH (bH (bH (bH (bH (bH (iJ O O (iK (pW (dn (aI (aI (aY (aW (bT O (fF O (dG results97 O ?_)))))))))))))))))))
     exact ⟨by unfold E8; rw [e1, if_neg (by omega), ← hz]; first | (rw [jr (by omega)]; congr 1; omega) | (rw [kU (by omega) (by omega) hQ]; congr 1; omega), HM⟩
 ·(try simp only [aF] at h1)
  refine bH (bH (bH (bH (bH (bH (iJ O O (iK (pW (dn (aI (aI (aY (aW (aO (aO ?_)))))))))))))))
  have e1 : jY (fun r => eU r == 0) l (x + 1) = y := hy.symm.trans (by first | exact jr (by omega) | exact kU hy0 (by omega) hP)
  refine aB (jF O O (Z (iF (hr _ (HL)) ay O) (Z (lJ O O) (iV O (fun h6 => ?_) (fun h6 => ?_)))))
  ·(try simp only [aF] at h6)
   refine bT O (Z (iF (hr _ (HL)) ay O) (Z (lu O O (by omega)) (fF O (aG (dG results97 O ?_)))))
   exact ⟨by unfold E8; rw [e1, if_pos (by omega)], HL⟩
  ·(try simp only [aF] at h6)
   refine fV (bT O (bQ O ?_))
   obtain ⟨bv, ov, cv, ev⟩ := eX.nX (hr _ (HL)) (by omega)
   cases ev
   refine Z (dw ay bK O O (by omega)) ?_
   refine Z (dR (bV bf O) O (by first | exact eX.jT (hr _ (HL)) (by omega) | exact eX.rP (hr _ (HL)) (by omega) | exact eX.rO (hr _ (HL)) (by omega))) ?_
   refine bQ O (eG O func142 (lM HL hT) ?_)
   rintro _ w6 ⟨rfl, H6⟩
   refine vZ O (aZ ?_)
   refine fC [(0, _), (2, _), (7, _)] (fun (z : Int) => [(1, .int .i64 z)]) (fun (z : Int) W => ((0 ≤ z ∧ z < l.length) ∧ jY (fun r => cZ r big == cZ (l.getD y.toNat 0) big) l (z + 1) = jY (fun r => cZ r big == cZ (l.getD y.toNat 0) big) l (y + 1)) ∧ V w0 W F) (fun (z : Int) => (l.length - z).toNat) (y) uF kD ⟨⟨⟨by omega, by omega⟩, O⟩, H6⟩ ?_
   rintro z w7 ⟨⟨⟨hz0, hzl⟩, hz⟩, HM⟩
   dsimp only [List.cons_append, List.nil_append]
   refine aO (bT O (Z (fK O O (by omega)) (bQ O (Z (nM ay O) (Z (gZ O O) (jL O (fun h7 => ?_) (fun h7 => ?_)))))))
   ·(try simp only [aF] at h7)
    refine bC (bQ O (bC (bQ O (bC (Z (fK O O (by omega)) (bC (Z (dw ay bK O O (by omega)) (bC ?_))))))))
    refine Z (dR (bV bf O) O (by first | exact eX.jT (hr _ (HM)) (by omega) | exact eX.rP (hr _ (HM)) (by omega) | exact eX.rO (hr _ (HM)) (by omega))) ?_
    refine bC (bQ O (bC (eG O func142 (lM HM hT) ?_)))
    rintro _ w8 ⟨rfl, H8⟩
    refine bC (bQ O (bC (Z (dO O O) (jw O O (iV O (fun h8 => ?_) (fun h8 => ?_))))))
    ·(try simp only [aF] at h8)
     have hQ : (cZ (l.getD (z + 1).toNat 0) big == cZ (l.getD y.toNat 0) big) = true := by rw [beq_iff_eq]; exact h8
     refine fV (aZ (aB (bQ O (Z (fK O O (by omega)) (fU O (bP (aJ ?_)))))))
     refine dH (z + 1) ?_ ?_ ?_ ?_
     ·exact kD
     ·exact uF
     ·(try dsimp only)
      first | done | exact ⟨⟨⟨by omega, by omega⟩, (qy (by omega) (by omega) hQ).symm.trans hz⟩, H8⟩
     ·(try dsimp only); omega
    ·(try simp only [aF] at h8)
     have hQ : ¬ (cZ (l.getD (z + 1).toNat 0) big == cZ (l.getD y.toNat 0) big) = true := by rw [beq_iff_eq]; exact h8
     refine dn (aI (aI (aY (aW (bT O (fF O (dG results97 O ?_)))))))
     exact ⟨by unfold E8; rw [e1, if_neg (by omega), ← hz]; first | (rw [jr (by omega)]; congr 1; omega) | (rw [kU (by omega) (by omega) hQ]; congr 1; omega), H8⟩
   ·(try simp only [aF] at h7)
    refine bH (bH (bH (bH (bH (bH (bH (bH (bH (iJ O O (iK (pW (dn (aI (aI (aY (aW (bT O (fF O (dG results97 O ?_)))))))))))))))))))
    exact ⟨by unfold E8; rw [e1, if_neg (by omega), ← hz]; first | (rw [jr (by omega)]; congr 1; omega) | (rw [kU (by omega) (by omega) hQ]; congr 1; omega), HM⟩
end
end Go.Proofs.YtpdeedplgmbopaaGreatDoor
end
section
namespace Go.Proofs.YtpdeedplgmbopaaGreatDoor
open Go.RowKit
def GN (f : Int → Int → Option Int) : Int → List Int → Option Int
  | _, [] => none
  | s, x :: l => match f s x with
    | none => some 0
    | some t => (GN f t l).map (· + 1)
def uT (st : Int) (f : Int → Int → Option Int) (l : List Int) (s i : Int) : Option Int :=
  if 0 ≤ i ∧ i < l.length then (if st = 1 then (GN f s (l.drop i.toNat)).map (i + ·) else (GN f s (l.take (i.toNat + 1)).reverse).map (i - ·)) else none
section
variable {st s t i : Int} {f : Int → Int → Option Int} {l : List Int}
theorem AL (h : ¬ (0 ≤ i ∧ i < l.length)) : uT st f l s i = none := if_neg h
theorem JC (h0 : 0 ≤ i) (h1 : i < l.length) : (l.take (i.toNat + 1)).reverse = l.getD i.toNat 0 :: (l.take i.toNat).reverse := by
  rw [List.take_succ_eq_append_getElem (by omega), List.reverse_append, List.getD_eq_getElem?_getD, List.getElem?_eq_getElem (by omega)]
  rfl
theorem Q8 (h0 : 0 ≤ i) (h1 : i < l.length) : l.drop i.toNat = l.getD i.toNat 0 :: l.drop (i.toNat + 1) := by
  rw [List.drop_eq_getElem_cons (by omega), List.getD_eq_getElem?_getD, List.getElem?_eq_getElem (by omega)]
  rfl
theorem AO (h0 : 0 ≤ i) (h1 : i < l.length) (hf : f s (l.getD i.toNat 0) = none) : uT st f l s i = some i := by
  unfold uT
  rw [if_pos ⟨h0, h1⟩, Q8 h0 h1, JC h0 h1, GN, GN, hf]
  split <;> simp
theorem GR (hst : st = 1 ∨ st = -1) (h0 : 0 ≤ i) (h1 : i < l.length) (hf : f s (l.getD i.toNat 0) = some t) : uT st f l s i = uT st f l t (i + st) := by
  unfold uT
  rw [if_pos ⟨h0, h1⟩, Q8 h0 h1, JC h0 h1, GN, GN, hf]
  dsimp only
  rcases hst with rfl | rfl
  · rw [if_pos rfl, if_pos rfl]
    by_cases h2 : i + 1 < l.length
    · rw [if_pos ⟨by omega, h2⟩, show (i + 1).toNat = i.toNat + 1 from by omega, Option.map_map]
      congr 1
      funext x
      simp; omega
    · rw [if_neg (by omega), List.drop_of_length_le (by omega)]
      rfl
  · rw [if_neg (show ¬ ((-1 : Int) = 1) by decide), if_neg (show ¬ ((-1 : Int) = 1) by decide)]
    by_cases h2 : 0 < i
    · rw [if_pos ⟨by omega, by omega⟩, show (i + -1).toNat + 1 = i.toNat from by omega, Option.map_map]
      congr 1
      funext x
      simp; omega
    · rw [if_neg (by omega), show i.toNat = 0 from by omega]
      rfl
end
def Bq (c : Int) (n x : Int) : Option Int := if x = c then (if n ≤ 1 then none else some (n - 1)) else some n
def GU (a b : Int) (d x : Int) : Option Int := if d + (if x = a then 1 else 0) - (if x = b then 1 else 0) = 0 then none else some (d + (if x = a then 1 else 0) - (if x = b then 1 else 0))
def yD (g : Int → Int) : Nat → Int → Int
  | 0, x => x
  | n + 1, x => if g x = x then x else yD g n (g x)
def abO (g : Int → Int) : Nat → Int → Int
  | 0, x => x
  | n + 1, x => abO g n (g x)
section
variable {g : Int → Int}
theorem GV {n : Nat} {x : Int} (h : g x = x) : yD g n x = x := by cases n with
  | zero => rfl
  | succ n => rw [yD, if_pos h]
theorem PO {n : Nat} {x : Int} (hn : 0 < n) (h : ¬ g x = x) : yD g n x = yD g (n - 1) (g x) := by
  obtain ⟨m, rfl⟩ : ∃ m, n = m + 1 := ⟨n - 1, by omega⟩
  rw [yD, if_neg h]; rfl
end
section
variable {l : List Int} {x : Int} {big : Bool}
theorem Vt (l : List Int) {x : Int} (big : Bool) (h0 : 0 ≤ x) (h1 : x ≤ l.length) : x ≤ xk l x big ∧ xk l x big ≤ l.length := by
  unfold xk
  by_cases h2 : x < l.length
  · rw [if_pos h2]
    by_cases h3 : cZ (l.getD x.toNat 0) big = 0
    · rw [if_pos h3]; exact qJ h0 h1
    · rw [if_neg h3]
      have h4 := qJ (P := fun r => cZ r big == cZ (l.getD x.toNat 0) big) h0 h1
      have h5 := qJ (P := fun r => eU r == 0) (l := l) (x := jY (fun r => cZ r big == cZ (l.getD x.toNat 0) big) l x) (by omega) h4.2
      omega
  · rw [if_neg h2]; exact qJ h0 h1
theorem Vu (l : List Int) {x : Int} (big : Bool) (h0 : 0 ≤ x) (h1 : x ≤ l.length) : 0 ≤ zn l x big ∧ zn l x big ≤ x := by
  unfold zn
  have h2 := GL (P := fun r => eU r == 0) h0 h1
  split
  · have h3 := GL (P := fun r => cZ r big == cZ (l.getD (uJ (fun r => eU r == 0) l x - 1).toNat 0) big) (l := l) (x := uJ (fun r => eU r == 0) l x) h2.1 (by omega)
    omega
  · exact h2
theorem X3 (l : List Int) {x : Int} (big : Bool) (h0 : 0 ≤ x) (h1 : x < l.length) : x ≤ E8 l x big ∧ E8 l x big < l.length := by
  unfold E8
  by_cases h9 : (l.length : Int) ≤ x + 1
  · rw [jr h9, if_pos h9]; omega
  · have h2 := qJ (P := fun r => eU r == 0) (l := l) (x := x + 1) (by omega) (by omega)
    split
    · omega
    · have h3 := qJ (P := fun r => cZ r big == cZ (l.getD (jY (fun r => eU r == 0) l (x + 1)).toNat 0) big) (l := l) (x := jY (fun r => eU r == 0) l (x + 1) + 1) (by omega) (by omega)
      omega
end
def pX (key : Int) : Int := if key = 70 ∨ key = 84 then -1 else 1
def Ef (l : List Int) (x key c n : Int) : Int × Bool × Bool := match uT (pX key) (Bq c) l n (x + pX key) with
  | none => (0, false, false)
  | some i => (if key = 116 ∨ key = 84 then i - pX key else i, decide (0 < pX key), true)
def vk (r : Int) : Bool := r == 40 || r == 91 || r == 123 || r == 41 || r == 93 || r == 125
def Dn (r : Int) : Int := if r = 40 ∨ r = 91 ∨ r = 123 then 1 else -1
def Eh (r : Int) : Int := if r = 40 then 41 else if r = 41 then 40 else if r = 91 then 93 else if r = 93 then 91 else if r = 123 then 125 else 123
def wE (l : List Int) (x : Int) : Int × Bool × Bool :=
  if (l.length : Int) ≤ jY (fun r => !vk r) l x then (0, false, false) else
  match uT (Dn (l.getD (jY (fun r => !vk r) l x).toNat 0)) (GU (l.getD (jY (fun r => !vk r) l x).toNat 0) (Eh (l.getD (jY (fun r => !vk r) l x).toNat 0))) l 0 (jY (fun r => !vk r) l x) with
  | none => (0, false, false)
  | some j => (j, true, true)
def wF (l : List Int) (x key n : Int) : Int × Bool × Bool :=
  if key = 119 ∨ key = 87 then (if x < l.length then (yD (fun y => xk l y (key == 87)) n.toNat x, false, true) else (0, false, false))
  else if key = 98 ∨ key = 66 then (if 0 < x then (yD (fun y => zn l y (key == 66)) n.toNat x, false, true) else (0, false, false))
  else if key = 101 ∨ key = 69 then (if x < l.length - 1 then (yD (fun y => E8 l y (key == 69)) n.toNat x, true, true) else (0, false, false))
  else (0, false, false)
def kV (l : List Int) (x key c n : Int) : Int × Bool × Bool :=
  if key = 104 then (if x = 0 then (0, false, false) else (x - min n x, false, true))
  else if key = 108 ∨ key = 32 then (if x = l.length then (0, false, false) else (x + min n (l.length - x), false, true))
  else if key = 48 then (0, false, true)
  else if key = 36 then (l.length, false, true)
  else if key = 94 then (jY (fun r => eU r == 0) l 0, false, true)
  else if key = 124 then (min (n - 1) l.length, false, true)
  else if key = 102 ∨ key = 70 ∨ key = 116 ∨ key = 84 then Ef l x key c n
  else if key = 37 then wE l x
  else wF l x key n
def vw (l : List Int) (x key c n : Int) : Int × Bool × Bool := kV l (min (max x 0) l.length) key c (max n 1)
def SX (q : Int × Bool × Bool) : Value := .tuple #[.int .i64 q.1, .bool q.2.1, .bool q.2.2]
section
variable {P : Program} {L : List (Nat × Value)} {w : World} {ty t t' : TypeId} {x y : Operand} {k k2 : IntKind} {m n : Int}
theorem X5 (o : BinOp) (hx : ev L x = some (.int k m)) (hy : ev L y = some (.int k n)) (ho : o = .and ∨ o = .or ∨ o = .xor ∨ o = .andNot) : Val P L (.binOp o t x y t') ty w (.int k (bits o k m n)) w :=
  ZG o hx hy ho (by rcases ho with rfl | rfl | rfl | rfl <;> rfl)
theorem AP {n : Int} (h : -2147483648 ≤ n ∧ n < 2147483648) : IntKind.i32.wrap n = n := by rw [IntKind.wrap_i32]; omega
theorem FC {n : Int} (h : -9223372036854775808 ≤ n ∧ n < 9223372036854775808) : IntKind.i64.wrap n = n := by rw [IntKind.wrap_i64]; omega
theorem JD {src dst : TypeId} (hx : ev L x = some (.int k m)) (hs : (P.underlying src).isSome = true) (hd : P.underlying dst = some (.int .u8)) : Val P L (.convert src dst x) ty w (.int .u8 (m % 256)) w := fun ρ hρ _ _ _ _ => by
  obtain ⟨ds, hs'⟩ := Option.isSome_iff_exists.1 hs
  simp only [execOp, hρ _ _ hx]
  simp [convert, run_underlying hs', run_underlying hd, Conv.intToInt, IntKind.wrap_u8]
end
end Go.Proofs.YtpdeedplgmbopaaGreatDoor
end
section
namespace Go.Proofs.YtpdeedplgmbopaaGreatDoor
open Go.RowKit
open _root_.Go.Proofs.Tryz
def Vw (k : Int) : Bool := decide (48 ≤ k) && decide (k ≤ 57)
def pU (l : List Int) : List Int := if l.getD 0 0 = 48 then [] else l.takeWhile Vw
def Dp (n k : Int) : Int := min (n * 10 + (k - 48)) 1000000
def aag (l : List Int) : Int := (pU l).foldl Dp 0
def jV (l : List Int) : List Int := l.drop (pU l).length
theorem abP {p : Int → Bool} {l : List Int} : ∀ {i : Nat}, i ≤ (l.takeWhile p).length → (i < (l.takeWhile p).length ↔ (i < l.length ∧ p (l.getD i 0) = true)) := by
  induction l with
  | nil => intro i h; simp
  | cons x l ih =>
    intro i h
    rw [List.takeWhile_cons] at h ⊢
    by_cases hx : p x = true
    · rw [if_pos hx] at h ⊢
      cases i with
      | zero => simp [hx]
      | succ i =>
        rw [List.length_cons] at h
        have := ih (i := i) (by omega)
        rw [List.length_cons, List.length_cons, List.getD_cons_succ, Nat.add_lt_add_iff_right, Nat.add_lt_add_iff_right]
        exact this
    · rw [if_neg hx] at h ⊢
      have : i = 0 := by simpa using h
      subst this
      simp [hx]
theorem aah {p : Int → Bool} {l : List Int} {i : Nat} (h : i < (l.takeWhile p).length) : (l.takeWhile p).getD i 0 = l.getD i 0 := by
  induction l generalizing i with
  | nil => simp at h
  | cons x l ih =>
    rw [List.takeWhile_cons] at h ⊢
    by_cases hx : p x = true
    · rw [if_pos hx] at h ⊢
      cases i with
      | zero => rfl
      | succ i => rw [List.length_cons] at h; rw [List.getD_cons_succ, List.getD_cons_succ]; exact ih (by omega)
    · rw [if_neg hx] at h; simp at h
section
variable {l : List Int} {i : Nat}
theorem Vx (h : i ≤ (pU l).length) : i < (pU l).length ↔ ((i : Int) < l.length ∧ 48 ≤ l.getD i 0 ∧ l.getD i 0 ≤ 57 ∧ (0 < i ∨ ¬ l.getD i 0 = 48)) := by
  unfold pU at h ⊢
  by_cases h0 : l.getD 0 0 = 48
  · rw [if_pos h0] at h ⊢
    have : i = 0 := by simpa using h
    subst this
    constructor
    · intro h9; simp at h9
    · rintro ⟨_, _, _, h9 | h9⟩
      · omega
      · exact absurd h0 h9
  · rw [if_neg h0] at h ⊢
    rw [abP h]
    unfold Vw
    rw [Bool.and_eq_true, decide_eq_true_iff, decide_eq_true_iff]
    have h1 : 0 < i ∨ ¬ l.getD i 0 = 48 := by
      cases i with
      | zero => exact .inr h0
      | succ i => exact .inl (by omega)
    omega
theorem X6 (h : i < (pU l).length) : (pU l).getD i 0 = l.getD i 0 := by
  unfold pU at h ⊢
  by_cases h0 : l.getD 0 0 = 48
  · rw [if_pos h0] at h; simp at h
  · rw [if_neg h0] at h ⊢; exact aah h
theorem Dq (h : i < (pU l).length) : ((pU l).take (i + 1)).foldl Dp 0 = Dp (((pU l).take i).foldl Dp 0) (l.getD i 0) := by
  rw [List.take_succ_eq_append_getElem h, List.foldl_append, ← X6 h, List.getD_eq_getElem?_getD, List.getElem?_eq_getElem h]
  rfl
theorem vC : ((pU l).take (pU l).length).foldl Dp 0 = aag l := by rw [List.take_length]; rfl
theorem FD {n k : Int} (h : 0 ≤ n ∧ n ≤ 1000000) (hk : 48 ≤ k ∧ k ≤ 57) : 0 ≤ Dp n k ∧ Dp n k ≤ 1000000 := by unfold Dp; omega
theorem Vy : (pU l).length ≤ l.length := by
  unfold pU; split
  · simp
  · exact (List.takeWhile_sublist Vw).length_le
end
section
variable {w0 w : World} {F : HP} {v : Value} {l : List Int}
theorem KU (H : V w0 w F) (hr : jM w0 F .i32 v l) : gQ prog 51 #[v] w fun u w' => ∃ kv, u = .tuple #[kv, .int .i64 (aag l)] ∧ jM w0 F .i32 kv (jV l) ∧ V w0 w' F := by
 have Ug : l.length ≤ 9223372036854775807 := by have := (hr _ H).open; obtain ⟨a, c, e, h3, h4, _⟩ := this; omega
 have hcl := Vy (l := l)
 refine iC func51 ntmps51 ?_
 refine iy (fU O (gB O (iy (fU O (vZ O (aZ ?_))))))
 refine fC [(0, _)] (fun (⟨i, n⟩ : Nat × Int) => [(4, .int .i64 n), (5, .int .i64 (i : Int))]) (fun (⟨i, n⟩ : Nat × Int) W => (i ≤ (pU l).length ∧ (0 ≤ n ∧ n ≤ 1000000) ∧ n = ((pU l).take i).foldl Dp 0) ∧ V w0 W F) (fun (⟨i, n⟩ : Nat × Int) => (pU l).length - i) ((0, 0)) kD oO ⟨⟨by omega, by omega, O⟩, H⟩ ?_
 rintro ⟨i, n⟩ w1 ⟨⟨hi, hn, hE⟩, HL⟩
 dsimp only [List.cons_append, List.nil_append]
 have hca := Vx (l := l) hi
 refine aO (bT O (bQ O (Z (iF (hr _ (HL)) ay O) (Z (gZ O O) (jL O (fun h1 => ?_) (fun h1 => ?_))))))
 ·(try simp only [aF] at h1)
  refine bC (bQ O (bC (bQ O (bC ?_))))
  obtain ⟨bv, ov, cv, ev⟩ := eX.nX (hr _ (HL)) (by omega)
  cases ev
  refine Z (dw ay bK O O (by omega)) (bC ?_)
  refine Z (dR (bV bf O) O (by first | exact eX.jT (hr _ (HL)) (by omega) | exact eX.rP (hr _ (HL)) (by omega) | exact eX.rO (hr _ (HL)) (by omega))) ?_
  refine bC (Z (lJ O O) (jw O O (jL O (fun h2 => ?_) (fun h2 => ?_))))
  ·(try simp only [aF] at h2)
   refine bC (bQ O (bC (bQ O (bC (Z (dw ay bK O O (by omega)) (bC ?_))))))
   refine Z (dR (bV bf O) O (by first | exact eX.jT (hr _ (HL)) (by omega) | exact eX.rP (hr _ (HL)) (by omega) | exact eX.rO (hr _ (HL)) (by omega))) ?_
   refine bC (Z (oP O O) (jw O O (jL O (fun h3 => ?_) (fun h3 => ?_))))
   ·(try simp only [aF] at h3)
    refine bC (bQ O (bC (Z (jc O O) (bC (jL O (fun h4 => ?_) (fun h4 => ?_))))))
    ·(try simp only [aF] at h4)
     refine bH (bH (bH (bH (bH (bC (jw O O (jw O O (iK (Iz (fV (aZ (aO ?_))))))))))))
     have hlt : i < (pU l).length := by omega
     refine aB (bQ O (Z (QD O O (by omega)) (jF O O (Z (dw ay bK O O (by omega)) ?_))))
     refine Z (dR (bV bf O) O (by first | exact eX.jT (hr _ (HL)) (by omega) | exact eX.rP (hr _ (HL)) (by omega) | exact eX.rO (hr _ (HL)) (by omega))) ?_
     refine Z (DY (J4 O O) (congrArg (Value.int .i32) (AP (by omega)))) ?_
     refine Z (rX O (by rw [underlying21]; rfl) aN (FC (by omega))) ?_
     refine Z (fK O O (by omega)) (Z (zC O O) (gB O (aB (bQ O (Z (fK O O (by omega)) (fU O (bP (aJ ?_))))))))
     refine dH ((i + 1, Dp n (l.getD i 0))) ?_ ?_ ?_ ?_
     ·exact oO
     ·exact kD
     ·(try dsimp only)
      first | done | exact ⟨⟨by omega, FD hn (by omega), by rw [Dq hlt, ← hE]⟩, HL⟩
     ·(try dsimp only); omega
    ·(try simp only [aF] at h4)
     refine bC (bQ O (bC (bQ O (bC (Z (dw ay bK O O (by omega)) (bC ?_))))))
     refine Z (dR (bV bf O) O (by first | exact eX.jT (hr _ (HL)) (by omega) | exact eX.rP (hr _ (HL)) (by omega) | exact eX.rO (hr _ (HL)) (by omega))) ?_
     refine bC (Z (iZ O O) (bC (iJ O O (jw O O (iV O (fun h5 => ?_) (fun h5 => ?_))))))
     ·(try simp only [aF] at h5)
      refine fV (aZ (aO ?_))
      have hlt : i < (pU l).length := by omega
      refine aB (bQ O (Z (QD O O (by omega)) (jF O O (Z (dw ay bK O O (by omega)) ?_))))
      refine Z (dR (bV bf O) O (by first | exact eX.jT (hr _ (HL)) (by omega) | exact eX.rP (hr _ (HL)) (by omega) | exact eX.rO (hr _ (HL)) (by omega))) ?_
      refine Z (DY (J4 O O) (congrArg (Value.int .i32) (AP (by omega)))) ?_
      refine Z (rX O (by rw [underlying21]; rfl) aN (FC (by omega))) ?_
      refine Z (fK O O (by omega)) (Z (zC O O) (gB O (aB (bQ O (Z (fK O O (by omega)) (fU O (bP (aJ ?_))))))))
      refine dH ((i + 1, Dp n (l.getD i 0))) ?_ ?_ ?_ ?_
      ·exact oO
      ·exact kD
      ·(try dsimp only)
       first | done | exact ⟨⟨by omega, FD hn (by omega), by rw [Dq hlt, ← hE]⟩, HL⟩
      ·(try dsimp only); omega
     ·(try simp only [aF] at h5)
      refine dn (aI (aI (aY (aW (aO ?_)))))
      have hlt : i = (pU l).length := by omega
      refine aB (jF O O (Z (oQ (hr _ (HL)) ay bK O O O (by omega)) ?_))
      refine bQ O (fU O (fF O (FX results51 O O ?_)))
      exact ⟨_, by rw [hE, hlt, vC], fun W HW => by unfold jV; rw [← hlt]; exact (hr W HW).from (by omega), HL⟩
   ·(try simp only [aF] at h3)
    refine bH (bH (bH (kS (kS (kS (kS (kS (bH (iJ O O (iK (pW (dn (aI (aI (aY (aW (aO ?_)))))))))))))))))
    have hlt : i = (pU l).length := by omega
    refine aB (jF O O (Z (oQ (hr _ (HL)) ay bK O O O (by omega)) ?_))
    refine bQ O (fU O (fF O (FX results51 O O ?_)))
    exact ⟨_, by rw [hE, hlt, vC], fun W HW => by unfold jV; rw [← hlt]; exact (hr W HW).from (by omega), HL⟩
  ·(try simp only [aF] at h2)
   refine bH (bH (bH (bH (bH (iJ O O (bQ O (bH (bH (bH (kS (kS (kS (kS (kS (bH (iJ O O (iK (pW (dn (aI (aI (aY (aW (aO ?_))))))))))))))))))))))))
   have hlt : i = (pU l).length := by omega
   refine aB (jF O O (Z (oQ (hr _ (HL)) ay bK O O O (by omega)) ?_))
   refine bQ O (fU O (fF O (FX results51 O O ?_)))
   exact ⟨_, by rw [hE, hlt, vC], fun W HW => by unfold jV; rw [← hlt]; exact (hr W HW).from (by omega), HL⟩
 ·(try simp only [aF] at h1)
  refine bH (bH (bH (bH (bH (iJ O O (bQ O (bH (bH (bH (bH (bH (iJ O O (bQ O (bH (bH (bH (kS (kS (kS (kS (kS (bH (iJ O O (iK (pW (dn (aI (aI (aY (aW (aO ?_)))))))))))))))))))))))))))))))
  have hlt : i = (pU l).length := by omega
  refine aB (jF O O (Z (oQ (hr _ (HL)) ay bK O O O (by omega)) ?_))
  refine bQ O (fU O (fF O (FX results51 O O ?_)))
  exact ⟨_, by rw [hE, hlt, vC], fun W HW => by unfold jV; rw [← hlt]; exact (hr W HW).from (by omega), HL⟩
theorem SY (H : V w0 w F) (hr : jM w0 F .i32 v l) (hl : 1 ≤ l.length) : gQ prog 54 #[v] w fun u w' => ∃ kv, u = .tuple #[kv, .int .i64 (aag (l.drop 1))] ∧ jM w0 F .i32 kv (jV (l.drop 1)) ∧ V w0 w' F := by
 have Ug : l.length ≤ 9223372036854775807 := by have := (hr _ H).open; obtain ⟨a, c, e, h3, h4, _⟩ := this; omega
 obtain ⟨L, hL⟩ : ∃ L, L = l.drop 1 := ⟨_, rfl⟩
 rw [← hL]
 have hLl : (L.length : Int) = l.length - 1 := by rw [hL, List.length_drop]; omega
 have hg : ∀ i : Nat, l.getD (i + 1) 0 = L.getD i 0 := fun i => by rw [hL, List.getD_eq_getElem?_getD, List.getD_eq_getElem?_getD, List.getElem?_drop]; congr 2; omega
 have hcl := Vy (l := L)
 refine iC func54 ntmps54 ?_
 refine iy (fU O (gB O (jk O (jk O (aO (aZ ?_))))))
 refine fC [(0, _)] (fun (⟨i, n⟩ : Nat × Int) => [(4, .int .i64 n), (5, .int .i64 ((i + 1 : Nat) : Int))]) (fun (⟨i, n⟩ : Nat × Int) W => (i ≤ (pU L).length ∧ (0 ≤ n ∧ n ≤ 1000000) ∧ n = ((pU L).take i).foldl Dp 0) ∧ V w0 W F) (fun (⟨i, n⟩ : Nat × Int) => (pU L).length - i) ((0, 0)) kD oO ⟨⟨by omega, by omega, O⟩, H⟩ ?_
 rintro ⟨i, n⟩ w1 ⟨⟨hi, hn, hE⟩, HL⟩
 dsimp only [List.cons_append, List.nil_append]
 have hca := Vx (l := L) hi
 rw [← hg] at hca
 refine aO (bT O (bQ O (Z (iF (hr _ (HL)) ay O) (Z (gZ O O) (jL O (fun h1 => ?_) (fun h1 => ?_))))))
 ·(try simp only [aF] at h1)
  refine bC (bQ O (bC (bQ O (bC ?_))))
  obtain ⟨bv, ov, cv, ev⟩ := eX.nX (hr _ (HL)) (by omega)
  cases ev
  refine Z (dw ay bK O O (by omega)) (bC ?_)
  refine Z (dR (bV bf O) O (by first | exact eX.jT (hr _ (HL)) (by omega) | exact eX.rP (hr _ (HL)) (by omega) | exact eX.rO (hr _ (HL)) (by omega))) ?_
  refine bC (Z (lJ O O) (jw O O (jL O (fun h2 => ?_) (fun h2 => ?_))))
  ·(try simp only [aF] at h2)
   refine bC (bQ O (bC (bQ O (bC (Z (dw ay bK O O (by omega)) (bC ?_))))))
   refine Z (dR (bV bf O) O (by first | exact eX.jT (hr _ (HL)) (by omega) | exact eX.rP (hr _ (HL)) (by omega) | exact eX.rO (hr _ (HL)) (by omega))) ?_
   refine bC (Z (oP O O) (jw O O (jL O (fun h3 => ?_) (fun h3 => ?_))))
   ·(try simp only [aF] at h3)
    refine bC (bQ O (bC (Z (dO O O) (bC (jL O (fun h4 => ?_) (fun h4 => ?_))))))
    ·(try simp only [aF] at h4)
     refine bC (bQ O (bC (bQ O (bC (Z (dw ay bK O O (by omega)) (bC ?_))))))
     refine Z (dR (bV bf O) O (by first | exact eX.jT (hr _ (HL)) (by omega) | exact eX.rP (hr _ (HL)) (by omega) | exact eX.rO (hr _ (HL)) (by omega))) ?_
     refine bC (Z (dO O O) (bC (jw O O (bC (Z (lS O) (jw O O (iV O (fun h5 => ?_) (fun h5 => ?_))))))))
     ·(try simp only [aF] at h5)
      refine fV (aZ (aO ?_))
      have hlt : i < (pU L).length := by omega
      refine aB (bQ O (Z (QD O O (by omega)) (jF O O (Z (dw ay bK O O (by omega)) ?_))))
      refine Z (dR (bV bf O) O (by first | exact eX.jT (hr _ (HL)) (by omega) | exact eX.rP (hr _ (HL)) (by omega) | exact eX.rO (hr _ (HL)) (by omega))) ?_
      refine Z (DY (J4 O O) (congrArg (Value.int .i32) (AP (by omega)))) ?_
      refine Z (rX O (by rw [underlying21]; rfl) aN (FC (by omega))) ?_
      refine Z (fK O O (by omega)) (Z (zC O O) (gB O (aB (bQ O (Z (fK O O (by omega)) (fU O (bP (aJ ?_))))))))
      refine dH ((i + 1, Dp n (l.getD (i + 1) 0))) ?_ ?_ ?_ ?_
      ·exact oO
      ·exact kD
      ·(try dsimp only)
       first | done | exact ⟨⟨by omega, FD hn (by omega), by rw [hg, Dq hlt, ← hE]⟩, HL⟩
      ·(try dsimp only); omega
     ·(try simp only [aF] at h5)
      refine dn (aI (aI (aY (aW (aO ?_)))))
      have hlt : i = (pU L).length := by first | omega | contradiction
      refine aB (jF O O (Z (oQ (hr _ (HL)) ay bK O O O (by omega)) ?_))
      refine bQ O (fU O (fF O (FX results54 O O ?_)))
      exact ⟨_, by rw [hE, hlt, vC], fun W HW => by unfold jV; rw [← hlt, hL, List.drop_drop, Nat.add_comm]; exact (hr W HW).from (by omega), HL⟩
    ·(try simp only [aF] at h4)
     refine bH (bH (bH (bH (bH (bC (iJ O O (bC (Z (lS O) (jw O O (iV O (fun h6 => ?_) (fun h6 => ?_)))))))))))
     ·(try simp only [aF] at h6)
      refine fV (aZ (aO ?_))
      have hlt : i < (pU L).length := by omega
      refine aB (bQ O (Z (QD O O (by omega)) (jF O O (Z (dw ay bK O O (by omega)) ?_))))
      refine Z (dR (bV bf O) O (by first | exact eX.jT (hr _ (HL)) (by omega) | exact eX.rP (hr _ (HL)) (by omega) | exact eX.rO (hr _ (HL)) (by omega))) ?_
      refine Z (DY (J4 O O) (congrArg (Value.int .i32) (AP (by omega)))) ?_
      refine Z (rX O (by rw [underlying21]; rfl) aN (FC (by omega))) ?_
      refine Z (fK O O (by omega)) (Z (zC O O) (gB O (aB (bQ O (Z (fK O O (by omega)) (fU O (bP (aJ ?_))))))))
      refine dH ((i + 1, Dp n (l.getD (i + 1) 0))) ?_ ?_ ?_ ?_
      ·exact oO
      ·exact kD
      ·(try dsimp only)
       first | done | exact ⟨⟨by omega, FD hn (by omega), by rw [hg, Dq hlt, ← hE]⟩, HL⟩
      ·(try dsimp only); omega
     ·(try simp only [aF] at h6)
      refine dn (aI (aI (aY (aW (aO ?_)))))
      have hlt : i = (pU L).length := by first | omega | contradiction
      refine aB (jF O O (Z (oQ (hr _ (HL)) ay bK O O O (by omega)) ?_))
      refine bQ O (fU O (fF O (FX results54 O O ?_)))
      exact ⟨_, by rw [hE, hlt, vC], fun W HW => by unfold jV; rw [← hlt, hL, List.drop_drop, Nat.add_comm]; exact (hr W HW).from (by omega), HL⟩
   ·(try simp only [aF] at h3)
    refine bH (bH (bH (kS (kS (kS (kS (kS (bH (bH (iJ O O (iK (pW (dn (aI (aI (aY (aW (aO ?_))))))))))))))))))
    have hlt : i = (pU L).length := by first | omega | contradiction
    refine aB (jF O O (Z (oQ (hr _ (HL)) ay bK O O O (by omega)) ?_))
    refine bQ O (fU O (fF O (FX results54 O O ?_)))
    exact ⟨_, by rw [hE, hlt, vC], fun W HW => by unfold jV; rw [← hlt, hL, List.drop_drop, Nat.add_comm]; exact (hr W HW).from (by omega), HL⟩
  ·(try simp only [aF] at h2)
   refine bH (bH (bH (bH (bH (iJ O O (bQ O (bH (bH (bH (kS (kS (kS (kS (kS (bH (bH (iJ O O (iK (pW (dn (aI (aI (aY (aW (aO ?_)))))))))))))))))))))))))
   have hlt : i = (pU L).length := by first | omega | contradiction
   refine aB (jF O O (Z (oQ (hr _ (HL)) ay bK O O O (by omega)) ?_))
   refine bQ O (fU O (fF O (FX results54 O O ?_)))
   exact ⟨_, by rw [hE, hlt, vC], fun W HW => by unfold jV; rw [← hlt, hL, List.drop_drop, Nat.add_comm]; exact (hr W HW).from (by omega), HL⟩
 ·(try simp only [aF] at h1)
  refine bH (bH (bH (bH (bH (iJ O O (bQ O (bH (bH (bH (bH (bH (iJ O O (bQ O (bH (bH (bH (kS (kS (kS (kS (kS (bH (bH (iJ O O (iK (pW (dn (aI (aI (aY (aW (aO ?_))))))))))))))))))))))))))))))))
  have hlt : i = (pU L).length := by first | omega | contradiction
  refine aB (jF O O (Z (oQ (hr _ (HL)) ay bK O O O (by omega)) ?_))
  refine bQ O (fU O (fF O (FX results54 O O ?_)))
  exact ⟨_, by rw [hE, hlt, vC], fun W HW => by unfold jV; rw [← hlt, hL, List.drop_drop, Nat.add_comm]; exact (hr W HW).from (by omega), HL⟩
end
end Go.Proofs.YtpdeedplgmbopaaGreatDoor
end
section
namespace Go.Proofs.YtpdeedplgmbopaaGreatDoor
open Go.RowKit Go.Lib
section
variable {P : Program} {N : Sh} {Q : Exit → Act → World → Prop} {L : List (Nat × Value)} {w : World}
end
def sb (s : ByteArray) (i : Nat) : Int := ((s.data.toList.getD i 0).toNat : Nat)
theorem aai {s : ByteArray} {i : Nat} (h : i < s.size) : ((s[i]'h).toNat : Int) = sb s i := by
  unfold sb
  rw [List.getD_eq_getElem?_getD, List.getElem?_eq_getElem (by rw [Array.length_toList]; exact h)]
  rfl
section
variable {P : Program} {L : List (Nat × Value)} {w w0 : World} {ty : TypeId} {x y : Operand} {F : HP}
theorem EL {t : TypeId} {s : ByteArray} {k : IntKind} {i : Int} (ht : P.underlying t = some .string) (hx : ev L x = some (.string s)) (hy : ev L y = some (.int k i)) (h : 0 ≤ i ∧ i < s.size) :
    Val P L (.index t x y) ty w (.int .u8 (sb s i.toNat)) w := fun ρ hρ _ _ _ _ => by
  simp only [execOp, hρ _ _ hx, hρ _ _ hy, Sem.run_bind]
  rw [run_index_string (w := w) t s k i ht, dif_pos h, aai]
  rfl
theorem abQ {f : FuncId} {args : List Operand} {ts : Array TypeId} {vs : List Value} {fn : Func} {e : Array Value → Sem Value} {v : Value} (ha : DV L args = some vs)
    (hf : P.funcs[f]? = some fn) (hname : (fn.name == "runtime.NumGoroutine") = false) (hb : fn.body.isNone = true) (hn : Extern.findNext fn = none) (he : Extern.find fn = some e) (hr : (e vs.toArray).run P w = .ok v w) :
    Val P L (.call ⟨.value (.func f), args.toArray, ts⟩) ty w v w := fun ρ hρ _ _ _ _ => by
  have hg : ρ (.func f) = .func (.func f) #[] #[] := hρ _ _ rfl
  have hc := run_callFunc_extern hf hname hb hn he vs.toArray w
  rw [hr] at hc
  simp [execOp, resolve, invoke, ZC hρ _ _ ha, hg, Deferred.ofValue]
  exact hc
def aeu (s : ByteArray) (k : Nat) : Value := if k < s.size then .tuple #[.bool true, .int .i64 k, .int .i32 (sb s k)] else .tuple #[.bool false]
end
theorem Zd {s : ByteArray} (hs : ∀ c ∈ s.data.toList, c.toNat < 128) (i : Nat) : 0 ≤ sb s i ∧ sb s i < 128 := by
  unfold sb
  rw [List.getD_eq_getElem?_getD]
  by_cases h : i < s.data.toList.length
  · rw [List.getElem?_eq_getElem h]
    have := hs _ (List.getElem_mem h)
    show 0 ≤ ((s.data.toList[i].toNat : Nat) : Int) ∧ ((s.data.toList[i].toNat : Nat) : Int) < 128
    omega
  · rw [List.getElem?_eq_none (by omega)]; decide
section
variable {w0 w : World} {F : HP} {s : ByteArray} {r c : Int}
theorem IU : gQ Tryz.prog 143 #[.string s, .int .u8 c] w fun v w' => v = .int .i64 (indexByte s.data.toList c.toNat.toUInt8) ∧ w = w' := by
  refine nH Tryz.func143 Tryz.ntmps143 ?_
  refine jk O (bT O (bQ O (Z (abQ O Tryz.func180 O O (by kernel_rfl) (by kernel_rfl) (run_indexByteString _ _ _)) (fF O (dG Tryz.results143 O ?_)))))
  exact ⟨O, O⟩
theorem Dt : gQ Tryz.prog 98 #[.string s, .int .u8 c] w fun v w' => v = .int .i64 (indexByte s.data.toList c.toNat.toUInt8) ∧ w = w' := by
  refine nH Tryz.func98 Tryz.ntmps98 ?_
  refine jk O (bT O (bQ O (eG O Tryz.func143 (IU) ?_)))
  rintro _ _ ⟨rfl, rfl⟩
  refine fF O (dG Tryz.results98 O ?_)
  exact ⟨O, O⟩
def aeR (s : ByteArray) (r : Int) : Int := if 0 ≤ r ∧ r < 128 then indexByte s.data.toList r.toNat.toUInt8 else -1
end
theorem X7 {l : List UInt8} {c : UInt8} : 0 ≤ indexByte l c ↔ c ∈ l := by
  induction l with
  | nil => simp [indexByte]
  | cons b l ih =>
    have h1 := indexByte_ge l c
    unfold indexByte
    by_cases hb : b = c
    · simp [hb]
    · rw [if_neg (by simpa using hb)]
      by_cases h2 : indexByte l c = -1
      · rw [if_pos (by simpa using h2)]
        have : c ∉ l := fun h => by have := ih.2 h; omega
        simp [this, Ne.symm hb]
      · rw [if_neg (by simpa using h2)]
        have : c ∈ l := ih.1 (by omega)
        simp [this]; omega
def wS (s : ByteArray) : List Int := s.data.toList.map fun b => (b.toNat : Int)
def Asc (s : ByteArray) : Prop := ∀ x ∈ s.data.toList, 0 < x.toNat ∧ x.toNat < 128
instance (s : ByteArray) : Decidable (Asc s) := by unfold Asc; infer_instance
theorem xM {s : ByteArray} (hs : Asc s) {r : Int} : (0 < r ∧ r < 128 ∧ 0 ≤ indexByte s.data.toList r.toNat.toUInt8) ↔ r ∈ wS s := by
  rw [X7]
  unfold wS
  rw [List.mem_map]
  constructor
  · rintro ⟨h1, h2, h3⟩
    refine ⟨_, h3, ?_⟩
    rw [show r.toNat.toUInt8.toNat = r.toNat % 256 from by simp [Nat.toUInt8]]
    omega
  · rintro ⟨b, hb, rfl⟩
    have := hs b hb
    refine ⟨by omega, by omega, ?_⟩
    rw [show ((b.toNat : Int)).toNat.toUInt8 = b from by rw [Int.toNat_natCast]; simp [Nat.toUInt8]]
    exact hb
section
variable {w0 w : World} {F : HP} {r : Int} {s : ByteArray}
theorem Du (hs : Asc s) : gQ Tryz.prog 50 #[.int .i32 r, .string s] w fun v w' => v = .bool (decide (r ∈ wS s)) ∧ w = w' := by
  have hi := xM hs (r := r)
  refine nH Tryz.func50 Tryz.ntmps50 ?_
  refine jk O (bT O (Z (jc O O) (jL O (fun h1 => ?_) (fun h1 => ?_))))
  · (try simp only [aF] at h1)
    try (exfalso; first | contradiction | omega)
    all_goals
      refine bC (bQ O (bC (Z (gZ O O) (jw O O (jL O (fun h2 => ?_) (fun h2 => ?_))))))
      · (try simp only [aF] at h2)
        try (exfalso; first | contradiction | omega)
        all_goals
          refine bC (bQ O (bC (bQ O (bC ?_))))
          refine Z (JD O (by rw [Tryz.underlying21]; rfl) Tryz.underlying5) ?_
          refine bC (eG O Tryz.func98 (Dt) ?_)
          rintro _ _ ⟨rfl, rfl⟩
          refine bC (Z (lJ O O) (jw O O (fF O (dG Tryz.results50 O ?_))))
          refine ⟨congrArg Value.bool ?_, O⟩; first | exact (decide_eq_false (fun c => by have := (xM hs).2 c; omega)).symm | (rw [show r % 256 = r from by omega]; exact decide_eq_decide.2 ⟨fun c => (xM hs).1 ⟨by omega, by omega, c⟩, fun c => ((xM hs).2 c).2.2⟩)
      · (try simp only [aF] at h2)
        try (exfalso; first | contradiction | omega)
        all_goals
          refine bH (bH (bH (bH (bH (iJ O O (fF O (dG Tryz.results50 O ?_)))))))
          refine ⟨congrArg Value.bool ?_, O⟩; first | exact (decide_eq_false (fun c => by have := (xM hs).2 c; omega)).symm | (rw [show r % 256 = r from by omega]; exact decide_eq_decide.2 ⟨fun c => (xM hs).1 ⟨by omega, by omega, c⟩, fun c => ((xM hs).2 c).2.2⟩)
  · (try simp only [aF] at h1)
    try (exfalso; first | contradiction | omega)
    all_goals
      refine bH (bH (iJ O O (bQ O (bH (bH (bH (bH (bH (iJ O O (fF O (dG Tryz.results50 O ?_)))))))))))
      refine ⟨congrArg Value.bool ?_, O⟩; first | exact (decide_eq_false (fun c => by have := (xM hs).2 c; omega)).symm | (rw [show r % 256 = r from by omega]; exact decide_eq_decide.2 ⟨fun c => (xM hs).1 ⟨by omega, by omega, c⟩, fun c => ((xM hs).2 c).2.2⟩)
end
end Go.Proofs.YtpdeedplgmbopaaGreatDoor
end
section
namespace Go.Proofs.YtpdeedplgmbopaaGreatDoor
open Go.RowKit
open _root_.Go.Proofs.Tryz
def Bv (st : Int) (n i : Int) : Int := if st = 1 then n - i else i + 1
theorem GX {st n i : Int} (h : st = 1 ∨ st = -1) : Bv st n (i + st) + 1 = Bv st n i := by
  unfold Bv; rcases h with rfl | rfl
  · rw [if_pos rfl, if_pos rfl]; omega
  · rw [if_neg (by decide), if_neg (by decide)]; omega
theorem Ei {st n i : Int} (h : st = 1 ∨ st = -1) (h0 : 0 ≤ i) (h1 : i < n) : 0 < Bv st n i ∧ Bv st n i ≤ n := by
  unfold Bv; rcases h with rfl | rfl
  · rw [if_pos rfl]; omega
  · rw [if_neg (by decide)]; omega
theorem Vz (key : Int) : pX key = 1 ∨ pX key = -1 := by unfold pX; split <;> simp
theorem PS {c m x : Int} (h : ¬ x = c) : Bq c m x = some m := if_neg h
theorem PU {c m x : Int} (h : x = c) (h2 : 0 < m - 1) : Bq c m x = some (m - 1) := by unfold Bq; rw [if_pos h, if_neg (by omega)]
theorem S9 {c m x : Int} (h : x = c) (h2 : m - 1 ≤ 0) : Bq c m x = none := by unfold Bq; rw [if_pos h, if_pos (by omega)]
theorem zX {l : List Int} {x n key c i : Int} (h : uT (pX key) (Bq c) l n (x + pX key) = some i) : Ef l x key c n = (if key = 116 ∨ key = 84 then i - pX key else i, decide (0 < pX key), true) := by unfold Ef; rw [h]
theorem EM {l : List Int} {x n key c : Int} (h : uT (pX key) (Bq c) l n (x + pX key) = none) : Ef l x key c n = (0, false, false) := by unfold Ef; rw [h]
section
variable {w0 w : World} {F : HP} {v : Value} {l : List Int} {x n key c r : Int} {s : ByteArray}
theorem PV (H : V w0 w F) (hr : jM w0 F .i32 v l) (hx : 0 ≤ x ∧ x ≤ l.length) (hn : 1 ≤ n) (hn2 : n ≤ 9223372036854775807) (Ug : l.length ≤ 4611686018427387904) : gQ prog 42 #[v, .int .i64 x, .int .i32 key, .int .i32 c, .int .i64 n] w fun u w' => u = SX (Ef l x key c n) ∧ V w0 w' F := by
 have hst := Vz key
 refine acM func42 ntmps42 ?_
 refine iy (fU O (fU O (gB O (jk O ?_))))
 refine jW [(0, _), (1, _), (2, _), (3, _), (4, _)] (fun (_ : Unit) => [(13, .int .i64 (pX key))]) (fun (_ : Unit) W => V w0 W F) sb5 ?_ ?_
 ·rintro _ w1 HL
  dsimp only [List.cons_append, List.nil_append]
  refine aO (bT O (bQ O (Z (fK O O (by omega)) (gB O (aZ ?_)))))
  refine fC [(0, _), (2, _), (3, _), (13, _)] (fun (⟨i, m⟩ : Int × Int) => [(4, .int .i64 m), (14, .int .i64 i)]) (fun (⟨i, m⟩ : Int × Int) W => ((-1 ≤ i ∧ i ≤ l.length + 1) ∧ (1 ≤ m ∧ m ≤ n) ∧ uT (pX key) (Bq c) l n (x + pX key) = uT (pX key) (Bq c) l m i) ∧ V w0 W F) (fun (⟨i, m⟩ : Int × Int) => (Bv (pX key) l.length i).toNat) ((x + pX key, n)) Kq oO ⟨⟨by omega, by omega, O⟩, HL⟩ ?_
  rintro ⟨i, m⟩ w2 ⟨⟨hi, hm, hE⟩, HL⟩
  dsimp only [List.cons_append, List.nil_append]
  have hms := GX (n := l.length) (i := i) hst
  have hmp := fun h0 h1 => Ei (n := l.length) (i := i) hst h0 h1
  refine aO (bT O (Z (lJ O O) (jL O (fun h1 => ?_) (fun h1 => ?_))))
  ·(try simp only [aF] at h1)
   refine bC (bQ O (bC (bQ O (bC (Z (iF (hr _ (HL)) ay O) (bC (Z (gZ O O) (jw O O (iV O (fun h2 => ?_) (fun h2 => ?_))))))))))
   ·(try simp only [aF] at h2)
    refine fV (aO (aZ (aO (bT O (bQ O ?_)))))
    obtain ⟨bv, ov, cv, ev⟩ := eX.nX (hr _ (HL)) (by omega)
    cases ev
    refine Z (dw ay bK O O (by omega)) ?_
    refine Z (dR (bV bf O) O (by first | exact eX.jT (hr _ (HL)) (by omega) | exact eX.rP (hr _ (HL)) (by omega) | exact eX.rO (hr _ (HL)) (by omega))) ?_
    refine bQ O (Z (iZ O O) (iV O (fun h3 => ?_) (fun h3 => ?_)))
    ·(try simp only [aF] at h3)
     have hf := PS (m := m) h3
     refine dn (aI (aY (aW (aB (jF O O (Z (fK O O (by omega)) (fU O (bP ?_))))))))
     refine dH (_, _) oO Kq (by (try dsimp only); exact ⟨⟨by omega, by omega, hE.trans (GR hst (by omega) (by omega) hf)⟩, HL⟩) ?_
     ·(try dsimp only); have := hmp (by omega) (by omega); omega
    ·(try simp only [aF] at h3)
     have heq : l.getD i.toNat 0 = c := by have h9 := h3; omega
     refine fV (aO (bT O (Z (lu O O (by omega)) (gB O (bT O (Z (jc O O) (iV O (fun h4 => ?_) (fun h4 => ?_))))))))
     ·(try simp only [aF] at h4)
      have hf := PU heq h4
      refine dn (aI (aY (aW (aB (jF O O (Z (fK O O (by omega)) (fU O (bP ?_))))))))
      refine dH (_, _) oO Kq (by (try dsimp only); exact ⟨⟨by omega, by omega, hE.trans (GR hst (by omega) (by omega) hf)⟩, HL⟩) ?_
      ·(try dsimp only); have := hmp (by omega) (by omega); omega
     ·(try simp only [aF] at h4)
      have hf := S9 heq h4
      refine fV (aO (bT O (Z (dO O O) (jL O (fun h5 => ?_) (fun h5 => ?_)))))
      ·(try simp only [aF] at h5)
       refine bH (bH (jw O O (iK (Iz (aB (jF O O (Z (lu O O (by omega)) (gB O (bT O (bQ O (Z (jc O O) (fU O (fU O (fF O (aS (aG (aG (aS (aG ?_)))))))))))))))))))
       refine gY (.inl O) results42 O O O ?_
       refine ⟨?_, HL⟩
       rw [zX (hE.trans (AO (by omega) (by omega) hf))]
       first | (rw [if_pos (by omega)]; rfl) | (rw [if_neg (by omega)]; rfl)
      ·(try simp only [aF] at h5)
       refine bC (bQ O (bC (Z (dO O O) (iJ O O (iV O (fun h6 => ?_) (fun h6 => ?_))))))
       ·(try simp only [aF] at h6)
        refine aB (jF O O (Z (lu O O (by omega)) (gB O (bT O (bQ O (Z (jc O O) (fU O (fU O (fF O (aS (aG (aG (aS (aG ?_))))))))))))))
        refine gY (.inl O) results42 O O O ?_
        refine ⟨?_, HL⟩
        rw [zX (hE.trans (AO (by omega) (by omega) hf))]
        first | (rw [if_pos (by omega)]; rfl) | (rw [if_neg (by omega)]; rfl)
       ·(try simp only [aF] at h6)
        refine fV (bT O (bQ O (Z (jc O O) (fU O (fU O (fF O (aS (aG (aG (aS (aG ?_)))))))))))
        refine gY (.inl O) results42 O O O ?_
        refine ⟨?_, HL⟩
        rw [zX (hE.trans (AO (by omega) (by omega) hf))]
        first | (rw [if_pos (by omega)]; rfl) | (rw [if_neg (by omega)]; rfl)
   ·(try simp only [aF] at h2)
    refine dn (aI (aI (aY (aW (iy (fU O (fU O (fF O ?_))))))))
    refine gY (.inl O) results42 O O O ?_
    exact ⟨by rw [EM (hE.trans (AL (by omega)))]; rfl, HL⟩
  ·(try simp only [aF] at h1)
   refine bH (bH (bH (bH (iJ O O (iK (pW (dn (aI (aI (aY (aW (iy (fU O (fU O (fF O ?_)))))))))))))))
   refine gY (.inl O) results42 O O O ?_
   exact ⟨by rw [EM (hE.trans (AL (by omega)))]; rfl, HL⟩
 ·skip
  refine bT O (Z (dO O O) (jL O (fun h7 => ?_) (fun h7 => ?_)))
  ·(try simp only [aF] at h7)
   refine bH (bH (jw O O (iK (Iz (aB (fU O (bP ?_)))))))
   refine cO (()) ?_ ?_ ?_
   ·exact (Sub.iY O (by congr 1; unfold pX; first | rw [if_pos (by omega)] | rw [if_neg (by omega)]) (Sub.nil _))
   ·exact sb5
   ·(try dsimp only)
    first | done | exact H
  ·(try simp only [aF] at h7)
   refine bC (bQ O (bC (Z (dO O O) (iJ O O (iV O (fun h8 => ?_) (fun h8 => ?_))))))
   ·(try simp only [aF] at h8)
    refine aB (fU O (bP ?_))
    refine cO (()) ?_ ?_ ?_
    ·exact (Sub.iY O (by congr 1; unfold pX; first | rw [if_pos (by omega)] | rw [if_neg (by omega)]) (Sub.nil _))
    ·exact sb5
    ·(try dsimp only)
     first | done | exact H
   ·(try simp only [aF] at h8)
    refine bU ?_
    refine cO (()) ?_ ?_ ?_
    ·exact (Sub.iY O (by congr 1; unfold pX; first | rw [if_pos (by omega)] | rw [if_neg (by omega)]) (Sub.nil _))
    ·exact sb5
    ·(try dsimp only)
     first | done | exact H
theorem KW (H : V w0 w F) (hs : Conv.runesFrom s s.size 0 #[] = ((wS s).map (Value.int .i32)).toArray) (hb : (wS s).length ≤ 1000) : gQ prog 53 #[.int .i32 r, .string s] w fun u w' => u = .bool (decide (r ∈ wS s)) ∧ V w0 w' F := by
 refine nH func53 ntmps53 ?_
 refine jk O (bT O (jy (Et H iR ay bf O hs (by omega)) ?_))
 rintro u w1 H1
 refine vZ O (jk O (aZ ?_))
 refine fC [(0, _), (5, _)] (fun (k : Nat) => [(6, .int .i64 (k : Int))]) (fun (k : Nat) W => (k ≤ (wS s).length ∧ ∀ j, j < k → ¬ (wS s).getD j 0 = r) ∧ V w0 W (kT 21 .i32 u (wS s) • F)) (fun (k : Nat) => (wS s).length - k) (0) oO kD ⟨⟨by omega, fun j h => by omega⟩, H1⟩ ?_
 rintro k w2 ⟨⟨hk, hno⟩, HL⟩
 dsimp only [List.cons_append, List.nil_append]
 refine aO (bT O (bQ O (Z (iF ((HL).aT) ay O) (Z (gZ O O) (iV O (fun h1 => ?_) (fun h1 => ?_))))))
 ·(try simp only [aF] at h1)
  refine fV (aO (aZ (bT O (bQ O ?_))))
  obtain ⟨bu, ou, cu, eu⟩ := eX.nX ((HL).aT) (by omega)
  cases eu
  refine Z (dw ay bK O O (by omega)) ?_
  refine Z (dR (bV bf O) O (by first | exact eX.jT ((HL).aT) (by omega) | exact eX.rP ((HL).aT) (by omega) | exact eX.rO ((HL).aT) (by omega))) ?_
  refine bQ O (Z (dO O O) (iV O (fun h2 => ?_) (fun h2 => ?_)))
  ·(try simp only [aF] at h2)
   have heq : (wS s).getD k 0 = r := h2
   refine jd O (aS (aG (aG (aS (aG (dG results53 O ?_))))))
   exact ⟨by rw [decide_eq_true (by rw [← heq, List.getD_eq_getElem?_getD, List.getElem?_eq_getElem (by omega)]; exact List.getElem_mem _)], HL.right⟩
  ·(try simp only [aF] at h2)
   have hne : ¬ (wS s).getD k 0 = r := h2
   refine bU (aJ (aW (aB (bQ O (Z (fK O O (by omega)) (fU O (bP ?_)))))))
   refine dH (k + 1) ?_ ?_ ?_ ?_
   ·exact kD
   ·exact oO
   ·(try dsimp only)
    first | done | exact ⟨⟨by omega, fun j h => if e : j = k then (by rw [e]; exact hne) else hno j (by omega)⟩, HL⟩
   ·(try dsimp only); omega
 ·(try simp only [aF] at h1)
  refine dn (aI (aI (aY (aW (jd O (dG results53 O ?_))))))
  exact ⟨by rw [decide_eq_false (fun h => by obtain ⟨j, hj, e⟩ := List.getElem_of_mem h; exact hno j (by omega) (by rw [List.getD_eq_getElem?_getD, List.getElem?_eq_getElem hj]; exact e))], HL.right⟩
end
end Go.Proofs.YtpdeedplgmbopaaGreatDoor
end
section
namespace Go.Proofs.YtpdeedplgmbopaaGreatDoor
open Go.RowKit
def abR (l : List pO) : Int := if l.any (fun x => decide (16384 < x.1.size)) then 3 else if l.any (fun x => decide (x.2 < 0)) then 1 else 0
section
variable {P : Program} {L : List (Nat × Value)} {w0 w : World} {F : HP} {p : Nat} {hl l : List pO} {base most : Int} {v : Value}
def Ze (hl : List pO) (most : Int) : Nat := hl.length - most.toNat
def adk (hl : List pO) (most : Int) (l : List pO) : List pO := if abR l = 0 then (hl ++ l).drop (Ze (hl ++ l) most) else hl
def adl (hl : List pO) (base most : Int) (l : List pO) : Int := if abR l = 0 then base + Ze (hl ++ l) most else base
end
def aev (l : List pO) : List pO := adk [] 4096 l
def aew (l : List pO) : Int := adl [] 1 4096 l
end Go.Proofs.YtpdeedplgmbopaaGreatDoor
end
