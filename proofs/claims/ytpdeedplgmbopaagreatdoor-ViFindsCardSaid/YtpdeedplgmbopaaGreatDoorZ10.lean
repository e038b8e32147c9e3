import Derived.Test.YtpdeedplgmbopaaGreatDoorZ4
import Derived.Test.YtpdeedplgmbopaaGreatDoorZ9
import Derived.Test.YtpdeedplgmbopaaGreatDoorZ3
import Derived.Laws.BitsLemmas
import Derived.Lib.RuneBytes
import Derived.Scope
import Derived.Laws.RangeString
import Derived.Lib.OthersKept
import Derived.Lib.Bytealg
import Derived.Test.YtpdeedplgmbopaaGreatDoorProg
import Derived.Test.YtpdeedplgmbopaaGreatDoorZ2
import Derived.Test.YtpdeedplgmbopaaGreatDoorZ6
import Derived.Test.YtpdeedplgmbopaaGreatDoorZ8
set_option linter.unusedSimpArgs false
set_option linter.unusedVariables false
/- Texts of mine, joined, their names in short: VW4 VS Bits VN Str StrF VI VC HistF RHist. -/
section
namespace Go.Proofs.YtpdeedplgmbopaaGreatDoor
open Go.RowKit
open _root_.Go.Proofs.Tryz
def zx (l : List Int) (x : Int) (big : Bool) : Int :=
  if 0 < uM (fun r => eH r == 0) l x then uM (fun r => cO r big == cO (l.getD (uM (fun r => eH r == 0) l x - 1).toNat 0) big) l (uM (fun r => eH r == 0) l x) else uM (fun r => eH r == 0) l x
def EZ (l : List Int) (x : Int) (big : Bool) : Int :=
  if (l.length : Int) ≤ jY (fun r => eH r == 0) l (x + 1) then (l.length : Int) - 1 else jY (fun r => cO r big == cO (l.getD (jY (fun r => eH r == 0) l (x + 1)).toNat 0) big) l (jY (fun r => eH r == 0) l (x + 1) + 1) - 1
section
variable {w0 w : World} {F : HP} {r x : Int} {big : Bool} {l : List Int} {v : Value}
theorem SS (H : V w0 w F) (hr : jq w0 F .i32 v l) (hT : wS w0) (hx0 : 0 ≤ x) (hx1 : x ≤ l.length) : gJ prog 96 #[v, .int .i64 x, .bool big] w fun v' w' => v' = .int .i64 (zx l x big) ∧ V w0 w' F := by
 have Vm : l.length ≤ 9223372036854775807 := by have := (hr _ H).open; obtain ⟨a, c, e, h3, h4, _⟩ := this; omega
 refine CQ func96 ntmps96 ?_
 refine jr O (aP (aY ?_))
 refine fF [(0, _), (2, _)] (fun (y : Int) => [(1, .int .i64 y)]) (fun (y : Int) W => ((0 ≤ y ∧ y ≤ l.length) ∧ uM (fun r => eH r == 0) l y = uM (fun r => eH r == 0) l x) ∧ V w0 W F) (fun (y : Int) => y.toNat) (x) qG lG ⟨⟨⟨hx0, hx1⟩, O⟩, H⟩ ?_
 rintro y w1 ⟨⟨⟨hy0, hyl⟩, hy⟩, HL⟩
 dsimp only [List.cons_append, List.nil_append]
 refine aP (bT O (aV (iV O O) (jF O (fun h1 => ?_) (fun h1 => ?_))))
 ·(try simp only [Z] at h1)
  refine bC (bP O (bC (bP O (bC (aV (kU O O (by omega)) (bC ?_))))))
  obtain ⟨bv, ov, cv, ev⟩ := fB.pJ (hr _ (HL)) (by omega)
  cases ev
  refine aV (dD ay bQ O O (by omega)) (bC ?_)
  refine aV (eG (bY aZ O) O (by first | exact fB.kX (hr _ (HL)) (by omega) | exact fB.uQ (hr _ (HL)) (by omega) | exact fB.uG (hr _ (HL)) (by omega))) ?_
  refine bC (dY O func14 (nY HL hT) ?_)
  rintro _ w2 ⟨rfl, H2⟩
  refine bC (aV (dR O O) (jE O O (je O (fun h2 => ?_) (fun h2 => ?_))))
  ·(try simp only [Z] at h2)
   have hP : (eH (l.getD (y - 1).toNat 0) == 0) = true := by rw [beq_iff_eq]; exact h2
   refine gq (aY (aC (bP O (aV (kU O O (by omega)) (fV O (bM (aJ ?_)))))))
   refine dK (y - 1) ?_ ?_ ?_ ?_
   ·exact lG
   ·exact qG
   ·(try dsimp only)
    first | done | exact ⟨⟨⟨by omega, by omega⟩, (Gx (by omega) hyl hP).symm.trans hy⟩, H2⟩
   ·(try dsimp only); omega
  ·(try simp only [Z] at h2)
   have hP : ¬ (eH (l.getD (y - 1).toNat 0) == 0) = true := by rw [beq_iff_eq]; exact h2
   refine dB (aI (aI (bf (aX (aP (aP ?_))))))
   have e1 : uM (fun r => eH r == 0) l x = y := hy.symm.trans (by first | exact tZ (by omega) | exact xq (by omega) hyl hP)
   refine aC (bP O (aV (iV O O) (je O (fun h3 => ?_) (fun h3 => ?_))))
   ·(try simp only [Z] at h3)
    refine bT O (bP O (aV (kU O O (by omega)) (aV (dD ay bQ O O (by omega)) ?_)))
    refine aV (eG (bY aZ O) O (by first | exact fB.kX (hr _ (H2)) (by omega) | exact fB.uQ (hr _ (H2)) (by omega) | exact fB.uG (hr _ (H2)) (by omega))) ?_
    refine bP O (dY O func142 (lM H2 hT) ?_)
    rintro _ w3 ⟨rfl, H3⟩
    refine gI O (aY ?_)
    refine fF [(0, _), (2, _), (7, _)] (fun (z : Int) => [(1, .int .i64 z)]) (fun (z : Int) W => ((0 ≤ z ∧ z ≤ l.length) ∧ uM (fun r => cO r big == cO (l.getD (y - 1).toNat 0) big) l z = uM (fun r => cO r big == cO (l.getD (y - 1).toNat 0) big) l y) ∧ V w0 W F) (fun (z : Int) => z.toNat) (y) uH lG ⟨⟨⟨by omega, by omega⟩, O⟩, H3⟩ ?_
    rintro z w4 ⟨⟨⟨hz0, hzl⟩, hz⟩, HM⟩
    dsimp only [List.cons_append, List.nil_append]
    refine aP (bT O (aV (iV O O) (jF O (fun h4 => ?_) (fun h4 => ?_))))
    ·(try simp only [Z] at h4)
     refine bC (bP O (bC (bP O (bC (aV (kU O O (by omega)) (bC (aV (dD ay bQ O O (by omega)) (bC ?_))))))))
     refine aV (eG (bY aZ O) O (by first | exact fB.kX (hr _ (HM)) (by omega) | exact fB.uQ (hr _ (HM)) (by omega) | exact fB.uG (hr _ (HM)) (by omega))) ?_
     refine bC (bP O (bC (dY O func142 (lM HM hT) ?_)))
     rintro _ w5 ⟨rfl, H5⟩
     refine bC (bP O (bC (aV (dR O O) (jE O O (je O (fun h5 => ?_) (fun h5 => ?_))))))
     ·(try simp only [Z] at h5)
      have hQ : (cO (l.getD (z - 1).toNat 0) big == cO (l.getD (y - 1).toNat 0) big) = true := by rw [beq_iff_eq]; exact h5
      refine gq (aY (aC (bP O (aV (kU O O (by omega)) (fV O (bM (aJ ?_)))))))
      refine dK (z - 1) ?_ ?_ ?_ ?_
      ·exact lG
      ·exact uH
      ·(try dsimp only)
       first | done | exact ⟨⟨⟨by omega, by omega⟩, (Gx (by omega) hzl hQ).symm.trans hz⟩, H5⟩
      ·(try dsimp only); omega
     ·(try simp only [Z] at h5)
      have hQ : ¬ (cO (l.getD (z - 1).toNat 0) big == cO (l.getD (y - 1).toNat 0) big) = true := by rw [beq_iff_eq]; exact h5
      refine dB (aI (aI (bf (aX (bT O (fC O (dH results96 O ?_)))))))
      exact ⟨by unfold zx; rw [e1]; first | (rw [if_neg (by omega)]; done) | (rw [if_pos (by omega), ← hz]; first | rw [tZ (by omega)] | rw [xq (by omega) hzl hQ]), H5⟩
    ·(try simp only [Z] at h4)
     refine bJ (bJ (bJ (bJ (bJ (bJ (bJ (bJ (bJ (iL O O (iJ (qF (dB (aI (aI (bf (aX (bT O (fC O (dH results96 O ?_)))))))))))))))))))
     exact ⟨by unfold zx; rw [e1]; first | (rw [if_neg (by omega)]; done) | (rw [if_pos (by omega), ← hz]; first | rw [tZ (by omega)] | rw [xq (by omega) hzl hQ]), HM⟩
   ·(try simp only [Z] at h3)
    refine gq (bT O (fC O (dH results96 O ?_)))
    exact ⟨by unfold zx; rw [e1]; first | (rw [if_neg (by omega)]; done) | (rw [if_pos (by omega), ← hz]; first | rw [tZ (by omega)] | rw [xq (by omega) hzl hQ]), H2⟩
 ·(try simp only [Z] at h1)
  refine bJ (bJ (bJ (bJ (bJ (bJ (bJ (iL O O (iJ (qF (dB (aI (aI (bf (aX (aP (aP ?_))))))))))))))))
  have e1 : uM (fun r => eH r == 0) l x = y := hy.symm.trans (by first | exact tZ (by omega) | exact xq (by omega) hyl hP)
  refine aC (bP O (aV (iV O O) (je O (fun h6 => ?_) (fun h6 => ?_))))
  ·(try simp only [Z] at h6)
   refine bT O (bP O (aV (kU O O (by omega)) ?_))
   obtain ⟨bv, ov, cv, ev⟩ := fB.pJ (hr _ (HL)) (by omega)
   cases ev
   refine aV (dD ay bQ O O (by omega)) ?_
   refine aV (eG (bY aZ O) O (by first | exact fB.kX (hr _ (HL)) (by omega) | exact fB.uQ (hr _ (HL)) (by omega) | exact fB.uG (hr _ (HL)) (by omega))) ?_
   refine bP O (dY O func142 (lM HL hT) ?_)
   rintro _ w6 ⟨rfl, H6⟩
   refine gI O (aY ?_)
   refine fF [(0, _), (2, _), (7, _)] (fun (z : Int) => [(1, .int .i64 z)]) (fun (z : Int) W => ((0 ≤ z ∧ z ≤ l.length) ∧ uM (fun r => cO r big == cO (l.getD (y - 1).toNat 0) big) l z = uM (fun r => cO r big == cO (l.getD (y - 1).toNat 0) big) l y) ∧ V w0 W F) (fun (z : Int) => z.toNat) (y) uH lG ⟨⟨⟨by omega, by omega⟩, O⟩, H6⟩ ?_
   rintro z w7 ⟨⟨⟨hz0, hzl⟩, hz⟩, HM⟩
   dsimp only [List.cons_append, List.nil_append]
   refine aP (bT O (aV (iV O O) (jF O (fun h7 => ?_) (fun h7 => ?_))))
   ·(try simp only [Z] at h7)
    refine bC (bP O (bC (bP O (bC (aV (kU O O (by omega)) (bC (aV (dD ay bQ O O (by omega)) (bC ?_))))))))
    refine aV (eG (bY aZ O) O (by first | exact fB.kX (hr _ (HM)) (by omega) | exact fB.uQ (hr _ (HM)) (by omega) | exact fB.uG (hr _ (HM)) (by omega))) ?_
    refine bC (bP O (bC (dY O func142 (lM HM hT) ?_)))
    rintro _ w8 ⟨rfl, H8⟩
    refine bC (bP O (bC (aV (dR O O) (jE O O (je O (fun h8 => ?_) (fun h8 => ?_))))))
    ·(try simp only [Z] at h8)
     have hQ : (cO (l.getD (z - 1).toNat 0) big == cO (l.getD (y - 1).toNat 0) big) = true := by rw [beq_iff_eq]; exact h8
     refine gq (aY (aC (bP O (aV (kU O O (by omega)) (fV O (bM (aJ ?_)))))))
     refine dK (z - 1) ?_ ?_ ?_ ?_
     ·exact lG
     ·exact uH
     ·(try dsimp only)
      first | done | exact ⟨⟨⟨by omega, by omega⟩, (Gx (by omega) hzl hQ).symm.trans hz⟩, H8⟩
     ·(try dsimp only); omega
    ·(try simp only [Z] at h8)
     have hQ : ¬ (cO (l.getD (z - 1).toNat 0) big == cO (l.getD (y - 1).toNat 0) big) = true := by rw [beq_iff_eq]; exact h8
     refine dB (aI (aI (bf (aX (bT O (fC O (dH results96 O ?_)))))))
     exact ⟨by unfold zx; rw [e1]; first | (rw [if_neg (by omega)]; done) | (rw [if_pos (by omega), ← hz]; first | rw [tZ (by omega)] | rw [xq (by omega) hzl hQ]), H8⟩
   ·(try simp only [Z] at h7)
    refine bJ (bJ (bJ (bJ (bJ (bJ (bJ (bJ (bJ (iL O O (iJ (qF (dB (aI (aI (bf (aX (bT O (fC O (dH results96 O ?_)))))))))))))))))))
    exact ⟨by unfold zx; rw [e1]; first | (rw [if_neg (by omega)]; done) | (rw [if_pos (by omega), ← hz]; first | rw [tZ (by omega)] | rw [xq (by omega) hzl hQ]), HM⟩
  ·(try simp only [Z] at h6)
   refine gq (bT O (fC O (dH results96 O ?_)))
   exact ⟨by unfold zx; rw [e1]; first | (rw [if_neg (by omega)]; done) | (rw [if_pos (by omega), ← hz]; first | rw [tZ (by omega)] | rw [xq (by omega) hzl hQ]), HL⟩
theorem Vo (H : V w0 w F) (hr : jq w0 F .i32 v l) (hT : wS w0) (hx0 : 0 ≤ x) (hx1 : x ≤ l.length) (hl8 : l.length ≤ 4611686018427387904) : gJ prog 97 #[v, .int .i64 x, .bool big] w fun v' w' => v' = .int .i64 (EZ l x big) ∧ V w0 w' F := by
 refine CQ func97 ntmps97 ?_
 refine jr O (bT O (aV (fQ O O (by omega)) (wu O (aY ?_))))
 refine fF [(0, _), (2, _)] (fun (y : Int) => [(1, .int .i64 y)]) (fun (y : Int) W => ((0 ≤ y ∧ y ≤ l.length + 1) ∧ jY (fun r => eH r == 0) l y = jY (fun r => eH r == 0) l (x + 1)) ∧ V w0 W F) (fun (y : Int) => (l.length + 1 - y).toNat) (x + 1) qG lG ⟨⟨⟨by omega, by omega⟩, O⟩, H⟩ ?_
 rintro y w1 ⟨⟨⟨hy0, hyl⟩, hy⟩, HL⟩
 dsimp only [List.cons_append, List.nil_append]
 refine aP (bT O (bP O (aV (iQ (hr _ (HL)) ay O) (aV (gY O O) (jF O (fun h1 => ?_) (fun h1 => ?_))))))
 ·(try simp only [Z] at h1)
  refine bC (bP O (bC (bP O (bC ?_))))
  obtain ⟨bv, ov, cv, ev⟩ := fB.pJ (hr _ (HL)) (by omega)
  cases ev
  refine aV (dD ay bQ O O (by omega)) (bC ?_)
  refine aV (eG (bY aZ O) O (by first | exact fB.kX (hr _ (HL)) (by omega) | exact fB.uQ (hr _ (HL)) (by omega) | exact fB.uG (hr _ (HL)) (by omega))) ?_
  refine bC (dY O func14 (nY HL hT) ?_)
  rintro _ w2 ⟨rfl, H2⟩
  refine bC (aV (dR O O) (jE O O (je O (fun h2 => ?_) (fun h2 => ?_))))
  ·(try simp only [Z] at h2)
   have hP : (eH (l.getD y.toNat 0) == 0) = true := by rw [beq_iff_eq]; exact h2
   refine gq (aY (aC (bP O (aV (fQ O O (by omega)) (fV O (bM (aJ ?_)))))))
   refine dK (y + 1) ?_ ?_ ?_ ?_
   ·exact lG
   ·exact qG
   ·(try dsimp only)
    first | done | exact ⟨⟨⟨by omega, by omega⟩, (qy hy0 (by omega) hP).symm.trans hy⟩, H2⟩
   ·(try dsimp only); omega
  ·(try simp only [Z] at h2)
   have hP : ¬ (eH (l.getD y.toNat 0) == 0) = true := by rw [beq_iff_eq]; exact h2
   refine dB (aI (aI (bf (aX (aP (aP ?_))))))
   have e1 : jY (fun r => eH r == 0) l (x + 1) = y := hy.symm.trans (by first | exact jm (by omega) | exact kV hy0 (by omega) hP)
   refine aC (jG O O (aV (nI ay O) (aV (ku O O) (je O (fun h3 => ?_) (fun h3 => ?_)))))
   ·(try simp only [Z] at h3)
    refine bT O (aV (nI ay O) (aV (kU O O (by omega)) (fC O (aF (dH results97 O ?_)))))
    exact ⟨by unfold EZ; rw [e1, if_pos (by omega)], H2⟩
   ·(try simp only [Z] at h3)
    refine gq (bT O (bP O (aV (dD ay bQ O O (by omega)) ?_)))
    refine aV (eG (bY aZ O) O (by first | exact fB.kX (hr _ (H2)) (by omega) | exact fB.uQ (hr _ (H2)) (by omega) | exact fB.uG (hr _ (H2)) (by omega))) ?_
    refine bP O (dY O func142 (lM H2 hT) ?_)
    rintro _ w3 ⟨rfl, H3⟩
    refine wu O (aY ?_)
    refine fF [(0, _), (2, _), (7, _)] (fun (z : Int) => [(1, .int .i64 z)]) (fun (z : Int) W => ((0 ≤ z ∧ z < l.length) ∧ jY (fun r => cO r big == cO (l.getD y.toNat 0) big) l (z + 1) = jY (fun r => cO r big == cO (l.getD y.toNat 0) big) l (y + 1)) ∧ V w0 W F) (fun (z : Int) => (l.length - z).toNat) (y) uH lG ⟨⟨⟨by omega, by omega⟩, O⟩, H3⟩ ?_
    rintro z w4 ⟨⟨⟨hz0, hzl⟩, hz⟩, HM⟩
    dsimp only [List.cons_append, List.nil_append]
    refine aP (bT O (aV (fQ O O (by omega)) (bP O (aV (nI ay O) (aV (gY O O) (jF O (fun h4 => ?_) (fun h4 => ?_)))))))
    ·(try simp only [Z] at h4)
     refine bC (bP O (bC (bP O (bC (aV (fQ O O (by omega)) (bC (aV (dD ay bQ O O (by omega)) (bC ?_))))))))
     refine aV (eG (bY aZ O) O (by first | exact fB.kX (hr _ (HM)) (by omega) | exact fB.uQ (hr _ (HM)) (by omega) | exact fB.uG (hr _ (HM)) (by omega))) ?_
     refine bC (bP O (bC (dY O func142 (lM HM hT) ?_)))
     rintro _ w5 ⟨rfl, H5⟩
     refine bC (bP O (bC (aV (dR O O) (jE O O (je O (fun h5 => ?_) (fun h5 => ?_))))))
     ·(try simp only [Z] at h5)
      have hQ : (cO (l.getD (z + 1).toNat 0) big == cO (l.getD y.toNat 0) big) = true := by rw [beq_iff_eq]; exact h5
      refine gq (aY (aC (bP O (aV (fQ O O (by omega)) (fV O (bM (aJ ?_)))))))
      refine dK (z + 1) ?_ ?_ ?_ ?_
      ·exact lG
      ·exact uH
      ·(try dsimp only)
       first | done | exact ⟨⟨⟨by omega, by omega⟩, (qy (by omega) (by omega) hQ).symm.trans hz⟩, H5⟩
      ·(try dsimp only); omega
     ·(try simp only [Z] at h5)
      have hQ : ¬ (cO (l.getD (z + 1).toNat 0) big == cO (l.getD y.toNat 0) big) = true := by rw [beq_iff_eq]; exact h5
      refine dB (aI (aI (bf (aX (bT O (fC O (dH results97 O ?_)))))))
      exact ⟨by unfold EZ; rw [e1, if_neg (by omega), ← hz]; first | (rw [jm (by omega)]; congr 1; omega) | (rw [kV (by omega) (by omega) hQ]; congr 1; omega), H5⟩
    ·(try simp only [Z] at h4)
     refine bJ (bJ (bJ (bJ (bJ (bJ (bJ (bJ (bJ (iL O O (iJ (qF (dB (aI (aI (bf (aX (bT O (fC O (dH results97 O ?_)))))))))))))))))))
     exact ⟨by unfold EZ; rw [e1, if_neg (by omega), ← hz]; first | (rw [jm (by omega)]; congr 1; omega) | (rw [kV (by omega) (by omega) hQ]; congr 1; omega), HM⟩
 ·(try simp only [Z] at h1)
  refine bJ (bJ (bJ (bJ (bJ (bJ (iL O O (iJ (qF (dB (aI (aI (bf (aX (aP (aP ?_)))))))))))))))
  have e1 : jY (fun r => eH r == 0) l (x + 1) = y := hy.symm.trans (by first | exact jm (by omega) | exact kV hy0 (by omega) hP)
  refine aC (jG O O (aV (iQ (hr _ (HL)) ay O) (aV (ku O O) (je O (fun h6 => ?_) (fun h6 => ?_)))))
  ·(try simp only [Z] at h6)
   refine bT O (aV (iQ (hr _ (HL)) ay O) (aV (kU O O (by omega)) (fC O (aF (dH results97 O ?_)))))
   exact ⟨by unfold EZ; rw [e1, if_pos (by omega)], HL⟩
  ·(try simp only [Z] at h6)
   refine gq (bT O (bP O ?_))
   obtain ⟨bv, ov, cv, ev⟩ := fB.pJ (hr _ (HL)) (by omega)
   cases ev
   refine aV (dD ay bQ O O (by omega)) ?_
   refine aV (eG (bY aZ O) O (by first | exact fB.kX (hr _ (HL)) (by omega) | exact fB.uQ (hr _ (HL)) (by omega) | exact fB.uG (hr _ (HL)) (by omega))) ?_
   refine bP O (dY O func142 (lM HL hT) ?_)
   rintro _ w6 ⟨rfl, H6⟩
   refine wu O (aY ?_)
   refine fF [(0, _), (2, _), (7, _)] (fun (z : Int) => [(1, .int .i64 z)]) (fun (z : Int) W => ((0 ≤ z ∧ z < l.length) ∧ jY (fun r => cO r big == cO (l.getD y.toNat 0) big) l (z + 1) = jY (fun r => cO r big == cO (l.getD y.toNat 0) big) l (y + 1)) ∧ V w0 W F) (fun (z : Int) => (l.length - z).toNat) (y) uH lG ⟨⟨⟨by omega, by omega⟩, O⟩, H6⟩ ?_
   rintro z w7 ⟨⟨⟨hz0, hzl⟩, hz⟩, HM⟩
   dsimp only [List.cons_append, List.nil_append]
   refine aP (bT O (aV (fQ O O (by omega)) (bP O (aV (nI ay O) (aV (gY O O) (jF O (fun h7 => ?_) (fun h7 => ?_)))))))
   ·(try simp only [Z] at h7)
    refine bC (bP O (bC (bP O (bC (aV (fQ O O (by omega)) (bC (aV (dD ay bQ O O (by omega)) (bC ?_))))))))
    refine aV (eG (bY aZ O) O (by first | exact fB.kX (hr _ (HM)) (by omega) | exact fB.uQ (hr _ (HM)) (by omega) | exact fB.uG (hr _ (HM)) (by omega))) ?_
    refine bC (bP O (bC (dY O func142 (lM HM hT) ?_)))
    rintro _ w8 ⟨rfl, H8⟩
    refine bC (bP O (bC (aV (dR O O) (jE O O (je O (fun h8 => ?_) (fun h8 => ?_))))))
    ·(try simp only [Z] at h8)
     have hQ : (cO (l.getD (z + 1).toNat 0) big == cO (l.getD y.toNat 0) big) = true := by rw [beq_iff_eq]; exact h8
     refine gq (aY (aC (bP O (aV (fQ O O (by omega)) (fV O (bM (aJ ?_)))))))
     refine dK (z + 1) ?_ ?_ ?_ ?_
     ·exact lG
     ·exact uH
     ·(try dsimp only)
      first | done | exact ⟨⟨⟨by omega, by omega⟩, (qy (by omega) (by omega) hQ).symm.trans hz⟩, H8⟩
     ·(try dsimp only); omega
    ·(try simp only [Z] at h8)
     have hQ : ¬ (cO (l.getD (z + 1).toNat 0) big == cO (l.getD y.toNat 0) big) = true := by rw [beq_iff_eq]; exact h8
     refine dB (aI (aI (bf (aX (bT O (fC O (dH results97 O ?_)))))))
     exact ⟨by unfold EZ; rw [e1, if_neg (by omega), ← hz]; first | (rw [jm (by omega)]; congr 1; omega) | (rw [kV (by omega) (by omega) hQ]; congr 1; omega), H8⟩
   ·(try simp only [Z] at h7)
    refine bJ (bJ (bJ (bJ (bJ (bJ (bJ (bJ (bJ (iL O O (iJ (qF (dB (aI (aI (bf (aX (bT O (fC O (dH results97 O ?_)))))))))))))))))))
    exact ⟨by unfold EZ; rw [e1, if_neg (by omega), ← hz]; first | (rw [jm (by omega)]; congr 1; omega) | (rw [kV (by omega) (by omega) hQ]; congr 1; omega), HM⟩
end
end Go.Proofs.YtpdeedplgmbopaaGreatDoor
end
section
namespace Go.Proofs.YtpdeedplgmbopaaGreatDoor
open Go.RowKit
def yF (f : Int → Int → Option Int) : Int → List Int → Option Int
  | _, [] => none
  | s, x :: l => match f s x with
    | none => some 0
    | some t => (yF f t l).map (· + 1)
def pW (st : Int) (f : Int → Int → Option Int) (l : List Int) (s i : Int) : Option Int :=
  if 0 ≤ i ∧ i < l.length then (if st = 1 then (yF f s (l.drop i.toNat)).map (i + ·) else (yF f s (l.take (i.toNat + 1)).reverse).map (i - ·)) else none
section
variable {st s t i : Int} {f : Int → Int → Option Int} {l : List Int}
theorem AA (h : ¬ (0 ≤ i ∧ i < l.length)) : pW st f l s i = none := if_neg h
theorem Jz (h0 : 0 ≤ i) (h1 : i < l.length) : (l.take (i.toNat + 1)).reverse = l.getD i.toNat 0 :: (l.take i.toNat).reverse := by
  rw [List.take_succ_eq_append_getElem (by omega), List.reverse_append, List.getD_eq_getElem?_getD, List.getElem?_eq_getElem (by omega)]
  rfl
theorem QY (h0 : 0 ≤ i) (h1 : i < l.length) : l.drop i.toNat = l.getD i.toNat 0 :: l.drop (i.toNat + 1) := by
  rw [List.drop_eq_getElem_cons (by omega), List.getD_eq_getElem?_getD, List.getElem?_eq_getElem (by omega)]
  rfl
theorem AB (h0 : 0 ≤ i) (h1 : i < l.length) (hf : f s (l.getD i.toNat 0) = none) : pW st f l s i = some i := by
  unfold pW
  rw [if_pos ⟨h0, h1⟩, QY h0 h1, Jz h0 h1, yF, yF, hf]
  split <;> simp
theorem Gz (hst : st = 1 ∨ st = -1) (h0 : 0 ≤ i) (h1 : i < l.length) (hf : f s (l.getD i.toNat 0) = some t) : pW st f l s i = pW st f l t (i + st) := by
  unfold pW
  rw [if_pos ⟨h0, h1⟩, QY h0 h1, Jz h0 h1, yF, yF, hf]
  dsimp only
  rcases hst with rfl | rfl
  · rw [if_pos rfl, if_pos rfl]
    by_cases h2 : i + 1 < l.length
    · rw [if_pos ⟨by omega, h2⟩, show (i + 1).toNat = i.toNat + 1 from by omega, Option.map_map]
      congr 1
      funext x
      simp; omega
    · rw [if_neg (by omega), List.drop_of_length_le (by omega)]
      rfl
  · rw [if_neg (show ¬ ((-1 : Int) = 1) by decide), if_neg (show ¬ ((-1 : Int) = 1) by decide)]
    by_cases h2 : 0 < i
    · rw [if_pos ⟨by omega, by omega⟩, show (i + -1).toNat + 1 = i.toNat from by omega, Option.map_map]
      congr 1
      funext x
      simp; omega
    · rw [if_neg (by omega), show i.toNat = 0 from by omega]
      rfl
end
def uf (c : Int) (n x : Int) : Option Int := if x = c then (if n ≤ 1 then none else some (n - 1)) else some n
def GH (a b : Int) (d x : Int) : Option Int := if d + (if x = a then 1 else 0) - (if x = b then 1 else 0) = 0 then none else some (d + (if x = a then 1 else 0) - (if x = b then 1 else 0))
def yG (g : Int → Int) : Nat → Int → Int
  | 0, x => x
  | n + 1, x => if g x = x then x else yG g n (g x)
def abR (g : Int → Int) : Nat → Int → Int
  | 0, x => x
  | n + 1, x => abR g n (g x)
section
variable {g : Int → Int}
theorem GI {n : Nat} {x : Int} (h : g x = x) : yG g n x = x := by cases n with
  | zero => rfl
  | succ n => rw [yG, if_pos h]
theorem PL {n : Nat} {x : Int} (hn : 0 < n) (h : ¬ g x = x) : yG g n x = yG g (n - 1) (g x) := by
  obtain ⟨m, rfl⟩ : ∃ m, n = m + 1 := ⟨n - 1, by omega⟩
  rw [yG, if_neg h]; rfl
end
section
variable {l : List Int} {x : Int} {big : Bool}
theorem Vp (l : List Int) {x : Int} (big : Bool) (h0 : 0 ≤ x) (h1 : x ≤ l.length) : x ≤ xu l x big ∧ xu l x big ≤ l.length := by
  unfold xu
  by_cases h2 : x < l.length
  · rw [if_pos h2]
    by_cases h3 : cO (l.getD x.toNat 0) big = 0
    · rw [if_pos h3]; exact qJ h0 h1
    · rw [if_neg h3]
      have h4 := qJ (P := fun r => cO r big == cO (l.getD x.toNat 0) big) h0 h1
      have h5 := qJ (P := fun r => eH r == 0) (l := l) (x := jY (fun r => cO r big == cO (l.getD x.toNat 0) big) l x) (by omega) h4.2
      omega
  · rw [if_neg h2]; exact qJ h0 h1
theorem Vq (l : List Int) {x : Int} (big : Bool) (h0 : 0 ≤ x) (h1 : x ≤ l.length) : 0 ≤ zx l x big ∧ zx l x big ≤ x := by
  unfold zx
  have h2 := Gy (P := fun r => eH r == 0) h0 h1
  split
  · have h3 := Gy (P := fun r => cO r big == cO (l.getD (uM (fun r => eH r == 0) l x - 1).toNat 0) big) (l := l) (x := uM (fun r => eH r == 0) l x) h2.1 (by omega)
    omega
  · exact h2
theorem X0 (l : List Int) {x : Int} (big : Bool) (h0 : 0 ≤ x) (h1 : x < l.length) : x ≤ EZ l x big ∧ EZ l x big < l.length := by
  unfold EZ
  by_cases h9 : (l.length : Int) ≤ x + 1
  · rw [jm h9, if_pos h9]; omega
  · have h2 := qJ (P := fun r => eH r == 0) (l := l) (x := x + 1) (by omega) (by omega)
    split
    · omega
    · have h3 := qJ (P := fun r => cO r big == cO (l.getD (jY (fun r => eH r == 0) l (x + 1)).toNat 0) big) (l := l) (x := jY (fun r => eH r == 0) l (x + 1) + 1) (by omega) (by omega)
      omega
end
def lU (key : Int) : Int := if key = 70 ∨ key = 84 then -1 else 1
def wG (l : List Int) (x key c n : Int) : Int × Bool × Bool := match pW (lU key) (uf c) l n (x + lU key) with
  | none => (0, false, false)
  | some i => (if key = 116 ∨ key = 84 then i - lU key else i, decide (0 < lU key), true)
def vC (r : Int) : Bool := r == 40 || r == 91 || r == 123 || r == 41 || r == 93 || r == 125
def Dl (r : Int) : Int := if r = 40 ∨ r = 91 ∨ r = 123 then 1 else -1
def Eb (r : Int) : Int := if r = 40 then 41 else if r = 41 then 40 else if r = 91 then 93 else if r = 93 then 91 else if r = 123 then 125 else 123
def wH (l : List Int) (x : Int) : Int × Bool × Bool :=
  if (l.length : Int) ≤ jY (fun r => !vC r) l x then (0, false, false) else
  match pW (Dl (l.getD (jY (fun r => !vC r) l x).toNat 0)) (GH (l.getD (jY (fun r => !vC r) l x).toNat 0) (Eb (l.getD (jY (fun r => !vC r) l x).toNat 0))) l 0 (jY (fun r => !vC r) l x) with
  | none => (0, false, false)
  | some j => (j, true, true)
def wI (l : List Int) (x key n : Int) : Int × Bool × Bool :=
  if key = 119 ∨ key = 87 then (if x < l.length then (yG (fun y => xu l y (key == 87)) n.toNat x, false, true) else (0, false, false))
  else if key = 98 ∨ key = 66 then (if 0 < x then (yG (fun y => zx l y (key == 66)) n.toNat x, false, true) else (0, false, false))
  else if key = 101 ∨ key = 69 then (if x < l.length - 1 then (yG (fun y => EZ l y (key == 69)) n.toNat x, true, true) else (0, false, false))
  else (0, false, false)
def jJ (l : List Int) (x key c n : Int) : Int × Bool × Bool :=
  if key = 104 then (if x = 0 then (0, false, false) else (x - min n x, false, true))
  else if key = 108 ∨ key = 32 then (if x = l.length then (0, false, false) else (x + min n (l.length - x), false, true))
  else if key = 48 then (0, false, true)
  else if key = 36 then (l.length, false, true)
  else if key = 94 then (jY (fun r => eH r == 0) l 0, false, true)
  else if key = 124 then (min (n - 1) l.length, false, true)
  else if key = 102 ∨ key = 70 ∨ key = 116 ∨ key = 84 then wG l x key c n
  else if key = 37 then wH l x
  else wI l x key n
def jf (l : List Int) (x key c n : Int) : Int × Bool × Bool := jJ l (min (max x 0) l.length) key c (max n 1)
def PN (q : Int × Bool × Bool) : Value := .tuple #[.int .i64 q.1, .bool q.2.1, .bool q.2.2]
section
variable {P : Program} {L : List (Nat × Value)} {w : World} {ty t t' : TypeId} {x y : Operand} {k k2 : IntKind} {m n : Int}
theorem X3 (o : BinOp) (hx : ev L x = some (.int k m)) (hy : ev L y = some (.int k n)) (ho : o = .and ∨ o = .or ∨ o = .xor ∨ o = .andNot) : Val P L (.binOp o t x y t') ty w (.int k (bits o k m n)) w :=
  ZG o hx hy ho (by rcases ho with rfl | rfl | rfl | rfl <;> rfl)
theorem Fz {n : Int} (h : -2147483648 ≤ n ∧ n < 2147483648) : IntKind.i32.wrap n = n := by rw [IntKind.wrap_i32]; omega
theorem QZ {n : Int} (h : -9223372036854775808 ≤ n ∧ n < 9223372036854775808) : IntKind.i64.wrap n = n := by rw [IntKind.wrap_i64]; omega
theorem JA {src dst : TypeId} (hx : ev L x = some (.int k m)) (hs : (P.underlying src).isSome = true) (hd : P.underlying dst = some (.int .u8)) : Val P L (.convert src dst x) ty w (.int .u8 (m % 256)) w := fun ρ hρ _ _ _ _ => by
  obtain ⟨ds, hs'⟩ := Option.isSome_iff_exists.1 hs
  simp only [execOp, hρ _ _ hx]
  simp [convert, run_underlying hs', run_underlying hd, Conv.intToInt, IntKind.wrap_u8]
end
end Go.Proofs.YtpdeedplgmbopaaGreatDoor
end
section
namespace Go.Proofs.YtpdeedplgmbopaaGreatDoor
open Go.RowKit
open _root_.Go.Proofs.Tryz
def Vr (k : Int) : Bool := decide (48 ≤ k) && decide (k ≤ 57)
def vF (l : List Int) : List Int := if l.getD 0 0 = 48 then [] else l.takeWhile Vr
def GK (n k : Int) : Int := min (n * 10 + (k - 48)) 1000000
def abS (l : List Int) : Int := (vF l).foldl GK 0
def lq (l : List Int) : List Int := l.drop (vF l).length
theorem abT {p : Int → Bool} {l : List Int} : ∀ {i : Nat}, i ≤ (l.takeWhile p).length → (i < (l.takeWhile p).length ↔ (i < l.length ∧ p (l.getD i 0) = true)) := by
  induction l with
  | nil => intro i h; simp
  | cons x l ih =>
    intro i h
    rw [List.takeWhile_cons] at h ⊢
    by_cases hx : p x = true
    · rw [if_pos hx] at h ⊢
      cases i with
      | zero => simp [hx]
      | succ i =>
        rw [List.length_cons] at h
        have := ih (i := i) (by omega)
        rw [List.length_cons, List.length_cons, List.getD_cons_succ, Nat.add_lt_add_iff_right, Nat.add_lt_add_iff_right]
        exact this
    · rw [if_neg hx] at h ⊢
      have : i = 0 := by simpa using h
      subst this
      simp [hx]
theorem aag {p : Int → Bool} {l : List Int} {i : Nat} (h : i < (l.takeWhile p).length) : (l.takeWhile p).getD i 0 = l.getD i 0 := by
  induction l generalizing i with
  | nil => simp at h
  | cons x l ih =>
    rw [List.takeWhile_cons] at h ⊢
    by_cases hx : p x = true
    · rw [if_pos hx] at h ⊢
      cases i with
      | zero => rfl
      | succ i => rw [List.length_cons] at h; rw [List.getD_cons_succ, List.getD_cons_succ]; exact ih (by omega)
    · rw [if_neg hx] at h; simp at h
section
variable {l : List Int} {i : Nat}
theorem aah (h : i ≤ (vF l).length) : i < (vF l).length ↔ ((i : Int) < l.length ∧ 48 ≤ l.getD i 0 ∧ l.getD i 0 ≤ 57 ∧ (0 < i ∨ ¬ l.getD i 0 = 48)) := by
  unfold vF at h ⊢
  by_cases h0 : l.getD 0 0 = 48
  · rw [if_pos h0] at h ⊢
    have : i = 0 := by simpa using h
    subst this
    constructor
    · intro h9; simp at h9
    · rintro ⟨_, _, _, h9 | h9⟩
      · omega
      · exact absurd h0 h9
  · rw [if_neg h0] at h ⊢
    rw [abT h]
    unfold Vr
    rw [Bool.and_eq_true, decide_eq_true_iff, decide_eq_true_iff]
    have h1 : 0 < i ∨ ¬ l.getD i 0 = 48 := by
      cases i with
      | zero => exact .inr h0
      | succ i => exact .inl (by omega)
    omega
theorem X5 (h : i < (vF l).length) : (vF l).getD i 0 = l.getD i 0 := by
  unfold vF at h ⊢
  by_cases h0 : l.getD 0 0 = 48
  · rw [if_pos h0] at h; simp at h
  · rw [if_neg h0] at h ⊢; exact aag h
theorem Nq (h : i < (vF l).length) : ((vF l).take (i + 1)).foldl GK 0 = GK (((vF l).take i).foldl GK 0) (l.getD i 0) := by
  rw [List.take_succ_eq_append_getElem h, List.foldl_append, ← X5 h, List.getD_eq_getElem?_getD, List.getElem?_eq_getElem h]
  rfl
theorem FB : ((vF l).take (vF l).length).foldl GK 0 = abS l := by rw [List.take_length]; rfl
theorem Q5 {n k : Int} (h : 0 ≤ n ∧ n ≤ 1000000) (hk : 48 ≤ k ∧ k ≤ 57) : 0 ≤ GK n k ∧ GK n k ≤ 1000000 := by unfold GK; omega
theorem aai : (vF l).length ≤ l.length := by
  unfold vF; split
  · simp
  · exact (List.takeWhile_sublist Vr).length_le
end
section
variable {w0 w : World} {F : HP} {v : Value} {l : List Int}
theorem KN (H : V w0 w F) (hr : jq w0 F .i32 v l) : gJ prog 51 #[v] w fun u w' => ∃ kv, u = .tuple #[kv, .int .i64 (abS l)] ∧ jq w0 F .i32 kv (lq l) ∧ V w0 w' F := by
 have Vm : l.length ≤ 9223372036854775807 := by have := (hr _ H).open; obtain ⟨a, c, e, h3, h4, _⟩ := this; omega
 have hcl := aai (l := l)
 refine iG func51 ntmps51 ?_
 refine iH (fV O (gI O (iH (fV O (wu O (aY ?_))))))
 refine fF [(0, _)] (fun (⟨i, n⟩ : Nat × Int) => [(4, .int .i64 n), (5, .int .i64 (i : Int))]) (fun (⟨i, n⟩ : Nat × Int) W => (i ≤ (vF l).length ∧ (0 ≤ n ∧ n ≤ 1000000) ∧ n = ((vF l).take i).foldl GK 0) ∧ V w0 W F) (fun (⟨i, n⟩ : Nat × Int) => (vF l).length - i) ((0, 0)) lG qG ⟨⟨by omega, by omega, O⟩, H⟩ ?_
 rintro ⟨i, n⟩ w1 ⟨⟨hi, hn, hE⟩, HL⟩
 dsimp only [List.cons_append, List.nil_append]
 have hca := aah (l := l) hi
 refine aP (bT O (bP O (aV (iQ (hr _ (HL)) ay O) (aV (gY O O) (jF O (fun h1 => ?_) (fun h1 => ?_))))))
 ·(try simp only [Z] at h1)
  refine bC (bP O (bC (bP O (bC ?_))))
  obtain ⟨bv, ov, cv, ev⟩ := fB.pJ (hr _ (HL)) (by omega)
  cases ev
  refine aV (dD ay bQ O O (by omega)) (bC ?_)
  refine aV (eG (bY aZ O) O (by first | exact fB.kX (hr _ (HL)) (by omega) | exact fB.uQ (hr _ (HL)) (by omega) | exact fB.uG (hr _ (HL)) (by omega))) ?_
  refine bC (aV (ku O O) (jE O O (jF O (fun h2 => ?_) (fun h2 => ?_))))
  ·(try simp only [Z] at h2)
   refine bC (bP O (bC (bP O (bC (aV (dD ay bQ O O (by omega)) (bC ?_))))))
   refine aV (eG (bY aZ O) O (by first | exact fB.kX (hr _ (HL)) (by omega) | exact fB.uQ (hr _ (HL)) (by omega) | exact fB.uG (hr _ (HL)) (by omega))) ?_
   refine bC (aV (oN O O) (jE O O (jF O (fun h3 => ?_) (fun h3 => ?_))))
   ·(try simp only [Z] at h3)
    refine bC (bP O (bC (aV (iV O O) (bC (jF O (fun h4 => ?_) (fun h4 => ?_))))))
    ·(try simp only [Z] at h4)
     refine bJ (bJ (bJ (bJ (bJ (bC (jE O O (jE O O (iJ (Il (gq (aY (aP ?_))))))))))))
     have hlt : i < (vF l).length := by omega
     refine aC (bP O (aV (YO O O (by omega)) (jG O O (aV (dD ay bQ O O (by omega)) ?_))))
     refine aV (eG (bY aZ O) O (by first | exact fB.kX (hr _ (HL)) (by omega) | exact fB.uQ (hr _ (HL)) (by omega) | exact fB.uG (hr _ (HL)) (by omega))) ?_
     refine aV (LJ (Ug O O) (congrArg (Value.int .i32) (Fz (by omega)))) ?_
     refine aV (yL O (by rw [underlying21]; rfl) aK (QZ (by omega))) ?_
     refine aV (fQ O O (by omega)) (aV (CB O O) (gI O (aC (bP O (aV (fQ O O (by omega)) (fV O (bM (aJ ?_))))))))
     refine dK ((i + 1, GK n (l.getD i 0))) ?_ ?_ ?_ ?_
     ·exact qG
     ·exact lG
     ·(try dsimp only)
      first | done | exact ⟨⟨by omega, Q5 hn (by omega), by rw [Nq hlt, ← hE]⟩, HL⟩
     ·(try dsimp only); omega
    ·(try simp only [Z] at h4)
     refine bC (bP O (bC (bP O (bC (aV (dD ay bQ O O (by omega)) (bC ?_))))))
     refine aV (eG (bY aZ O) O (by first | exact fB.kX (hr _ (HL)) (by omega) | exact fB.uQ (hr _ (HL)) (by omega) | exact fB.uG (hr _ (HL)) (by omega))) ?_
     refine bC (aV (iU O O) (bC (iL O O (jE O O (je O (fun h5 => ?_) (fun h5 => ?_))))))
     ·(try simp only [Z] at h5)
      refine gq (aY (aP ?_))
      have hlt : i < (vF l).length := by omega
      refine aC (bP O (aV (YO O O (by omega)) (jG O O (aV (dD ay bQ O O (by omega)) ?_))))
      refine aV (eG (bY aZ O) O (by first | exact fB.kX (hr _ (HL)) (by omega) | exact fB.uQ (hr _ (HL)) (by omega) | exact fB.uG (hr _ (HL)) (by omega))) ?_
      refine aV (LJ (Ug O O) (congrArg (Value.int .i32) (Fz (by omega)))) ?_
      refine aV (yL O (by rw [underlying21]; rfl) aK (QZ (by omega))) ?_
      refine aV (fQ O O (by omega)) (aV (CB O O) (gI O (aC (bP O (aV (fQ O O (by omega)) (fV O (bM (aJ ?_))))))))
      refine dK ((i + 1, GK n (l.getD i 0))) ?_ ?_ ?_ ?_
      ·exact qG
      ·exact lG
      ·(try dsimp only)
       first | done | exact ⟨⟨by omega, Q5 hn (by omega), by rw [Nq hlt, ← hE]⟩, HL⟩
      ·(try dsimp only); omega
     ·(try simp only [Z] at h5)
      refine dB (aI (aI (bf (aX (aP ?_)))))
      have hlt : i = (vF l).length := by omega
      refine aC (jG O O (aV (tN (hr _ (HL)) ay bQ O O O (by omega)) ?_))
      refine bP O (fV O (fC O (LC results51 O O ?_)))
      exact ⟨_, by rw [hE, hlt, FB], fun W HW => by unfold lq; rw [← hlt]; exact (hr W HW).from (by omega), HL⟩
   ·(try simp only [Z] at h3)
    refine bJ (bJ (bJ (mW (mW (mW (mW (mW (bJ (iL O O (iJ (qF (dB (aI (aI (bf (aX (aP ?_)))))))))))))))))
    have hlt : i = (vF l).length := by omega
    refine aC (jG O O (aV (tN (hr _ (HL)) ay bQ O O O (by omega)) ?_))
    refine bP O (fV O (fC O (LC results51 O O ?_)))
    exact ⟨_, by rw [hE, hlt, FB], fun W HW => by unfold lq; rw [← hlt]; exact (hr W HW).from (by omega), HL⟩
  ·(try simp only [Z] at h2)
   refine bJ (bJ (bJ (bJ (bJ (iL O O (bP O (bJ (bJ (bJ (mW (mW (mW (mW (mW (bJ (iL O O (iJ (qF (dB (aI (aI (bf (aX (aP ?_))))))))))))))))))))))))
   have hlt : i = (vF l).length := by omega
   refine aC (jG O O (aV (tN (hr _ (HL)) ay bQ O O O (by omega)) ?_))
   refine bP O (fV O (fC O (LC results51 O O ?_)))
   exact ⟨_, by rw [hE, hlt, FB], fun W HW => by unfold lq; rw [← hlt]; exact (hr W HW).from (by omega), HL⟩
 ·(try simp only [Z] at h1)
  refine bJ (bJ (bJ (bJ (bJ (iL O O (bP O (bJ (bJ (bJ (bJ (bJ (iL O O (bP O (bJ (bJ (bJ (mW (mW (mW (mW (mW (bJ (iL O O (iJ (qF (dB (aI (aI (bf (aX (aP ?_)))))))))))))))))))))))))))))))
  have hlt : i = (vF l).length := by omega
  refine aC (jG O O (aV (tN (hr _ (HL)) ay bQ O O O (by omega)) ?_))
  refine bP O (fV O (fC O (LC results51 O O ?_)))
  exact ⟨_, by rw [hE, hlt, FB], fun W HW => by unfold lq; rw [← hlt]; exact (hr W HW).from (by omega), HL⟩
end
end Go.Proofs.YtpdeedplgmbopaaGreatDoor
end
section
namespace Go.Proofs.YtpdeedplgmbopaaGreatDoor
open Go.RowKit Go.Lib
section
variable {P : Program} {N : Sh} {Q : Exit → Act → World → Prop} {L : List (Nat × Value)} {w : World}
end
def sb (s : ByteArray) (i : Nat) : Int := ((s.data.toList.getD i 0).toNat : Nat)
theorem aaj {s : ByteArray} {i : Nat} (h : i < s.size) : ((s[i]'h).toNat : Int) = sb s i := by
  unfold sb
  rw [List.getD_eq_getElem?_getD, List.getElem?_eq_getElem (by rw [Array.length_toList]; exact h)]
  rfl
section
variable {P : Program} {L : List (Nat × Value)} {w w0 : World} {ty : TypeId} {x y : Operand} {F : HP}
theorem EK {t : TypeId} {s : ByteArray} {k : IntKind} {i : Int} (ht : P.underlying t = some .string) (hx : ev L x = some (.string s)) (hy : ev L y = some (.int k i)) (h : 0 ≤ i ∧ i < s.size) :
    Val P L (.index t x y) ty w (.int .u8 (sb s i.toNat)) w := fun ρ hρ _ _ _ _ => by
  simp only [execOp, hρ _ _ hx, hρ _ _ hy, Sem.run_bind]
  rw [run_index_string (w := w) t s k i ht, dif_pos h, aaj]
  rfl
theorem abU {f : FuncId} {args : List Operand} {ts : Array TypeId} {vs : List Value} {fn : Func} {e : Array Value → Sem Value} {v : Value} (ha : DN L args = some vs)
    (hf : P.funcs[f]? = some fn) (hname : (fn.name == "runtime.NumGoroutine") = false) (hb : fn.body.isNone = true) (hn : Extern.findNext fn = none) (he : Extern.find fn = some e) (hr : (e vs.toArray).run P w = .ok v w) :
    Val P L (.call ⟨.value (.func f), args.toArray, ts⟩) ty w v w := fun ρ hρ _ _ _ _ => by
  have hg : ρ (.func f) = .func (.func f) #[] #[] := hρ _ _ rfl
  have hc := run_callFunc_extern hf hname hb hn he vs.toArray w
  rw [hr] at hc
  simp [execOp, resolve, invoke, ZC hρ _ _ ha, hg, Deferred.ofValue]
  exact hc
def aeD (s : ByteArray) (k : Nat) : Value := if k < s.size then .tuple #[.bool true, .int .i64 k, .int .i32 (sb s k)] else .tuple #[.bool false]
end
theorem Zb {s : ByteArray} (hs : ∀ c ∈ s.data.toList, c.toNat < 128) (i : Nat) : 0 ≤ sb s i ∧ sb s i < 128 := by
  unfold sb
  rw [List.getD_eq_getElem?_getD]
  by_cases h : i < s.data.toList.length
  · rw [List.getElem?_eq_getElem h]
    have := hs _ (List.getElem_mem h)
    show 0 ≤ ((s.data.toList[i].toNat : Nat) : Int) ∧ ((s.data.toList[i].toNat : Nat) : Int) < 128
    omega
  · rw [List.getElem?_eq_none (by omega)]; decide
section
variable {w0 w : World} {F : HP} {s : ByteArray} {r c : Int}
theorem II : gJ Tryz.prog 143 #[.string s, .int .u8 c] w fun v w' => v = .int .i64 (indexByte s.data.toList c.toNat.toUInt8) ∧ w = w' := by
  refine nT Tryz.func143 Tryz.ntmps143 ?_
  refine jr O (bT O (bP O (aV (abU O Tryz.func180 O O (by kernel_rfl) (by kernel_rfl) (run_indexByteString _ _ _)) (fC O (dH Tryz.results143 O ?_)))))
  exact ⟨O, O⟩
theorem Dn : gJ Tryz.prog 98 #[.string s, .int .u8 c] w fun v w' => v = .int .i64 (indexByte s.data.toList c.toNat.toUInt8) ∧ w = w' := by
  refine nT Tryz.func98 Tryz.ntmps98 ?_
  refine jr O (bT O (bP O (dY O Tryz.func143 (II) ?_)))
  rintro _ _ ⟨rfl, rfl⟩
  refine fC O (dH Tryz.results98 O ?_)
  exact ⟨O, O⟩
def ae0 (s : ByteArray) (r : Int) : Int := if 0 ≤ r ∧ r < 128 then indexByte s.data.toList r.toNat.toUInt8 else -1
end
theorem X6 {l : List UInt8} {c : UInt8} : 0 ≤ indexByte l c ↔ c ∈ l := by
  induction l with
  | nil => simp [indexByte]
  | cons b l ih =>
    have h1 := indexByte_ge l c
    unfold indexByte
    by_cases hb : b = c
    · simp [hb]
    · rw [if_neg (by simpa using hb)]
      by_cases h2 : indexByte l c = -1
      · rw [if_pos (by simpa using h2)]
        have : c ∉ l := fun h => by have := ih.2 h; omega
        simp [this, Ne.symm hb]
      · rw [if_neg (by simpa using h2)]
        have : c ∈ l := ih.1 (by omega)
        simp [this]; omega
def Ec (s : ByteArray) : List Int := s.data.toList.map fun b => (b.toNat : Int)
def Asc (s : ByteArray) : Prop := ∀ x ∈ s.data.toList, 0 < x.toNat ∧ x.toNat < 128
instance (s : ByteArray) : Decidable (Asc s) := by unfold Asc; infer_instance
theorem xP {s : ByteArray} (hs : Asc s) {r : Int} : (0 < r ∧ r < 128 ∧ 0 ≤ indexByte s.data.toList r.toNat.toUInt8) ↔ r ∈ Ec s := by
  rw [X6]
  unfold Ec
  rw [List.mem_map]
  constructor
  · rintro ⟨h1, h2, h3⟩
    refine ⟨_, h3, ?_⟩
    rw [show r.toNat.toUInt8.toNat = r.toNat % 256 from by simp [Nat.toUInt8]]
    omega
  · rintro ⟨b, hb, rfl⟩
    have := hs b hb
    refine ⟨by omega, by omega, ?_⟩
    rw [show ((b.toNat : Int)).toNat.toUInt8 = b from by rw [Int.toNat_natCast]; simp [Nat.toUInt8]]
    exact hb
section
variable {w0 w : World} {F : HP} {r : Int} {s : ByteArray}
theorem Dp (hs : Asc s) : gJ Tryz.prog 50 #[.int .i32 r, .string s] w fun v w' => v = .bool (decide (r ∈ Ec s)) ∧ w = w' := by
  have hi := xP hs (r := r)
  refine nT Tryz.func50 Tryz.ntmps50 ?_
  refine jr O (bT O (aV (iV O O) (jF O (fun h1 => ?_) (fun h1 => ?_))))
  · (try simp only [Z] at h1)
    try (exfalso; first | contradiction | omega)
    all_goals
      refine bC (bP O (bC (aV (gY O O) (jE O O (jF O (fun h2 => ?_) (fun h2 => ?_))))))
      · (try simp only [Z] at h2)
        try (exfalso; first | contradiction | omega)
        all_goals
          refine bC (bP O (bC (bP O (bC ?_))))
          refine aV (JA O (by rw [Tryz.underlying21]; rfl) Tryz.underlying5) ?_
          refine bC (dY O Tryz.func98 (Dn) ?_)
          rintro _ _ ⟨rfl, rfl⟩
          refine bC (aV (ku O O) (jE O O (fC O (dH Tryz.results50 O ?_))))
          refine ⟨congrArg Value.bool ?_, O⟩; first | exact (decide_eq_false (fun c => by have := (xP hs).2 c; omega)).symm | (rw [show r % 256 = r from by omega]; exact decide_eq_decide.2 ⟨fun c => (xP hs).1 ⟨by omega, by omega, c⟩, fun c => ((xP hs).2 c).2.2⟩)
      · (try simp only [Z] at h2)
        try (exfalso; first | contradiction | omega)
        all_goals
          refine bJ (bJ (bJ (bJ (bJ (iL O O (fC O (dH Tryz.results50 O ?_)))))))
          refine ⟨congrArg Value.bool ?_, O⟩; first | exact (decide_eq_false (fun c => by have := (xP hs).2 c; omega)).symm | (rw [show r % 256 = r from by omega]; exact decide_eq_decide.2 ⟨fun c => (xP hs).1 ⟨by omega, by omega, c⟩, fun c => ((xP hs).2 c).2.2⟩)
  · (try simp only [Z] at h1)
    try (exfalso; first | contradiction | omega)
    all_goals
      refine bJ (bJ (iL O O (bP O (bJ (bJ (bJ (bJ (bJ (iL O O (fC O (dH Tryz.results50 O ?_)))))))))))
      refine ⟨congrArg Value.bool ?_, O⟩; first | exact (decide_eq_false (fun c => by have := (xP hs).2 c; omega)).symm | (rw [show r % 256 = r from by omega]; exact decide_eq_decide.2 ⟨fun c => (xP hs).1 ⟨by omega, by omega, c⟩, fun c => ((xP hs).2 c).2.2⟩)
end
end Go.Proofs.YtpdeedplgmbopaaGreatDoor
end
section
namespace Go.Proofs.YtpdeedplgmbopaaGreatDoor
open Go.RowKit
open _root_.Go.Proofs.Tryz
def Bl (st : Int) (n i : Int) : Int := if st = 1 then n - i else i + 1
theorem GL {st n i : Int} (h : st = 1 ∨ st = -1) : Bl st n (i + st) + 1 = Bl st n i := by
  unfold Bl; rcases h with rfl | rfl
  · rw [if_pos rfl, if_pos rfl]; omega
  · rw [if_neg (by decide), if_neg (by decide)]; omega
theorem Ed {st n i : Int} (h : st = 1 ∨ st = -1) (h0 : 0 ≤ i) (h1 : i < n) : 0 < Bl st n i ∧ Bl st n i ≤ n := by
  unfold Bl; rcases h with rfl | rfl
  · rw [if_pos rfl]; omega
  · rw [if_neg (by decide)]; omega
theorem Vs (key : Int) : lU key = 1 ∨ lU key = -1 := by unfold lU; split <;> simp
theorem BN {c m x : Int} (h : ¬ x = c) : uf c m x = some m := if_neg h
theorem PO {c m x : Int} (h : x = c) (h2 : 0 < m - 1) : uf c m x = some (m - 1) := by unfold uf; rw [if_pos h, if_neg (by omega)]
theorem Ee {c m x : Int} (h : x = c) (h2 : m - 1 ≤ 0) : uf c m x = none := by unfold uf; rw [if_pos h, if_pos (by omega)]
theorem oQ {l : List Int} {x n key c i : Int} (h : pW (lU key) (uf c) l n (x + lU key) = some i) : wG l x key c n = (if key = 116 ∨ key = 84 then i - lU key else i, decide (0 < lU key), true) := by unfold wG; rw [h]
theorem xw {l : List Int} {x n key c : Int} (h : pW (lU key) (uf c) l n (x + lU key) = none) : wG l x key c n = (0, false, false) := by unfold wG; rw [h]
section
variable {w0 w : World} {F : HP} {v : Value} {l : List Int} {x n key c r : Int} {s : ByteArray}
theorem PS (H : V w0 w F) (hr : jq w0 F .i32 v l) (hx : 0 ≤ x ∧ x ≤ l.length) (hn : 1 ≤ n) (hn2 : n ≤ 9223372036854775807) (Vm : l.length ≤ 4611686018427387904) : gJ prog 42 #[v, .int .i64 x, .int .i32 key, .int .i32 c, .int .i64 n] w fun u w' => u = PN (wG l x key c n) ∧ V w0 w' F := by
 have hst := Vs key
 refine acR func42 ntmps42 ?_
 refine iH (fV O (fV O (gI O (jr O ?_))))
 refine kS [(0, _), (1, _), (2, _), (3, _), (4, _)] (fun (_ : Unit) => [(13, .int .i64 (lU key))]) (fun (_ : Unit) W => V w0 W F) sb5 ?_ ?_
 ·rintro _ w1 HL
  dsimp only [List.cons_append, List.nil_append]
  refine aP (bT O (bP O (aV (fQ O O (by omega)) (gI O (aY ?_)))))
  refine fF [(0, _), (2, _), (3, _), (13, _)] (fun (⟨i, m⟩ : Int × Int) => [(4, .int .i64 m), (14, .int .i64 i)]) (fun (⟨i, m⟩ : Int × Int) W => ((-1 ≤ i ∧ i ≤ l.length + 1) ∧ (1 ≤ m ∧ m ≤ n) ∧ pW (lU key) (uf c) l n (x + lU key) = pW (lU key) (uf c) l m i) ∧ V w0 W F) (fun (⟨i, m⟩ : Int × Int) => (Bl (lU key) l.length i).toNat) ((x + lU key, n)) J6 qG ⟨⟨by omega, by omega, O⟩, HL⟩ ?_
  rintro ⟨i, m⟩ w2 ⟨⟨hi, hm, hE⟩, HL⟩
  dsimp only [List.cons_append, List.nil_append]
  have hms := GL (n := l.length) (i := i) hst
  have hmp := fun h0 h1 => Ed (n := l.length) (i := i) hst h0 h1
  refine aP (bT O (aV (ku O O) (jF O (fun h1 => ?_) (fun h1 => ?_))))
  ·(try simp only [Z] at h1)
   refine bC (bP O (bC (bP O (bC (aV (iQ (hr _ (HL)) ay O) (bC (aV (gY O O) (jE O O (je O (fun h2 => ?_) (fun h2 => ?_))))))))))
   ·(try simp only [Z] at h2)
    refine gq (aP (aY (aP (bT O (bP O ?_)))))
    obtain ⟨bv, ov, cv, ev⟩ := fB.pJ (hr _ (HL)) (by omega)
    cases ev
    refine aV (dD ay bQ O O (by omega)) ?_
    refine aV (eG (bY aZ O) O (by first | exact fB.kX (hr _ (HL)) (by omega) | exact fB.uQ (hr _ (HL)) (by omega) | exact fB.uG (hr _ (HL)) (by omega))) ?_
    refine bP O (aV (iU O O) (je O (fun h3 => ?_) (fun h3 => ?_)))
    ·(try simp only [Z] at h3)
     have hf := BN (m := m) h3
     refine dB (aI (bf (aX (aC (jG O O (aV (fQ O O (by omega)) (fV O (bM ?_))))))))
     refine dK (_, _) qG J6 (by (try dsimp only); exact ⟨⟨by omega, by omega, hE.trans (Gz hst (by omega) (by omega) hf)⟩, HL⟩) ?_
     ·(try dsimp only); have := hmp (by omega) (by omega); omega
    ·(try simp only [Z] at h3)
     have heq : l.getD i.toNat 0 = c := by have h9 := h3; omega
     refine gq (aP (bT O (aV (kU O O (by omega)) (gI O (bT O (aV (iV O O) (je O (fun h4 => ?_) (fun h4 => ?_))))))))
     ·(try simp only [Z] at h4)
      have hf := PO heq h4
      refine dB (aI (bf (aX (aC (jG O O (aV (fQ O O (by omega)) (fV O (bM ?_))))))))
      refine dK (_, _) qG J6 (by (try dsimp only); exact ⟨⟨by omega, by omega, hE.trans (Gz hst (by omega) (by omega) hf)⟩, HL⟩) ?_
      ·(try dsimp only); have := hmp (by omega) (by omega); omega
     ·(try simp only [Z] at h4)
      have hf := Ee heq h4
      refine gq (aP (bT O (aV (dR O O) (jF O (fun h5 => ?_) (fun h5 => ?_)))))
      ·(try simp only [Z] at h5)
       refine bJ (bJ (jE O O (iJ (Il (aC (jG O O (aV (kU O O (by omega)) (gI O (bT O (bP O (aV (iV O O) (fV O (fV O (fC O (aT (aF (aF (aT (aF ?_)))))))))))))))))))
       refine gX (.inl O) results42 O O O ?_
       refine ⟨?_, HL⟩
       rw [oQ (hE.trans (AB (by omega) (by omega) hf))]
       first | (rw [if_pos (by omega)]; rfl) | (rw [if_neg (by omega)]; rfl)
      ·(try simp only [Z] at h5)
       refine bC (bP O (bC (aV (dR O O) (iL O O (je O (fun h6 => ?_) (fun h6 => ?_))))))
       ·(try simp only [Z] at h6)
        refine aC (jG O O (aV (kU O O (by omega)) (gI O (bT O (bP O (aV (iV O O) (fV O (fV O (fC O (aT (aF (aF (aT (aF ?_))))))))))))))
        refine gX (.inl O) results42 O O O ?_
        refine ⟨?_, HL⟩
        rw [oQ (hE.trans (AB (by omega) (by omega) hf))]
        first | (rw [if_pos (by omega)]; rfl) | (rw [if_neg (by omega)]; rfl)
       ·(try simp only [Z] at h6)
        refine gq (bT O (bP O (aV (iV O O) (fV O (fV O (fC O (aT (aF (aF (aT (aF ?_)))))))))))
        refine gX (.inl O) results42 O O O ?_
        refine ⟨?_, HL⟩
        rw [oQ (hE.trans (AB (by omega) (by omega) hf))]
        first | (rw [if_pos (by omega)]; rfl) | (rw [if_neg (by omega)]; rfl)
   ·(try simp only [Z] at h2)
    refine dB (aI (aI (bf (aX (iH (fV O (fV O (fC O ?_))))))))
    refine gX (.inl O) results42 O O O ?_
    exact ⟨by rw [xw (hE.trans (AA (by omega)))]; rfl, HL⟩
  ·(try simp only [Z] at h1)
   refine bJ (bJ (bJ (bJ (iL O O (iJ (qF (dB (aI (aI (bf (aX (iH (fV O (fV O (fC O ?_)))))))))))))))
   refine gX (.inl O) results42 O O O ?_
   exact ⟨by rw [xw (hE.trans (AA (by omega)))]; rfl, HL⟩
 ·skip
  refine bT O (aV (dR O O) (jF O (fun h7 => ?_) (fun h7 => ?_)))
  ·(try simp only [Z] at h7)
   refine bJ (bJ (jE O O (iJ (Il (aC (fV O (bM ?_)))))))
   refine dn (()) ?_ ?_ ?_
   ·exact (Sub.jC O (by congr 1; unfold lU; first | rw [if_pos (by omega)] | rw [if_neg (by omega)]) (Sub.nil _))
   ·exact sb5
   ·(try dsimp only)
    first | done | exact H
  ·(try simp only [Z] at h7)
   refine bC (bP O (bC (aV (dR O O) (iL O O (je O (fun h8 => ?_) (fun h8 => ?_))))))
   ·(try simp only [Z] at h8)
    refine aC (fV O (bM ?_))
    refine dn (()) ?_ ?_ ?_
    ·exact (Sub.jC O (by congr 1; unfold lU; first | rw [if_pos (by omega)] | rw [if_neg (by omega)]) (Sub.nil _))
    ·exact sb5
    ·(try dsimp only)
     first | done | exact H
   ·(try simp only [Z] at h8)
    refine bZ ?_
    refine dn (()) ?_ ?_ ?_
    ·exact (Sub.jC O (by congr 1; unfold lU; first | rw [if_pos (by omega)] | rw [if_neg (by omega)]) (Sub.nil _))
    ·exact sb5
    ·(try dsimp only)
     first | done | exact H
end
end Go.Proofs.YtpdeedplgmbopaaGreatDoor
end
section
namespace Go.Proofs.YtpdeedplgmbopaaGreatDoor
open Go.RowKit
def abV (l : List pR) : Int := if l.any (fun x => decide (16384 < x.1.size)) then 3 else if l.any (fun x => decide (x.2 < 0)) then 1 else 0
section
variable {P : Program} {L : List (Nat × Value)} {w0 w : World} {F : HP} {p : Nat} {hl l : List pR} {base most : Int} {v : Value}
def Zc (hl : List pR) (most : Int) : Nat := hl.length - most.toNat
def adt (hl : List pR) (most : Int) (l : List pR) : List pR := if abV l = 0 then (hl ++ l).drop (Zc (hl ++ l) most) else hl
def adu (hl : List pR) (base most : Int) (l : List pR) : Int := if abV l = 0 then base + Zc (hl ++ l) most else base
end
def aeE (l : List pR) : List pR := adt [] 4096 l
def aeF (l : List pR) : Int := adu [] 1 4096 l
end Go.Proofs.YtpdeedplgmbopaaGreatDoor
end
section
namespace Go.Proofs.YtpdeedplgmbopaaGreatDoor
open Go.RowKit
open _root_.Go.Proofs.Tryz
theorem AU.cut {I : Hp} {v : Value} {sz n : Nat} {xs : List Value} (hr : AU I sz v n xs) {l h : Nat} (h1 : l ≤ h) (h2 : h ≤ n) : AU I sz (wR sz l h v) (h - l) ((xs.drop (l * sz)).take ((h - l) * sz)) := by
  obtain ⟨hl, a, c, rfl, hc1, hc2, hc⟩ := hr
  refine ⟨?_, FT a l c sz, c - l, rfl, by omega, by omega, fun hp => ?_⟩
  · rw [List.length_take, List.length_drop, hl, ← Nat.sub_mul]
    exact Nat.min_eq_left (Nat.mul_le_mul_right _ (by omega))
  · obtain ⟨b, o, cs, e, fr, rfl, hI, hcell⟩ := hc (by omega)
    have : ¬ c = l := by omega
    refine ⟨b, o + l * sz, cs, e, fr, by simp [FT, this, vP], hI, fun j hj => ?_⟩
    have e1 : l * sz + (h - l) * sz = h * sz := by rw [← Nat.add_mul]; congr 1; omega
    have e2 : h * sz ≤ n * sz := Nat.mul_le_mul_right _ h2
    have := hcell (l * sz + j) (by omega)
    rw [Nat.add_assoc, this, List.getD_eq_getElem?_getD, List.getD_eq_getElem?_getD, List.getElem?_take, if_pos hj, List.getElem?_drop]
def hlK (v : Value) (l : List pR) : HP := know (fun I => AU I 2 v l.length (l.flatMap zq)) fun _ _ hl h => h.mono hl
def iY (p : Nat) (hl : List pR) (base most : Int) : HP := rQ fun (v : Value) => fact (HOk hl base most) • dL p (.cells #[v, .int .i64 base, .int .i64 most] 155 (0, 0)) • hlK v hl
section
variable {P : Program} {L : List (Nat × Value)} {w0 w : World} {F : HP} {p : Nat} {hl l : List pR} {base most : Int} {v : Value}
theorem V.GN (H : V w0 w (hlK v l • F)) : Rd w 2 v l.length (l.flatMap zq) := let ⟨I, h, hI⟩ := H.qC; h.rd hI
theorem V.JB (H : V w0 w (Row 218 2 v l.length (l.flatMap zq) • F)) : V w0 w (hlK v l • F) := by
  have hl := H.wY
  rcases H.tK with ⟨a, rfl, h1, h2, H1⟩ | ⟨g, o, c, cur, rfl, h2, h3, h4, h5, H1⟩
  · exact H1.uY fun I => ⟨hl, a, 0, by rw [h1], by omega, by decide, fun h => by omega⟩
  · exact H1.freeze.DR (oC (fun I hI => ⟨hl, _, c, rfl, h2, h3, fun _ => ⟨g, o, cur, _, (0, 0), rfl, hI, h5⟩⟩) F)
theorem V.Q7 (H : V w0 w (iY p hl base most • F)) : ∃ v, HOk hl base most ∧ V w0 w (dL p (.cells #[v, .int .i64 base, .int .i64 most] 155 (0, 0)) • hlK v hl • F) := by
  obtain ⟨v, H⟩ := H.lQ
  obtain ⟨h, H⟩ := H.flat.fact
  exact ⟨v, h, H.flat⟩
theorem V.Dq (h : HOk hl base most) (H : V w0 w (dL p (.cells #[v, .int .i64 base, .int .i64 most] 155 (0, 0)) • hlK v hl • F)) : V w0 w (iY p hl base most • F) :=
  V.iy v (V.deep (V.kD h H.deep))
theorem aak {l : List pR} {k : Nat} (hk : k < l.length) : (l.flatMap zq).getD (k * 2 + 0) undef = .string (l.getD k default).1 := by
  have h := congrArg (fun x => x.getD 0 undef) (rY Ju hk default)
  simp only [List.getD_eq_getElem?_getD, List.getElem?_take, List.getElem?_drop] at h ⊢
  exact h
theorem IJ {n : Int} (H : V w0 w F) (hn : 0 ≤ n ∧ n ≤ 4096) : gJ prog 56 #[.int .i64 n] w fun v w' => ∃ p, v = .tuple #[.pointer (some ⟨p, 0, none⟩), .int .i64 0] ∧ V w0 w' (iY p [] 1 n • F) := by
  refine iG func56 ntmps56 ?_
  refine iH (fV O (wu O (bT O (aV (gY O O) (jF O (fun h1 => ?_) (fun h1 => ?_))))))
  · (try simp only [Z] at h1)
    exfalso; first | contradiction | omega
  · (try simp only [Z] at h1)
    refine bC (bP O (bC (aV (iV O O) (iL O O (je O (fun h2 => ?_) (fun h2 => ?_))))))
    · (try simp only [Z] at h2)
      exfalso; first | contradiction | omega
    · (try simp only [Z] at h2)
      refine gq (bT O ?_)
      refine aV (dS (zl := [.slice none 0 0, .int .i64 0, .int .i64 0]) (pl := [(0, 1), (1, 1), (2, 1)]) [_, _, _] kN zeroValue155 O (fun w => by kernel_rfl) O (.zero (zs := [.slice none 0 0]) O (.on (.on .nil))) O) ?_
      refine jv (iM (l := [_, _, _]) H O O) ?_
      rintro _ w1 ⟨b1, rfl, H1⟩
      refine fV O (fC O (LC results56 O O ?_))
      exact ⟨_, O, V.Dq (v := .slice none 0 0) (hl := []) ⟨by simp, by decide, by decide, by simp; omega, by omega, by simp⟩ ((H1.iO none).JB (l := [])).swap⟩
theorem E5 (H : V w0 w (iY p hl base most • F)) : gJ prog 113 #[.pointer (some ⟨p, 0, none⟩)] w fun v w' => ∃ q, v = .pointer (some ⟨q, 0, none⟩) ∧ V w0 w' (iY q hl base most • iY p hl base most • F) := by
 refine iG func113 ntmps113 ?_
 refine jr O (aP ?_)
 obtain ⟨Pz, AY, zD⟩ := (H).Q7
 have hkl := AY.1
 have Nr := @QO hl
 have Pv := zD.drew
 have nV := V.kp (Pv.f2.f2)
 refine yw [3, 8, 12] nV O (jB 0 O nV O (kJ 1 O nV O (gU 2 O nV 0 kN O sizeOf149 O (jT 3 O nV (fun W hW => kC fD O ((Kp.h hW)).get.2 O) (jB 5 O nV O (kJ 6 O nV O (gU 7 O nV 1 kN O sizeOf2 O (jT 8 O nV (fun W hW => kC underlying2 O ((Kp.h hW)).get.2 O) (jB 9 O nV O (kJ 10 O nV O (gU 11 O nV 2 kN O aj O (jT 12 O nV (fun W hW => kC aK O ((Kp.h hW)).get.2 O) (oq 4 O (fU (Pv.iO none) fD aal O O O ((Pv.f2).GN) (by assumption) (by omega) (by omega)) ?_)))))))))))))
 rintro l2 w2 H2
 have xJ := V.kp (H2.f3.f3.f3)
 refine dV xJ (fun W hW => (Kp.h hW).right.f2.f2) ?_
 refine ji 13 O xJ (fun _ => dS (zl := [.slice none 0 0, .int .i64 0, .int .i64 0]) (pl := [(0, 1), (1, 1), (2, 1)]) [_, _, _] kN zeroValue155 O (fun w => by kernel_rfl) O (.one (Rd.one ((H2).aS)) (.on (.on .nil))) O) ?_
 refine oq 14 O (iM (l := [_, _, _]) H2 O O) ?_
 rintro _ w3 ⟨b3, rfl, H3⟩
 have yQ := V.kp (H3.f4.f4.f4.f4)
 refine gV yQ (by kernel_rfl) ?_
 refine ji 15 O yQ (fun _ => dN O) (qU (aX (lS (dH results113 O ?_))))
 have ZP := H3.f4.f4
 have ZQ := V.Dq AY ZP
 have HQ := ZQ.f2.f3
 rw [List.nil_append, Nat.zero_add] at HQ
 exact ⟨_, O, V.Dq AY HQ.JB.swap⟩
end
end Go.Proofs.YtpdeedplgmbopaaGreatDoor
end
