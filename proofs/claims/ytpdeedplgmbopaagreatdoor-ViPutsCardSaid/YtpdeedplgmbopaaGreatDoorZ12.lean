import Derived.Test.YtpdeedplgmbopaaGreatDoorZ4
import Derived.Test.YtpdeedplgmbopaaGreatDoorZ11
import Derived.Test.YtpdeedplgmbopaaGreatDoorZ3
import Derived.Laws.BitsLemmas
import Derived.Lib.RuneBytes
import Derived.Scope
import Derived.Laws.RangeString
import Derived.Lib.OthersKept
import Derived.Lib.Bytealg
import Derived.Test.YtpdeedplgmbopaaGreatDoorProg
import Derived.Test.YtpdeedplgmbopaaGreatDoorZ2
set_option linter.unusedSimpArgs false
set_option linter.unusedVariables false
/- Texts of mine, joined, their names in short: VW3 VW4 VS Bits VN Str StrF VI. -/
section
namespace Go.Proofs.YtpdeedplgmbopaaGreatDoor
open Go.RowKit
open _root_.Go.Proofs.Tryz
section
variable {w0 w : World} {F : HP} {r x : Int} {big : Bool} {l : List Int} {v : Value}
theorem Xv (H : V w0 w F) (hr : jF w0 F .i32 v l) (hT : Aq w0) (hx0 : 0 ≤ x) (hx1 : x ≤ l.length) : iE prog 95 #[v, .int .i64 x, .bool big] w fun v' w' => v' = .int .i64 (Ai l x big) ∧ V w0 w' F := by
 have Ym : l.length ≤ 9223372036854775807 := by have := (hr _ H).open; obtain ⟨a, c, e, h3, h4, _⟩ := this; omega
 refine zT func95 ntmps95 ?_
 refine jQ O (aN (bQ O (bT O (Z (iM (hr _ (H)) aj O) (Z (fZ O O) (jB O (fun h1 => ?_) (fun h1 => ?_)))))))
 ·(try simp only [aA] at h1)
  refine bQ O (bT O ?_)
  obtain ⟨bv, ov, cv, ev⟩ := gJ.rM (hr _ (H)) (by omega)
  cases ev
  refine Z (dP aj bZ O O (by omega)) ?_
  refine Z (fK (dA bG O) O (by first | exact gJ.ni (hr _ (H)) (by omega) | exact gJ.yc (hr _ (H)) (by omega) | exact gJ.yx (hr _ (H)) (by omega))) ?_
  refine bT O (dS O func142 (nT H hT) ?_)
  rintro _ w1 ⟨rfl, H1⟩
  refine fG O (bQ O (Z (ig O O) (jB O (fun h2 => ?_) (fun h2 => ?_))))
  ·(try simp only [aA] at h2)
   have hk : ¬ dH (l.getD x.toNat 0) big = 0 := h2
   refine aY ?_
   refine gW [(0, _), (2, _), (7, _)] (fun (y : Int) => [(1, .int .i64 y)]) (fun (y : Int) W => ((0 ≤ y ∧ y ≤ l.length) ∧ lG (fun r => dH r big == dH (l.getD x.toNat 0) big) l y = lG (fun r => dH r big == dH (l.getD x.toNat 0) big) l x) ∧ V w0 W F) (fun (y : Int) => (l.length - y).toNat) (x) uK lU ⟨⟨⟨hx0, hx1⟩, O⟩, H1⟩ ?_
   rintro y w2 ⟨⟨⟨hy0, hyl⟩, hy⟩, HL⟩
   dsimp only [List.cons_append, List.nil_append]
   refine aN (bQ O (bT O (Z (jd aj O) (Z (fZ O O) (jG O (fun h3 => ?_) (fun h3 => ?_))))))
   ·(try simp only [aA] at h3)
    refine bg (bT O (bg (bT O (bg (Z (dP aj bZ O O (by omega)) (bg ?_))))))
    refine Z (fK (dA bG O) O (by first | exact gJ.ni (hr _ (HL)) (by omega) | exact gJ.yc (hr _ (HL)) (by omega) | exact gJ.yx (hr _ (HL)) (by omega))) ?_
    refine bg (bT O (bg (dS O func142 (nT HL hT) ?_)))
    rintro _ w3 ⟨rfl, H3⟩
    refine bg (bT O (bg (Z (dX O O) (iU O O (jB O (fun h4 => ?_) (fun h4 => ?_))))))
    ·(try simp only [aA] at h4)
     have hP : (dH (l.getD y.toNat 0) big == dH (l.getD x.toNat 0) big) = true := by rw [beq_iff_eq]; exact h4
     refine gG (aY (aC (bT O (Z (fJ O O (by omega)) (iK O (bW (aK ?_)))))))
     refine dV (y + 1) ?_ ?_ ?_ ?_
     ·exact lU
     ·exact uK
     ·(try dsimp only)
      first | done | exact ⟨⟨⟨by omega, by omega⟩, (uy hy0 (by omega) hP).symm.trans hy⟩, H3⟩
     ·(try dsimp only); omega
    ·(try simp only [aA] at h4)
     have hP : ¬ (dH (l.getD y.toNat 0) big == dH (l.getD x.toNat 0) big) = true := by rw [beq_iff_eq]; exact h4
     refine dO (aO (aO (bI (aX (aN (aY ?_))))))
     try have e1 : lG (fun r => dH r big == dH (l.getD x.toNat 0) big) l x = y := hy.symm.trans (by first | exact kN (by omega) | exact mP hy0 (by omega) hP)
     refine gW [(0, _)] (fun (z : Int) => [(1, .int .i64 z)]) (fun (z : Int) W => ((0 ≤ z ∧ z ≤ l.length) ∧ Ai l x big = lG (fun r => fV r == 0) l z) ∧ V w0 W F) (fun (z : Int) => (l.length - z).toNat) (_) lU lU ⟨⟨⟨by omega, by omega⟩, by unfold Ai; first | (rw [if_neg (by omega)]; done) | (rw [if_pos (by omega), if_pos hk]; done) | (rw [if_pos (by omega), if_neg hk, e1]; done)⟩, H3⟩ ?_
     rintro z w4 ⟨⟨⟨hz0, hzl⟩, hz⟩, HM⟩
     dsimp only [List.cons_append, List.nil_append]
     refine aN (bQ O (bT O (Z (jd aj O) (Z (fZ O O) (jG O (fun h5 => ?_) (fun h5 => ?_))))))
     ·(try simp only [aA] at h5)
      refine bg (bT O (bg (bT O (bg (Z (dP aj bZ O O (by omega)) (bg ?_))))))
      refine Z (fK (dA bG O) O (by first | exact gJ.ni (hr _ (HM)) (by omega) | exact gJ.yc (hr _ (HM)) (by omega) | exact gJ.yx (hr _ (HM)) (by omega))) ?_
      refine bg (dS O func14 (qJ HM hT) ?_)
      rintro _ w5 ⟨rfl, H5⟩
      refine bg (Z (dX O O) (iU O O (jB O (fun h6 => ?_) (fun h6 => ?_))))
      ·(try simp only [aA] at h6)
       have hQ : (fV (l.getD z.toNat 0) == 0) = true := by rw [beq_iff_eq]; exact h6
       refine gG (aY (aC (bT O (Z (fJ O O (by omega)) (iK O (bW (aK ?_)))))))
       refine dV (z + 1) ?_ ?_ ?_ ?_
       ·exact lU
       ·exact lU
       ·(try dsimp only)
        first | done | exact ⟨⟨⟨by omega, by omega⟩, hz.trans (uy hz0 (by omega) hQ)⟩, H5⟩
       ·(try dsimp only); omega
      ·(try simp only [aA] at h6)
       have hQ : ¬ (fV (l.getD z.toNat 0) == 0) = true := by rw [beq_iff_eq]; exact h6
       refine dO (aO (aO (bI (aX (bQ O (fB O (dL results95 O ?_)))))))
       exact ⟨by rw [hz]; first | rw [kN (by omega)] | rw [mP hz0 (by omega) hQ], H5⟩
     ·(try simp only [aA] at h5)
      refine bF (bF (bF (bF (bF (bF (iH O O (iJ (qo (dO (aO (aO (bI (aX (bQ O (fB O (dL results95 O ?_))))))))))))))))
      exact ⟨by rw [hz]; first | rw [kN (by omega)] | rw [mP hz0 (by omega) hQ], HM⟩
   ·(try simp only [aA] at h3)
    refine bF (bF (bF (bF (bF (bF (bF (bF (iH O O (iJ (qo (dO (aO (aO (bI (aX (aN (aY ?_)))))))))))))))))
    try have e1 : lG (fun r => dH r big == dH (l.getD x.toNat 0) big) l x = y := hy.symm.trans (by first | exact kN (by omega) | exact mP hy0 (by omega) hP)
    refine gW [(0, _)] (fun (z : Int) => [(1, .int .i64 z)]) (fun (z : Int) W => ((0 ≤ z ∧ z ≤ l.length) ∧ Ai l x big = lG (fun r => fV r == 0) l z) ∧ V w0 W F) (fun (z : Int) => (l.length - z).toNat) (_) lU lU ⟨⟨⟨by omega, by omega⟩, by unfold Ai; first | (rw [if_neg (by omega)]; done) | (rw [if_pos (by omega), if_pos hk]; done) | (rw [if_pos (by omega), if_neg hk, e1]; done)⟩, HL⟩ ?_
    rintro z w6 ⟨⟨⟨hz0, hzl⟩, hz⟩, HM⟩
    dsimp only [List.cons_append, List.nil_append]
    refine aN (bQ O (bT O (Z (jd aj O) (Z (fZ O O) (jG O (fun h7 => ?_) (fun h7 => ?_))))))
    ·(try simp only [aA] at h7)
     refine bg (bT O (bg (bT O (bg (Z (dP aj bZ O O (by omega)) (bg ?_))))))
     refine Z (fK (dA bG O) O (by first | exact gJ.ni (hr _ (HM)) (by omega) | exact gJ.yc (hr _ (HM)) (by omega) | exact gJ.yx (hr _ (HM)) (by omega))) ?_
     refine bg (dS O func14 (qJ HM hT) ?_)
     rintro _ w7 ⟨rfl, H7⟩
     refine bg (Z (dX O O) (iU O O (jB O (fun h8 => ?_) (fun h8 => ?_))))
     ·(try simp only [aA] at h8)
      have hQ : (fV (l.getD z.toNat 0) == 0) = true := by rw [beq_iff_eq]; exact h8
      refine gG (aY (aC (bT O (Z (fJ O O (by omega)) (iK O (bW (aK ?_)))))))
      refine dV (z + 1) ?_ ?_ ?_ ?_
      ·exact lU
      ·exact lU
      ·(try dsimp only)
       first | done | exact ⟨⟨⟨by omega, by omega⟩, hz.trans (uy hz0 (by omega) hQ)⟩, H7⟩
      ·(try dsimp only); omega
     ·(try simp only [aA] at h8)
      have hQ : ¬ (fV (l.getD z.toNat 0) == 0) = true := by rw [beq_iff_eq]; exact h8
      refine dO (aO (aO (bI (aX (bQ O (fB O (dL results95 O ?_)))))))
      exact ⟨by rw [hz]; first | rw [kN (by omega)] | rw [mP hz0 (by omega) hQ], H7⟩
    ·(try simp only [aA] at h7)
     refine bF (bF (bF (bF (bF (bF (iH O O (iJ (qo (dO (aO (aO (bI (aX (bQ O (fB O (dL results95 O ?_))))))))))))))))
     exact ⟨by rw [hz]; first | rw [kN (by omega)] | rw [mP hz0 (by omega) hQ], HM⟩
  ·(try simp only [aA] at h2)
   have hk : dH (l.getD x.toNat 0) big = 0 := by have h9 := h2; omega
   refine gG (aN (aY ?_))
   try have e1 : lG (fun r => dH r big == dH (l.getD x.toNat 0) big) l x = y := hy.symm.trans (by first | exact kN (by omega) | exact mP hy0 (by omega) hP)
   refine gW [(0, _)] (fun (z : Int) => [(1, .int .i64 z)]) (fun (z : Int) W => ((0 ≤ z ∧ z ≤ l.length) ∧ Ai l x big = lG (fun r => fV r == 0) l z) ∧ V w0 W F) (fun (z : Int) => (l.length - z).toNat) (_) lU lU ⟨⟨⟨by omega, by omega⟩, by unfold Ai; first | (rw [if_neg (by omega)]; done) | (rw [if_pos (by omega), if_pos hk]; done) | (rw [if_pos (by omega), if_neg hk, e1]; done)⟩, H1⟩ ?_
   rintro z w8 ⟨⟨⟨hz0, hzl⟩, hz⟩, HM⟩
   dsimp only [List.cons_append, List.nil_append]
   refine aN (bQ O (bT O (Z (jd aj O) (Z (fZ O O) (jG O (fun h9 => ?_) (fun h9 => ?_))))))
   ·(try simp only [aA] at h9)
    refine bg (bT O (bg (bT O (bg (Z (dP aj bZ O O (by omega)) (bg ?_))))))
    refine Z (fK (dA bG O) O (by first | exact gJ.ni (hr _ (HM)) (by omega) | exact gJ.yc (hr _ (HM)) (by omega) | exact gJ.yx (hr _ (HM)) (by omega))) ?_
    refine bg (dS O func14 (qJ HM hT) ?_)
    rintro _ w9 ⟨rfl, H9⟩
    refine bg (Z (dX O O) (iU O O (jB O (fun h10 => ?_) (fun h10 => ?_))))
    ·(try simp only [aA] at h10)
     have hQ : (fV (l.getD z.toNat 0) == 0) = true := by rw [beq_iff_eq]; exact h10
     refine gG (aY (aC (bT O (Z (fJ O O (by omega)) (iK O (bW (aK ?_)))))))
     refine dV (z + 1) ?_ ?_ ?_ ?_
     ·exact lU
     ·exact lU
     ·(try dsimp only)
      first | done | exact ⟨⟨⟨by omega, by omega⟩, hz.trans (uy hz0 (by omega) hQ)⟩, H9⟩
     ·(try dsimp only); omega
    ·(try simp only [aA] at h10)
     have hQ : ¬ (fV (l.getD z.toNat 0) == 0) = true := by rw [beq_iff_eq]; exact h10
     refine dO (aO (aO (bI (aX (bQ O (fB O (dL results95 O ?_)))))))
     exact ⟨by rw [hz]; first | rw [kN (by omega)] | rw [mP hz0 (by omega) hQ], H9⟩
   ·(try simp only [aA] at h9)
    refine bF (bF (bF (bF (bF (bF (iH O O (iJ (qo (dO (aO (aO (bI (aX (bQ O (fB O (dL results95 O ?_))))))))))))))))
    exact ⟨by rw [hz]; first | rw [kN (by omega)] | rw [mP hz0 (by omega) hQ], HM⟩
 ·(try simp only [aA] at h1)
  refine gG (aN (aY ?_))
  try have e1 : lG (fun r => dH r big == dH (l.getD x.toNat 0) big) l x = y := hy.symm.trans (by first | exact kN (by omega) | exact mP hy0 (by omega) hP)
  refine gW [(0, _)] (fun (z : Int) => [(1, .int .i64 z)]) (fun (z : Int) W => ((0 ≤ z ∧ z ≤ l.length) ∧ Ai l x big = lG (fun r => fV r == 0) l z) ∧ V w0 W F) (fun (z : Int) => (l.length - z).toNat) (_) lU lU ⟨⟨⟨by omega, by omega⟩, by unfold Ai; first | (rw [if_neg (by omega)]; done) | (rw [if_pos (by omega), if_pos hk]; done) | (rw [if_pos (by omega), if_neg hk, e1]; done)⟩, H⟩ ?_
  rintro z w10 ⟨⟨⟨hz0, hzl⟩, hz⟩, HM⟩
  dsimp only [List.cons_append, List.nil_append]
  refine aN (bQ O (bT O (Z (iM (hr _ (HM)) aj O) (Z (fZ O O) (jG O (fun h11 => ?_) (fun h11 => ?_))))))
  ·(try simp only [aA] at h11)
   refine bg (bT O (bg (bT O (bg ?_))))
   obtain ⟨bv, ov, cv, ev⟩ := gJ.rM (hr _ (HM)) (by omega)
   cases ev
   refine Z (dP aj bZ O O (by omega)) (bg ?_)
   refine Z (fK (dA bG O) O (by first | exact gJ.ni (hr _ (HM)) (by omega) | exact gJ.yc (hr _ (HM)) (by omega) | exact gJ.yx (hr _ (HM)) (by omega))) ?_
   refine bg (dS O func14 (qJ HM hT) ?_)
   rintro _ Fv ⟨rfl, tq⟩
   refine bg (Z (dX O O) (iU O O (jB O (fun h12 => ?_) (fun h12 => ?_))))
   ·(try simp only [aA] at h12)
    have hQ : (fV (l.getD z.toNat 0) == 0) = true := by rw [beq_iff_eq]; exact h12
    refine gG (aY (aC (bT O (Z (fJ O O (by omega)) (iK O (bW (aK ?_)))))))
    refine dV (z + 1) ?_ ?_ ?_ ?_
    ·exact lU
    ·exact lU
    ·(try dsimp only)
     first | done | exact ⟨⟨⟨by omega, by omega⟩, hz.trans (uy hz0 (by omega) hQ)⟩, tq⟩
    ·(try dsimp only); omega
   ·(try simp only [aA] at h12)
    have hQ : ¬ (fV (l.getD z.toNat 0) == 0) = true := by rw [beq_iff_eq]; exact h12
    refine dO (aO (aO (bI (aX (bQ O (fB O (dL results95 O ?_)))))))
    exact ⟨by rw [hz]; first | rw [kN (by omega)] | rw [mP hz0 (by omega) hQ], tq⟩
  ·(try simp only [aA] at h11)
   refine bF (bF (bF (bF (bF (bF (iH O O (iJ (qo (dO (aO (aO (bI (aX (bQ O (fB O (dL results95 O ?_))))))))))))))))
   exact ⟨by rw [hz]; first | rw [kN (by omega)] | rw [mP hz0 (by omega) hQ], HM⟩
end
def CY (l : List Int) (x : Int) (big : Bool) : Int :=
  if 0 < yj (fun r => fV r == 0) l x then yj (fun r => dH r big == dH (l.getD (yj (fun r => fV r == 0) l x - 1).toNat 0) big) l (yj (fun r => fV r == 0) l x) else yj (fun r => fV r == 0) l x
def Jo (l : List Int) (x : Int) (big : Bool) : Int :=
  if (l.length : Int) ≤ lG (fun r => fV r == 0) l (x + 1) then (l.length : Int) - 1 else lG (fun r => dH r big == dH (l.getD (lG (fun r => fV r == 0) l (x + 1)).toNat 0) big) l (lG (fun r => fV r == 0) l (x + 1) + 1) - 1
section
variable {w0 w : World} {F : HP} {r x : Int} {big : Bool} {l : List Int} {v : Value}
theorem Xw (H : V w0 w F) (hr : jF w0 F .i32 v l) (hT : Aq w0) (hx0 : 0 ≤ x) (hx1 : x ≤ l.length) : iE prog 96 #[v, .int .i64 x, .bool big] w fun v' w' => v' = .int .i64 (CY l x big) ∧ V w0 w' F := by
 have Ym : l.length ≤ 9223372036854775807 := by have := (hr _ H).open; obtain ⟨a, c, e, h3, h4, _⟩ := this; omega
 refine zT func96 ntmps96 ?_
 refine jQ O (aN (aY ?_))
 refine gW [(0, _), (2, _)] (fun (y : Int) => [(1, .int .i64 y)]) (fun (y : Int) W => ((0 ≤ y ∧ y ≤ l.length) ∧ yj (fun r => fV r == 0) l y = yj (fun r => fV r == 0) l x) ∧ V w0 W F) (fun (y : Int) => y.toNat) (x) uJ lU ⟨⟨⟨hx0, hx1⟩, O⟩, H⟩ ?_
 rintro y w1 ⟨⟨⟨hy0, hyl⟩, hy⟩, HL⟩
 dsimp only [List.cons_append, List.nil_append]
 refine aN (bQ O (Z (dY O O) (jG O (fun h1 => ?_) (fun h1 => ?_))))
 ·(try simp only [aA] at h1)
  refine bg (bT O (bg (bT O (bg (Z (iV O O (by omega)) (bg ?_))))))
  obtain ⟨bv, ov, cv, ev⟩ := gJ.rM (hr _ (HL)) (by omega)
  cases ev
  refine Z (dP aj bZ O O (by omega)) (bg ?_)
  refine Z (fK (dA bG O) O (by first | exact gJ.ni (hr _ (HL)) (by omega) | exact gJ.yc (hr _ (HL)) (by omega) | exact gJ.yx (hr _ (HL)) (by omega))) ?_
  refine bg (dS O func14 (qJ HL hT) ?_)
  rintro _ w2 ⟨rfl, H2⟩
  refine bg (Z (dX O O) (iU O O (jB O (fun h2 => ?_) (fun h2 => ?_))))
  ·(try simp only [aA] at h2)
   have hP : (fV (l.getD (y - 1).toNat 0) == 0) = true := by rw [beq_iff_eq]; exact h2
   refine gG (aY (aC (bT O (Z (iV O O (by omega)) (iK O (bW (aK ?_)))))))
   refine dV (y - 1) ?_ ?_ ?_ ?_
   ·exact lU
   ·exact uJ
   ·(try dsimp only)
    first | done | exact ⟨⟨⟨by omega, by omega⟩, (KT (by omega) hyl hP).symm.trans hy⟩, H2⟩
   ·(try dsimp only); omega
  ·(try simp only [aA] at h2)
   have hP : ¬ (fV (l.getD (y - 1).toNat 0) == 0) = true := by rw [beq_iff_eq]; exact h2
   refine dO (aO (aO (bI (aX (aN (aN ?_))))))
   have e1 : yj (fun r => fV r == 0) l x = y := hy.symm.trans (by first | exact xP (by omega) | exact Ah (by omega) hyl hP)
   refine aC (bT O (Z (dY O O) (jB O (fun h3 => ?_) (fun h3 => ?_))))
   ·(try simp only [aA] at h3)
    refine bQ O (bT O (Z (iV O O (by omega)) (Z (dP aj bZ O O (by omega)) ?_)))
    refine Z (fK (dA bG O) O (by first | exact gJ.ni (hr _ (H2)) (by omega) | exact gJ.yc (hr _ (H2)) (by omega) | exact gJ.yx (hr _ (H2)) (by omega))) ?_
    refine bT O (dS O func142 (nT H2 hT) ?_)
    rintro _ w3 ⟨rfl, H3⟩
    refine fG O (aY ?_)
    refine gW [(0, _), (2, _), (7, _)] (fun (z : Int) => [(1, .int .i64 z)]) (fun (z : Int) W => ((0 ≤ z ∧ z ≤ l.length) ∧ yj (fun r => dH r big == dH (l.getD (y - 1).toNat 0) big) l z = yj (fun r => dH r big == dH (l.getD (y - 1).toNat 0) big) l y) ∧ V w0 W F) (fun (z : Int) => z.toNat) (y) uK lU ⟨⟨⟨by omega, by omega⟩, O⟩, H3⟩ ?_
    rintro z w4 ⟨⟨⟨hz0, hzl⟩, hz⟩, HM⟩
    dsimp only [List.cons_append, List.nil_append]
    refine aN (bQ O (Z (dY O O) (jG O (fun h4 => ?_) (fun h4 => ?_))))
    ·(try simp only [aA] at h4)
     refine bg (bT O (bg (bT O (bg (Z (iV O O (by omega)) (bg (Z (dP aj bZ O O (by omega)) (bg ?_))))))))
     refine Z (fK (dA bG O) O (by first | exact gJ.ni (hr _ (HM)) (by omega) | exact gJ.yc (hr _ (HM)) (by omega) | exact gJ.yx (hr _ (HM)) (by omega))) ?_
     refine bg (bT O (bg (dS O func142 (nT HM hT) ?_)))
     rintro _ w5 ⟨rfl, H5⟩
     refine bg (bT O (bg (Z (dX O O) (iU O O (jB O (fun h5 => ?_) (fun h5 => ?_))))))
     ·(try simp only [aA] at h5)
      have hQ : (dH (l.getD (z - 1).toNat 0) big == dH (l.getD (y - 1).toNat 0) big) = true := by rw [beq_iff_eq]; exact h5
      refine gG (aY (aC (bT O (Z (iV O O (by omega)) (iK O (bW (aK ?_)))))))
      refine dV (z - 1) ?_ ?_ ?_ ?_
      ·exact lU
      ·exact uK
      ·(try dsimp only)
       first | done | exact ⟨⟨⟨by omega, by omega⟩, (KT (by omega) hzl hQ).symm.trans hz⟩, H5⟩
      ·(try dsimp only); omega
     ·(try simp only [aA] at h5)
      have hQ : ¬ (dH (l.getD (z - 1).toNat 0) big == dH (l.getD (y - 1).toNat 0) big) = true := by rw [beq_iff_eq]; exact h5
      refine dO (aO (aO (bI (aX (bQ O (fB O (dL results96 O ?_)))))))
      exact ⟨by unfold CY; rw [e1]; first | (rw [if_neg (by omega)]; done) | (rw [if_pos (by omega), ← hz]; first | rw [xP (by omega)] | rw [Ah (by omega) hzl hQ]), H5⟩
    ·(try simp only [aA] at h4)
     refine bF (bF (bF (bF (bF (bF (bF (bF (bF (iH O O (iJ (qo (dO (aO (aO (bI (aX (bQ O (fB O (dL results96 O ?_)))))))))))))))))))
     exact ⟨by unfold CY; rw [e1]; first | (rw [if_neg (by omega)]; done) | (rw [if_pos (by omega), ← hz]; first | rw [xP (by omega)] | rw [Ah (by omega) hzl hQ]), HM⟩
   ·(try simp only [aA] at h3)
    refine gG (bQ O (fB O (dL results96 O ?_)))
    exact ⟨by unfold CY; rw [e1]; first | (rw [if_neg (by omega)]; done) | (rw [if_pos (by omega), ← hz]; first | rw [xP (by omega)] | rw [Ah (by omega) hzl hQ]), H2⟩
 ·(try simp only [aA] at h1)
  refine bF (bF (bF (bF (bF (bF (bF (iH O O (iJ (qo (dO (aO (aO (bI (aX (aN (aN ?_))))))))))))))))
  have e1 : yj (fun r => fV r == 0) l x = y := hy.symm.trans (by first | exact xP (by omega) | exact Ah (by omega) hyl hP)
  refine aC (bT O (Z (dY O O) (jB O (fun h6 => ?_) (fun h6 => ?_))))
  ·(try simp only [aA] at h6)
   refine bQ O (bT O (Z (iV O O (by omega)) ?_))
   obtain ⟨bv, ov, cv, ev⟩ := gJ.rM (hr _ (HL)) (by omega)
   cases ev
   refine Z (dP aj bZ O O (by omega)) ?_
   refine Z (fK (dA bG O) O (by first | exact gJ.ni (hr _ (HL)) (by omega) | exact gJ.yc (hr _ (HL)) (by omega) | exact gJ.yx (hr _ (HL)) (by omega))) ?_
   refine bT O (dS O func142 (nT HL hT) ?_)
   rintro _ w6 ⟨rfl, H6⟩
   refine fG O (aY ?_)
   refine gW [(0, _), (2, _), (7, _)] (fun (z : Int) => [(1, .int .i64 z)]) (fun (z : Int) W => ((0 ≤ z ∧ z ≤ l.length) ∧ yj (fun r => dH r big == dH (l.getD (y - 1).toNat 0) big) l z = yj (fun r => dH r big == dH (l.getD (y - 1).toNat 0) big) l y) ∧ V w0 W F) (fun (z : Int) => z.toNat) (y) uK lU ⟨⟨⟨by omega, by omega⟩, O⟩, H6⟩ ?_
   rintro z w7 ⟨⟨⟨hz0, hzl⟩, hz⟩, HM⟩
   dsimp only [List.cons_append, List.nil_append]
   refine aN (bQ O (Z (dY O O) (jG O (fun h7 => ?_) (fun h7 => ?_))))
   ·(try simp only [aA] at h7)
    refine bg (bT O (bg (bT O (bg (Z (iV O O (by omega)) (bg (Z (dP aj bZ O O (by omega)) (bg ?_))))))))
    refine Z (fK (dA bG O) O (by first | exact gJ.ni (hr _ (HM)) (by omega) | exact gJ.yc (hr _ (HM)) (by omega) | exact gJ.yx (hr _ (HM)) (by omega))) ?_
    refine bg (bT O (bg (dS O func142 (nT HM hT) ?_)))
    rintro _ w8 ⟨rfl, H8⟩
    refine bg (bT O (bg (Z (dX O O) (iU O O (jB O (fun h8 => ?_) (fun h8 => ?_))))))
    ·(try simp only [aA] at h8)
     have hQ : (dH (l.getD (z - 1).toNat 0) big == dH (l.getD (y - 1).toNat 0) big) = true := by rw [beq_iff_eq]; exact h8
     refine gG (aY (aC (bT O (Z (iV O O (by omega)) (iK O (bW (aK ?_)))))))
     refine dV (z - 1) ?_ ?_ ?_ ?_
     ·exact lU
     ·exact uK
     ·(try dsimp only)
      first | done | exact ⟨⟨⟨by omega, by omega⟩, (KT (by omega) hzl hQ).symm.trans hz⟩, H8⟩
     ·(try dsimp only); omega
    ·(try simp only [aA] at h8)
     have hQ : ¬ (dH (l.getD (z - 1).toNat 0) big == dH (l.getD (y - 1).toNat 0) big) = true := by rw [beq_iff_eq]; exact h8
     refine dO (aO (aO (bI (aX (bQ O (fB O (dL results96 O ?_)))))))
     exact ⟨by unfold CY; rw [e1]; first | (rw [if_neg (by omega)]; done) | (rw [if_pos (by omega), ← hz]; first | rw [xP (by omega)] | rw [Ah (by omega) hzl hQ]), H8⟩
   ·(try simp only [aA] at h7)
    refine bF (bF (bF (bF (bF (bF (bF (bF (bF (iH O O (iJ (qo (dO (aO (aO (bI (aX (bQ O (fB O (dL results96 O ?_)))))))))))))))))))
    exact ⟨by unfold CY; rw [e1]; first | (rw [if_neg (by omega)]; done) | (rw [if_pos (by omega), ← hz]; first | rw [xP (by omega)] | rw [Ah (by omega) hzl hQ]), HM⟩
  ·(try simp only [aA] at h6)
   refine gG (bQ O (fB O (dL results96 O ?_)))
   exact ⟨by unfold CY; rw [e1]; first | (rw [if_neg (by omega)]; done) | (rw [if_pos (by omega), ← hz]; first | rw [xP (by omega)] | rw [Ah (by omega) hzl hQ]), HL⟩
theorem Zw (H : V w0 w F) (hr : jF w0 F .i32 v l) (hT : Aq w0) (hx0 : 0 ≤ x) (hx1 : x ≤ l.length) (hl8 : l.length ≤ 4611686018427387904) : iE prog 97 #[v, .int .i64 x, .bool big] w fun v' w' => v' = .int .i64 (Jo l x big) ∧ V w0 w' F := by
 refine zT func97 ntmps97 ?_
 refine jQ O (bQ O (Z (fJ O O (by omega)) (uZ O (aY ?_))))
 refine gW [(0, _), (2, _)] (fun (y : Int) => [(1, .int .i64 y)]) (fun (y : Int) W => ((0 ≤ y ∧ y ≤ l.length + 1) ∧ lG (fun r => fV r == 0) l y = lG (fun r => fV r == 0) l (x + 1)) ∧ V w0 W F) (fun (y : Int) => (l.length + 1 - y).toNat) (x + 1) uJ lU ⟨⟨⟨by omega, by omega⟩, O⟩, H⟩ ?_
 rintro y w1 ⟨⟨⟨hy0, hyl⟩, hy⟩, HL⟩
 dsimp only [List.cons_append, List.nil_append]
 refine aN (bQ O (bT O (Z (iM (hr _ (HL)) aj O) (Z (fZ O O) (jG O (fun h1 => ?_) (fun h1 => ?_))))))
 ·(try simp only [aA] at h1)
  refine bg (bT O (bg (bT O (bg ?_))))
  obtain ⟨bv, ov, cv, ev⟩ := gJ.rM (hr _ (HL)) (by omega)
  cases ev
  refine Z (dP aj bZ O O (by omega)) (bg ?_)
  refine Z (fK (dA bG O) O (by first | exact gJ.ni (hr _ (HL)) (by omega) | exact gJ.yc (hr _ (HL)) (by omega) | exact gJ.yx (hr _ (HL)) (by omega))) ?_
  refine bg (dS O func14 (qJ HL hT) ?_)
  rintro _ w2 ⟨rfl, H2⟩
  refine bg (Z (dX O O) (iU O O (jB O (fun h2 => ?_) (fun h2 => ?_))))
  ·(try simp only [aA] at h2)
   have hP : (fV (l.getD y.toNat 0) == 0) = true := by rw [beq_iff_eq]; exact h2
   refine gG (aY (aC (bT O (Z (fJ O O (by omega)) (iK O (bW (aK ?_)))))))
   refine dV (y + 1) ?_ ?_ ?_ ?_
   ·exact lU
   ·exact uJ
   ·(try dsimp only)
    first | done | exact ⟨⟨⟨by omega, by omega⟩, (uy hy0 (by omega) hP).symm.trans hy⟩, H2⟩
   ·(try dsimp only); omega
  ·(try simp only [aA] at h2)
   have hP : ¬ (fV (l.getD y.toNat 0) == 0) = true := by rw [beq_iff_eq]; exact h2
   refine dO (aO (aO (bI (aX (aN (aN ?_))))))
   have e1 : lG (fun r => fV r == 0) l (x + 1) = y := hy.symm.trans (by first | exact kN (by omega) | exact mP hy0 (by omega) hP)
   refine aC (jR O O (Z (jd aj O) (Z (lV O O) (jB O (fun h3 => ?_) (fun h3 => ?_)))))
   ·(try simp only [aA] at h3)
    refine bQ O (Z (jd aj O) (Z (iV O O (by omega)) (fB O (aB (dL results97 O ?_)))))
    exact ⟨by unfold Jo; rw [e1, if_pos (by omega)], H2⟩
   ·(try simp only [aA] at h3)
    refine gG (bQ O (bT O (Z (dP aj bZ O O (by omega)) ?_)))
    refine Z (fK (dA bG O) O (by first | exact gJ.ni (hr _ (H2)) (by omega) | exact gJ.yc (hr _ (H2)) (by omega) | exact gJ.yx (hr _ (H2)) (by omega))) ?_
    refine bT O (dS O func142 (nT H2 hT) ?_)
    rintro _ w3 ⟨rfl, H3⟩
    refine uZ O (aY ?_)
    refine gW [(0, _), (2, _), (7, _)] (fun (z : Int) => [(1, .int .i64 z)]) (fun (z : Int) W => ((0 ≤ z ∧ z < l.length) ∧ lG (fun r => dH r big == dH (l.getD y.toNat 0) big) l (z + 1) = lG (fun r => dH r big == dH (l.getD y.toNat 0) big) l (y + 1)) ∧ V w0 W F) (fun (z : Int) => (l.length - z).toNat) (y) uK lU ⟨⟨⟨by omega, by omega⟩, O⟩, H3⟩ ?_
    rintro z w4 ⟨⟨⟨hz0, hzl⟩, hz⟩, HM⟩
    dsimp only [List.cons_append, List.nil_append]
    refine aN (bQ O (Z (fJ O O (by omega)) (bT O (Z (jd aj O) (Z (fZ O O) (jG O (fun h4 => ?_) (fun h4 => ?_)))))))
    ·(try simp only [aA] at h4)
     refine bg (bT O (bg (bT O (bg (Z (fJ O O (by omega)) (bg (Z (dP aj bZ O O (by omega)) (bg ?_))))))))
     refine Z (fK (dA bG O) O (by first | exact gJ.ni (hr _ (HM)) (by omega) | exact gJ.yc (hr _ (HM)) (by omega) | exact gJ.yx (hr _ (HM)) (by omega))) ?_
     refine bg (bT O (bg (dS O func142 (nT HM hT) ?_)))
     rintro _ w5 ⟨rfl, H5⟩
     refine bg (bT O (bg (Z (dX O O) (iU O O (jB O (fun h5 => ?_) (fun h5 => ?_))))))
     ·(try simp only [aA] at h5)
      have hQ : (dH (l.getD (z + 1).toNat 0) big == dH (l.getD y.toNat 0) big) = true := by rw [beq_iff_eq]; exact h5
      refine gG (aY (aC (bT O (Z (fJ O O (by omega)) (iK O (bW (aK ?_)))))))
      refine dV (z + 1) ?_ ?_ ?_ ?_
      ·exact lU
      ·exact uK
      ·(try dsimp only)
       first | done | exact ⟨⟨⟨by omega, by omega⟩, (uy (by omega) (by omega) hQ).symm.trans hz⟩, H5⟩
      ·(try dsimp only); omega
     ·(try simp only [aA] at h5)
      have hQ : ¬ (dH (l.getD (z + 1).toNat 0) big == dH (l.getD y.toNat 0) big) = true := by rw [beq_iff_eq]; exact h5
      refine dO (aO (aO (bI (aX (bQ O (fB O (dL results97 O ?_)))))))
      exact ⟨by unfold Jo; rw [e1, if_neg (by omega), ← hz]; first | (rw [kN (by omega)]; congr 1; omega) | (rw [mP (by omega) (by omega) hQ]; congr 1; omega), H5⟩
    ·(try simp only [aA] at h4)
     refine bF (bF (bF (bF (bF (bF (bF (bF (bF (iH O O (iJ (qo (dO (aO (aO (bI (aX (bQ O (fB O (dL results97 O ?_)))))))))))))))))))
     exact ⟨by unfold Jo; rw [e1, if_neg (by omega), ← hz]; first | (rw [kN (by omega)]; congr 1; omega) | (rw [mP (by omega) (by omega) hQ]; congr 1; omega), HM⟩
 ·(try simp only [aA] at h1)
  refine bF (bF (bF (bF (bF (bF (iH O O (iJ (qo (dO (aO (aO (bI (aX (aN (aN ?_)))))))))))))))
  have e1 : lG (fun r => fV r == 0) l (x + 1) = y := hy.symm.trans (by first | exact kN (by omega) | exact mP hy0 (by omega) hP)
  refine aC (jR O O (Z (iM (hr _ (HL)) aj O) (Z (lV O O) (jB O (fun h6 => ?_) (fun h6 => ?_)))))
  ·(try simp only [aA] at h6)
   refine bQ O (Z (iM (hr _ (HL)) aj O) (Z (iV O O (by omega)) (fB O (aB (dL results97 O ?_)))))
   exact ⟨by unfold Jo; rw [e1, if_pos (by omega)], HL⟩
  ·(try simp only [aA] at h6)
   refine gG (bQ O (bT O ?_))
   obtain ⟨bv, ov, cv, ev⟩ := gJ.rM (hr _ (HL)) (by omega)
   cases ev
   refine Z (dP aj bZ O O (by omega)) ?_
   refine Z (fK (dA bG O) O (by first | exact gJ.ni (hr _ (HL)) (by omega) | exact gJ.yc (hr _ (HL)) (by omega) | exact gJ.yx (hr _ (HL)) (by omega))) ?_
   refine bT O (dS O func142 (nT HL hT) ?_)
   rintro _ w6 ⟨rfl, H6⟩
   refine uZ O (aY ?_)
   refine gW [(0, _), (2, _), (7, _)] (fun (z : Int) => [(1, .int .i64 z)]) (fun (z : Int) W => ((0 ≤ z ∧ z < l.length) ∧ lG (fun r => dH r big == dH (l.getD y.toNat 0) big) l (z + 1) = lG (fun r => dH r big == dH (l.getD y.toNat 0) big) l (y + 1)) ∧ V w0 W F) (fun (z : Int) => (l.length - z).toNat) (y) uK lU ⟨⟨⟨by omega, by omega⟩, O⟩, H6⟩ ?_
   rintro z w7 ⟨⟨⟨hz0, hzl⟩, hz⟩, HM⟩
   dsimp only [List.cons_append, List.nil_append]
   refine aN (bQ O (Z (fJ O O (by omega)) (bT O (Z (jd aj O) (Z (fZ O O) (jG O (fun h7 => ?_) (fun h7 => ?_)))))))
   ·(try simp only [aA] at h7)
    refine bg (bT O (bg (bT O (bg (Z (fJ O O (by omega)) (bg (Z (dP aj bZ O O (by omega)) (bg ?_))))))))
    refine Z (fK (dA bG O) O (by first | exact gJ.ni (hr _ (HM)) (by omega) | exact gJ.yc (hr _ (HM)) (by omega) | exact gJ.yx (hr _ (HM)) (by omega))) ?_
    refine bg (bT O (bg (dS O func142 (nT HM hT) ?_)))
    rintro _ w8 ⟨rfl, H8⟩
    refine bg (bT O (bg (Z (dX O O) (iU O O (jB O (fun h8 => ?_) (fun h8 => ?_))))))
    ·(try simp only [aA] at h8)
     have hQ : (dH (l.getD (z + 1).toNat 0) big == dH (l.getD y.toNat 0) big) = true := by rw [beq_iff_eq]; exact h8
     refine gG (aY (aC (bT O (Z (fJ O O (by omega)) (iK O (bW (aK ?_)))))))
     refine dV (z + 1) ?_ ?_ ?_ ?_
     ·exact lU
     ·exact uK
     ·(try dsimp only)
      first | done | exact ⟨⟨⟨by omega, by omega⟩, (uy (by omega) (by omega) hQ).symm.trans hz⟩, H8⟩
     ·(try dsimp only); omega
    ·(try simp only [aA] at h8)
     have hQ : ¬ (dH (l.getD (z + 1).toNat 0) big == dH (l.getD y.toNat 0) big) = true := by rw [beq_iff_eq]; exact h8
     refine dO (aO (aO (bI (aX (bQ O (fB O (dL results97 O ?_)))))))
     exact ⟨by unfold Jo; rw [e1, if_neg (by omega), ← hz]; first | (rw [kN (by omega)]; congr 1; omega) | (rw [mP (by omega) (by omega) hQ]; congr 1; omega), H8⟩
   ·(try simp only [aA] at h7)
    refine bF (bF (bF (bF (bF (bF (bF (bF (bF (iH O O (iJ (qo (dO (aO (aO (bI (aX (bQ O (fB O (dL results97 O ?_)))))))))))))))))))
    exact ⟨by unfold Jo; rw [e1, if_neg (by omega), ← hz]; first | (rw [kN (by omega)]; congr 1; omega) | (rw [mP (by omega) (by omega) hQ]; congr 1; omega), HM⟩
end
end Go.Proofs.YtpdeedplgmbopaaGreatDoor
end
section
namespace Go.Proofs.YtpdeedplgmbopaaGreatDoor
open Go.RowKit
def KW (f : Int → Int → Option Int) : Int → List Int → Option Int
  | _, [] => none
  | s, x :: l => match f s x with
    | none => some 0
    | some t => (KW f t l).map (· + 1)
def yE (st : Int) (f : Int → Int → Option Int) (l : List Int) (s i : Int) : Option Int :=
  if 0 ≤ i ∧ i < l.length then (if st = 1 then (KW f s (l.drop i.toNat)).map (i + ·) else (KW f s (l.take (i.toNat + 1)).reverse).map (i - ·)) else none
section
variable {st s t i : Int} {f : Int → Int → Option Int} {l : List Int}
theorem Es (h : ¬ (0 ≤ i ∧ i < l.length)) : yE st f l s i = none := if_neg h
theorem Oe (h0 : 0 ≤ i) (h1 : i < l.length) : (l.take (i.toNat + 1)).reverse = l.getD i.toNat 0 :: (l.take i.toNat).reverse := by
  rw [List.take_succ_eq_append_getElem (by omega), List.reverse_append, List.getD_eq_getElem?_getD, List.getElem?_eq_getElem (by omega)]
  rfl
theorem V4 (h0 : 0 ≤ i) (h1 : i < l.length) : l.drop i.toNat = l.getD i.toNat 0 :: l.drop (i.toNat + 1) := by
  rw [List.drop_eq_getElem_cons (by omega), List.getD_eq_getElem?_getD, List.getElem?_eq_getElem (by omega)]
  rfl
theorem Et (h0 : 0 ≤ i) (h1 : i < l.length) (hf : f s (l.getD i.toNat 0) = none) : yE st f l s i = some i := by
  unfold yE
  rw [if_pos ⟨h0, h1⟩, V4 h0 h1, Oe h0 h1, KW, KW, hf]
  split <;> simp
theorem KX (hst : st = 1 ∨ st = -1) (h0 : 0 ≤ i) (h1 : i < l.length) (hf : f s (l.getD i.toNat 0) = some t) : yE st f l s i = yE st f l t (i + st) := by
  unfold yE
  rw [if_pos ⟨h0, h1⟩, V4 h0 h1, Oe h0 h1, KW, KW, hf]
  dsimp only
  rcases hst with rfl | rfl
  · rw [if_pos rfl, if_pos rfl]
    by_cases h2 : i + 1 < l.length
    · rw [if_pos ⟨by omega, h2⟩, show (i + 1).toNat = i.toNat + 1 from by omega, Option.map_map]
      congr 1
      funext x
      simp; omega
    · rw [if_neg (by omega), List.drop_of_length_le (by omega)]
      rfl
  · rw [if_neg (show ¬ ((-1 : Int) = 1) by decide), if_neg (show ¬ ((-1 : Int) = 1) by decide)]
    by_cases h2 : 0 < i
    · rw [if_pos ⟨by omega, by omega⟩, show (i + -1).toNat + 1 = i.toNat from by omega, Option.map_map]
      congr 1
      funext x
      simp; omega
    · rw [if_neg (by omega), show i.toNat = 0 from by omega]
      rfl
end
def E5 (c : Int) (n x : Int) : Option Int := if x = c then (if n ≤ 1 then none else some (n - 1)) else some n
def KY (a b : Int) (d x : Int) : Option Int := if d + (if x = a then 1 else 0) - (if x = b then 1 else 0) = 0 then none else some (d + (if x = a then 1 else 0) - (if x = b then 1 else 0))
def Bo (g : Int → Int) : Nat → Int → Int
  | 0, x => x
  | n + 1, x => if g x = x then x else Bo g n (g x)
def aeG (g : Int → Int) : Nat → Int → Int
  | 0, x => x
  | n + 1, x => aeG g n (g x)
section
variable {g : Int → Int}
theorem KZ {n : Nat} {x : Int} (h : g x = x) : Bo g n x = x := by cases n with
  | zero => rfl
  | succ n => rw [Bo, if_pos h]
theorem UA {n : Nat} {x : Int} (hn : 0 < n) (h : ¬ g x = x) : Bo g n x = Bo g (n - 1) (g x) := by
  obtain ⟨m, rfl⟩ : ∃ m, n = m + 1 := ⟨n - 1, by omega⟩
  rw [Bo, if_neg h]; rfl
end
section
variable {l : List Int} {x : Int} {big : Bool}
theorem Zx (l : List Int) {x : Int} (big : Bool) (h0 : 0 ≤ x) (h1 : x ≤ l.length) : x ≤ Ai l x big ∧ Ai l x big ≤ l.length := by
  unfold Ai
  by_cases h2 : x < l.length
  · rw [if_pos h2]
    by_cases h3 : dH (l.getD x.toNat 0) big = 0
    · rw [if_pos h3]; exact uO h0 h1
    · rw [if_neg h3]
      have h4 := uO (P := fun r => dH r big == dH (l.getD x.toNat 0) big) h0 h1
      have h5 := uO (P := fun r => fV r == 0) (l := l) (x := lG (fun r => dH r big == dH (l.getD x.toNat 0) big) l x) (by omega) h4.2
      omega
  · rw [if_neg h2]; exact uO h0 h1
theorem Zy (l : List Int) {x : Int} (big : Bool) (h0 : 0 ≤ x) (h1 : x ≤ l.length) : 0 ≤ CY l x big ∧ CY l x big ≤ x := by
  unfold CY
  have h2 := KU (P := fun r => fV r == 0) h0 h1
  split
  · have h3 := KU (P := fun r => dH r big == dH (l.getD (yj (fun r => fV r == 0) l x - 1).toNat 0) big) (l := l) (x := yj (fun r => fV r == 0) l x) h2.1 (by omega)
    omega
  · exact h2
theorem abo (l : List Int) {x : Int} (big : Bool) (h0 : 0 ≤ x) (h1 : x < l.length) : x ≤ Jo l x big ∧ Jo l x big < l.length := by
  unfold Jo
  by_cases h9 : (l.length : Int) ≤ x + 1
  · rw [kN h9, if_pos h9]; omega
  · have h2 := uO (P := fun r => fV r == 0) (l := l) (x := x + 1) (by omega) (by omega)
    split
    · omega
    · have h3 := uO (P := fun r => dH r big == dH (l.getD (lG (fun r => fV r == 0) l (x + 1)).toNat 0) big) (l := l) (x := lG (fun r => fV r == 0) l (x + 1) + 1) (by omega) (by omega)
      omega
end
def sV (key : Int) : Int := if key = 70 ∨ key = 84 then -1 else 1
def Ik (l : List Int) (x key c n : Int) : Int × Bool × Bool := match yE (sV key) (E5 c) l n (x + sV key) with
  | none => (0, false, false)
  | some i => (if key = 116 ∨ key = 84 then i - sV key else i, decide (0 < sV key), true)
def yP (r : Int) : Bool := r == 40 || r == 91 || r == 123 || r == 41 || r == 93 || r == 125
def GL (r : Int) : Int := if r = 40 ∨ r = 91 ∨ r = 123 then 1 else -1
def Il (r : Int) : Int := if r = 40 then 41 else if r = 41 then 40 else if r = 91 then 93 else if r = 93 then 91 else if r = 123 then 125 else 123
def zH (l : List Int) (x : Int) : Int × Bool × Bool :=
  if (l.length : Int) ≤ lG (fun r => !yP r) l x then (0, false, false) else
  match yE (GL (l.getD (lG (fun r => !yP r) l x).toNat 0)) (KY (l.getD (lG (fun r => !yP r) l x).toNat 0) (Il (l.getD (lG (fun r => !yP r) l x).toNat 0))) l 0 (lG (fun r => !yP r) l x) with
  | none => (0, false, false)
  | some j => (j, true, true)
def zI (l : List Int) (x key n : Int) : Int × Bool × Bool :=
  if key = 119 ∨ key = 87 then (if x < l.length then (Bo (fun y => Ai l y (key == 87)) n.toNat x, false, true) else (0, false, false))
  else if key = 98 ∨ key = 66 then (if 0 < x then (Bo (fun y => CY l y (key == 66)) n.toNat x, false, true) else (0, false, false))
  else if key = 101 ∨ key = 69 then (if x < l.length - 1 then (Bo (fun y => Jo l y (key == 69)) n.toNat x, true, true) else (0, false, false))
  else (0, false, false)
def lH (l : List Int) (x key c n : Int) : Int × Bool × Bool :=
  if key = 104 then (if x = 0 then (0, false, false) else (x - min n x, false, true))
  else if key = 108 ∨ key = 32 then (if x = l.length then (0, false, false) else (x + min n (l.length - x), false, true))
  else if key = 48 then (0, false, true)
  else if key = 36 then (l.length, false, true)
  else if key = 94 then (lG (fun r => fV r == 0) l 0, false, true)
  else if key = 124 then (min (n - 1) l.length, false, true)
  else if key = 102 ∨ key = 70 ∨ key = 116 ∨ key = 84 then Ik l x key c n
  else if key = 37 then zH l x
  else zI l x key n
def xC (l : List Int) (x key c n : Int) : Int × Bool × Bool := lH l (min (max x 0) l.length) key c (max n 1)
def Xx (q : Int × Bool × Bool) : Value := .tuple #[.int .i64 q.1, .bool q.2.1, .bool q.2.2]
section
variable {P : Program} {L : List (Nat × Value)} {w : World} {ty t t' : TypeId} {x y : Operand} {k k2 : IntKind} {m n : Int}
theorem abp (o : BinOp) (hx : ev L x = some (.int k m)) (hy : ev L y = some (.int k n)) (ho : o = .and ∨ o = .or ∨ o = .xor ∨ o = .andNot) : Val P L (.binOp o t x y t') ty w (.int k (bits o k m n)) w :=
  acN o hx hy ho (by rcases ho with rfl | rfl | rfl | rfl <;> rfl)
theorem JB {n : Int} (h : -2147483648 ≤ n ∧ n < 2147483648) : IntKind.i32.wrap n = n := by rw [IntKind.wrap_i32]; omega
theorem V5 {n : Int} (h : -9223372036854775808 ≤ n ∧ n < 9223372036854775808) : IntKind.i64.wrap n = n := by rw [IntKind.wrap_i64]; omega
theorem Og {src dst : TypeId} (hx : ev L x = some (.int k m)) (hs : (P.underlying src).isSome = true) (hd : P.underlying dst = some (.int .u8)) : Val P L (.convert src dst x) ty w (.int .u8 (m % 256)) w := fun ρ hρ _ _ _ _ => by
  obtain ⟨ds, hs'⟩ := Option.isSome_iff_exists.1 hs
  simp only [execOp, hρ _ _ hx]
  simp [convert, run_underlying hs', run_underlying hd, Conv.intToInt, IntKind.wrap_u8]
end
end Go.Proofs.YtpdeedplgmbopaaGreatDoor
end
section
namespace Go.Proofs.YtpdeedplgmbopaaGreatDoor
open Go.RowKit
open _root_.Go.Proofs.Tryz
def Zz (k : Int) : Bool := decide (48 ≤ k) && decide (k ≤ 57)
def yQ (l : List Int) : List Int := if l.getD 0 0 = 48 then [] else l.takeWhile Zz
def La (n k : Int) : Int := min (n * 10 + (k - 48)) 1000000
def aeH (l : List Int) : Int := (yQ l).foldl La 0
def mX (l : List Int) : List Int := l.drop (yQ l).length
theorem aeI {p : Int → Bool} {l : List Int} : ∀ {i : Nat}, i ≤ (l.takeWhile p).length → (i < (l.takeWhile p).length ↔ (i < l.length ∧ p (l.getD i 0) = true)) := by
  induction l with
  | nil => intro i h; simp
  | cons x l ih =>
    intro i h
    rw [List.takeWhile_cons] at h ⊢
    by_cases hx : p x = true
    · rw [if_pos hx] at h ⊢
      cases i with
      | zero => simp [hx]
      | succ i =>
        rw [List.length_cons] at h
        have := ih (i := i) (by omega)
        rw [List.length_cons, List.length_cons, List.getD_cons_succ, Nat.add_lt_add_iff_right, Nat.add_lt_add_iff_right]
        exact this
    · rw [if_neg hx] at h ⊢
      have : i = 0 := by simpa using h
      subst this
      simp [hx]
theorem adb {p : Int → Bool} {l : List Int} {i : Nat} (h : i < (l.takeWhile p).length) : (l.takeWhile p).getD i 0 = l.getD i 0 := by
  induction l generalizing i with
  | nil => simp at h
  | cons x l ih =>
    rw [List.takeWhile_cons] at h ⊢
    by_cases hx : p x = true
    · rw [if_pos hx] at h ⊢
      cases i with
      | zero => rfl
      | succ i => rw [List.length_cons] at h; rw [List.getD_cons_succ, List.getD_cons_succ]; exact ih (by omega)
    · rw [if_neg hx] at h; simp at h
section
variable {l : List Int} {i : Nat}
theorem ade (h : i ≤ (yQ l).length) : i < (yQ l).length ↔ ((i : Int) < l.length ∧ 48 ≤ l.getD i 0 ∧ l.getD i 0 ≤ 57 ∧ (0 < i ∨ ¬ l.getD i 0 = 48)) := by
  unfold yQ at h ⊢
  by_cases h0 : l.getD 0 0 = 48
  · rw [if_pos h0] at h ⊢
    have : i = 0 := by simpa using h
    subst this
    constructor
    · intro h9; simp at h9
    · rintro ⟨_, _, _, h9 | h9⟩
      · omega
      · exact absurd h0 h9
  · rw [if_neg h0] at h ⊢
    rw [aeI h]
    unfold Zz
    rw [Bool.and_eq_true, decide_eq_true_iff, decide_eq_true_iff]
    have h1 : 0 < i ∨ ¬ l.getD i 0 = 48 := by
      cases i with
      | zero => exact .inr h0
      | succ i => exact .inl (by omega)
    omega
theorem abq (h : i < (yQ l).length) : (yQ l).getD i 0 = l.getD i 0 := by
  unfold yQ at h ⊢
  by_cases h0 : l.getD 0 0 = 48
  · rw [if_pos h0] at h; simp at h
  · rw [if_neg h0] at h ⊢; exact adb h
theorem Rw (h : i < (yQ l).length) : ((yQ l).take (i + 1)).foldl La 0 = La (((yQ l).take i).foldl La 0) (l.getD i 0) := by
  rw [List.take_succ_eq_append_getElem h, List.foldl_append, ← abq h, List.getD_eq_getElem?_getD, List.getElem?_eq_getElem h]
  rfl
theorem JC : ((yQ l).take (yQ l).length).foldl La 0 = aeH l := by rw [List.take_length]; rfl
theorem V6 {n k : Int} (h : 0 ≤ n ∧ n ≤ 1000000) (hk : 48 ≤ k ∧ k ≤ 57) : 0 ≤ La n k ∧ La n k ≤ 1000000 := by unfold La; omega
theorem adf : (yQ l).length ≤ l.length := by
  unfold yQ; split
  · simp
  · exact (List.takeWhile_sublist Zz).length_le
end
section
variable {w0 w : World} {F : HP} {v : Value} {l : List Int}
theorem PK (H : V w0 w F) (hr : jF w0 F .i32 v l) : iE prog 51 #[v] w fun u w' => ∃ kv, u = .tuple #[kv, .int .i64 (aeH l)] ∧ jF w0 F .i32 kv (mX l) ∧ V w0 w' F := by
 have Ym : l.length ≤ 9223372036854775807 := by have := (hr _ H).open; obtain ⟨a, c, e, h3, h4, _⟩ := this; omega
 have hcl := adf (l := l)
 refine iZ func51 ntmps51 ?_
 refine iR (iK O (fG O (iR (iK O (uZ O (aY ?_))))))
 refine gW [(0, _)] (fun (⟨i, n⟩ : Nat × Int) => [(4, .int .i64 n), (5, .int .i64 (i : Int))]) (fun (⟨i, n⟩ : Nat × Int) W => (i ≤ (yQ l).length ∧ (0 ≤ n ∧ n ≤ 1000000) ∧ n = ((yQ l).take i).foldl La 0) ∧ V w0 W F) (fun (⟨i, n⟩ : Nat × Int) => (yQ l).length - i) ((0, 0)) lU uJ ⟨⟨by omega, by omega, O⟩, H⟩ ?_
 rintro ⟨i, n⟩ w1 ⟨⟨hi, hn, hE⟩, HL⟩
 dsimp only [List.cons_append, List.nil_append]
 have hca := ade (l := l) hi
 refine aN (bQ O (bT O (Z (iM (hr _ (HL)) aj O) (Z (fZ O O) (jG O (fun h1 => ?_) (fun h1 => ?_))))))
 ·(try simp only [aA] at h1)
  refine bg (bT O (bg (bT O (bg ?_))))
  obtain ⟨bv, ov, cv, ev⟩ := gJ.rM (hr _ (HL)) (by omega)
  cases ev
  refine Z (dP aj bZ O O (by omega)) (bg ?_)
  refine Z (fK (dA bG O) O (by first | exact gJ.ni (hr _ (HL)) (by omega) | exact gJ.yc (hr _ (HL)) (by omega) | exact gJ.yx (hr _ (HL)) (by omega))) ?_
  refine bg (Z (lV O O) (iU O O (jG O (fun h2 => ?_) (fun h2 => ?_))))
  ·(try simp only [aA] at h2)
   refine bg (bT O (bg (bT O (bg (Z (dP aj bZ O O (by omega)) (bg ?_))))))
   refine Z (fK (dA bG O) O (by first | exact gJ.ni (hr _ (HL)) (by omega) | exact gJ.yc (hr _ (HL)) (by omega) | exact gJ.yx (hr _ (HL)) (by omega))) ?_
   refine bg (Z (sS O O) (iU O O (jG O (fun h3 => ?_) (fun h3 => ?_))))
   ·(try simp only [aA] at h3)
    refine bg (bT O (bg (Z (dY O O) (bg (jG O (fun h4 => ?_) (fun h4 => ?_))))))
    ·(try simp only [aA] at h4)
     refine bF (bF (bF (bF (bF (bg (iU O O (iU O O (iJ (CP (gG (aY (aN ?_))))))))))))
     have hlt : i < (yQ l).length := by omega
     refine aC (bT O (Z (ab5 O O (by omega)) (jR O O (Z (dP aj bZ O O (by omega)) ?_))))
     refine Z (fK (dA bG O) O (by first | exact gJ.ni (hr _ (HL)) (by omega) | exact gJ.yc (hr _ (HL)) (by omega) | exact gJ.yx (hr _ (HL)) (by omega))) ?_
     refine Z (Qm (Yu O O) (congrArg (Value.int .i32) (JB (by omega)))) ?_
     refine Z (BH O (by rw [underlying21]; rfl) aH (V5 (by omega))) ?_
     refine Z (fJ O O (by omega)) (Z (zZ O O) (fG O (aC (bT O (Z (fJ O O (by omega)) (iK O (bW (aK ?_))))))))
     refine dV ((i + 1, La n (l.getD i 0))) ?_ ?_ ?_ ?_
     ·exact uJ
     ·exact lU
     ·(try dsimp only)
      first | done | exact ⟨⟨by omega, V6 hn (by omega), by rw [Rw hlt, ← hE]⟩, HL⟩
     ·(try dsimp only); omega
    ·(try simp only [aA] at h4)
     refine bg (bT O (bg (bT O (bg (Z (dP aj bZ O O (by omega)) (bg ?_))))))
     refine Z (fK (dA bG O) O (by first | exact gJ.ni (hr _ (HL)) (by omega) | exact gJ.yc (hr _ (HL)) (by omega) | exact gJ.yx (hr _ (HL)) (by omega))) ?_
     refine bg (Z (ig O O) (bg (iH O O (iU O O (jB O (fun h5 => ?_) (fun h5 => ?_))))))
     ·(try simp only [aA] at h5)
      refine gG (aY (aN ?_))
      have hlt : i < (yQ l).length := by omega
      refine aC (bT O (Z (ab5 O O (by omega)) (jR O O (Z (dP aj bZ O O (by omega)) ?_))))
      refine Z (fK (dA bG O) O (by first | exact gJ.ni (hr _ (HL)) (by omega) | exact gJ.yc (hr _ (HL)) (by omega) | exact gJ.yx (hr _ (HL)) (by omega))) ?_
      refine Z (Qm (Yu O O) (congrArg (Value.int .i32) (JB (by omega)))) ?_
      refine Z (BH O (by rw [underlying21]; rfl) aH (V5 (by omega))) ?_
      refine Z (fJ O O (by omega)) (Z (zZ O O) (fG O (aC (bT O (Z (fJ O O (by omega)) (iK O (bW (aK ?_))))))))
      refine dV ((i + 1, La n (l.getD i 0))) ?_ ?_ ?_ ?_
      ·exact uJ
      ·exact lU
      ·(try dsimp only)
       first | done | exact ⟨⟨by omega, V6 hn (by omega), by rw [Rw hlt, ← hE]⟩, HL⟩
      ·(try dsimp only); omega
     ·(try simp only [aA] at h5)
      refine dO (aO (aO (bI (aX (aN ?_)))))
      have hlt : i = (yQ l).length := by omega
      refine aC (jR O O (Z (zn (hr _ (HL)) aj bZ O O O (by omega)) ?_))
      refine bT O (iK O (fB O (NR results51 O O ?_)))
      exact ⟨_, by rw [hE, hlt, JC], fun W HW => by unfold mX; rw [← hlt]; exact (hr W HW).from (by omega), HL⟩
   ·(try simp only [aA] at h3)
    refine bF (bF (bF (ng (ng (ng (ng (ng (bF (iH O O (iJ (qo (dO (aO (aO (bI (aX (aN ?_)))))))))))))))))
    have hlt : i = (yQ l).length := by omega
    refine aC (jR O O (Z (zn (hr _ (HL)) aj bZ O O O (by omega)) ?_))
    refine bT O (iK O (fB O (NR results51 O O ?_)))
    exact ⟨_, by rw [hE, hlt, JC], fun W HW => by unfold mX; rw [← hlt]; exact (hr W HW).from (by omega), HL⟩
  ·(try simp only [aA] at h2)
   refine bF (bF (bF (bF (bF (iH O O (bT O (bF (bF (bF (ng (ng (ng (ng (ng (bF (iH O O (iJ (qo (dO (aO (aO (bI (aX (aN ?_))))))))))))))))))))))))
   have hlt : i = (yQ l).length := by omega
   refine aC (jR O O (Z (zn (hr _ (HL)) aj bZ O O O (by omega)) ?_))
   refine bT O (iK O (fB O (NR results51 O O ?_)))
   exact ⟨_, by rw [hE, hlt, JC], fun W HW => by unfold mX; rw [← hlt]; exact (hr W HW).from (by omega), HL⟩
 ·(try simp only [aA] at h1)
  refine bF (bF (bF (bF (bF (iH O O (bT O (bF (bF (bF (bF (bF (iH O O (bT O (bF (bF (bF (ng (ng (ng (ng (ng (bF (iH O O (iJ (qo (dO (aO (aO (bI (aX (aN ?_)))))))))))))))))))))))))))))))
  have hlt : i = (yQ l).length := by omega
  refine aC (jR O O (Z (zn (hr _ (HL)) aj bZ O O O (by omega)) ?_))
  refine bT O (iK O (fB O (NR results51 O O ?_)))
  exact ⟨_, by rw [hE, hlt, JC], fun W HW => by unfold mX; rw [← hlt]; exact (hr W HW).from (by omega), HL⟩
end
end Go.Proofs.YtpdeedplgmbopaaGreatDoor
end
section
namespace Go.Proofs.YtpdeedplgmbopaaGreatDoor
open Go.RowKit Go.Lib
section
variable {P : Program} {N : Sh} {Q : Exit → Act → World → Prop} {L : List (Nat × Value)} {w : World}
end
def sb (s : ByteArray) (i : Nat) : Int := ((s.data.toList.getD i 0).toNat : Nat)
theorem adg {s : ByteArray} {i : Nat} (h : i < s.size) : ((s[i]'h).toNat : Int) = sb s i := by
  unfold sb
  rw [List.getD_eq_getElem?_getD, List.getElem?_eq_getElem (by rw [Array.length_toList]; exact h)]
  rfl
section
variable {P : Program} {L : List (Nat × Value)} {w w0 : World} {ty : TypeId} {x y : Operand} {F : HP}
theorem I8 {t : TypeId} {s : ByteArray} {k : IntKind} {i : Int} (ht : P.underlying t = some .string) (hx : ev L x = some (.string s)) (hy : ev L y = some (.int k i)) (h : 0 ≤ i ∧ i < s.size) :
    Val P L (.index t x y) ty w (.int .u8 (sb s i.toNat)) w := fun ρ hρ _ _ _ _ => by
  simp only [execOp, hρ _ _ hx, hρ _ _ hy, Sem.run_bind]
  rw [run_index_string (w := w) t s k i ht, dif_pos h, adg]
  rfl
theorem aeJ {f : FuncId} {args : List Operand} {ts : Array TypeId} {vs : List Value} {fn : Func} {e : Array Value → Sem Value} {v : Value} (ha : F8 L args = some vs)
    (hf : P.funcs[f]? = some fn) (hname : (fn.name == "runtime.NumGoroutine") = false) (hb : fn.body.isNone = true) (hn : Extern.findNext fn = none) (he : Extern.find fn = some e) (hr : (e vs.toArray).run P w = .ok v w) :
    Val P L (.call ⟨.value (.func f), args.toArray, ts⟩) ty w v w := fun ρ hρ _ _ _ _ => by
  have hg : ρ (.func f) = .func (.func f) #[] #[] := hρ _ _ rfl
  have hc := run_callFunc_extern hf hname hb hn he vs.toArray w
  rw [hr] at hc
  simp [execOp, resolve, invoke, evs hρ _ _ ha, hg, Deferred.ofValue]
  exact hc
def aha (s : ByteArray) (k : Nat) : Value := if k < s.size then .tuple #[.bool true, .int .i64 k, .int .i32 (sb s k)] else .tuple #[.bool false]
end
theorem acn {s : ByteArray} (hs : ∀ c ∈ s.data.toList, c.toNat < 128) (i : Nat) : 0 ≤ sb s i ∧ sb s i < 128 := by
  unfold sb
  rw [List.getD_eq_getElem?_getD]
  by_cases h : i < s.data.toList.length
  · rw [List.getElem?_eq_getElem h]
    have := hs _ (List.getElem_mem h)
    show 0 ≤ ((s.data.toList[i].toNat : Nat) : Int) ∧ ((s.data.toList[i].toNat : Nat) : Int) < 128
    omega
  · rw [List.getElem?_eq_none (by omega)]; decide
section
variable {w0 w : World} {F : HP} {s : ByteArray} {r c : Int}
theorem MN : iE Tryz.prog 143 #[.string s, .int .u8 c] w fun v w' => v = .int .i64 (indexByte s.data.toList c.toNat.toUInt8) ∧ w = w' := by
  refine oV Tryz.func143 Tryz.ntmps143 ?_
  refine jQ O (bQ O (bT O (Z (aeJ O Tryz.func180 O O (by kernel_rfl) (by kernel_rfl) (run_indexByteString _ _ _)) (fB O (dL Tryz.results143 O ?_)))))
  exact ⟨O, O⟩
theorem GN : iE Tryz.prog 98 #[.string s, .int .u8 c] w fun v w' => v = .int .i64 (indexByte s.data.toList c.toNat.toUInt8) ∧ w = w' := by
  refine oV Tryz.func98 Tryz.ntmps98 ?_
  refine jQ O (bQ O (bT O (dS O Tryz.func143 (MN) ?_)))
  rintro _ _ ⟨rfl, rfl⟩
  refine fB O (dL Tryz.results98 O ?_)
  exact ⟨O, O⟩
def aht (s : ByteArray) (r : Int) : Int := if 0 ≤ r ∧ r < 128 then indexByte s.data.toList r.toNat.toUInt8 else -1
end
theorem abr {l : List UInt8} {c : UInt8} : 0 ≤ indexByte l c ↔ c ∈ l := by
  induction l with
  | nil => simp [indexByte]
  | cons b l ih =>
    have h1 := indexByte_ge l c
    unfold indexByte
    by_cases hb : b = c
    · simp [hb]
    · rw [if_neg (by simpa using hb)]
      by_cases h2 : indexByte l c = -1
      · rw [if_pos (by simpa using h2)]
        have : c ∉ l := fun h => by have := ih.2 h; omega
        simp [this, Ne.symm hb]
      · rw [if_neg (by simpa using h2)]
        have : c ∈ l := ih.1 (by omega)
        simp [this]; omega
def zW (s : ByteArray) : List Int := s.data.toList.map fun b => (b.toNat : Int)
def Asc (s : ByteArray) : Prop := ∀ x ∈ s.data.toList, 0 < x.toNat ∧ x.toNat < 128
instance (s : ByteArray) : Decidable (Asc s) := by unfold Asc; infer_instance
theorem AQ {s : ByteArray} (hs : Asc s) {r : Int} : (0 < r ∧ r < 128 ∧ 0 ≤ indexByte s.data.toList r.toNat.toUInt8) ↔ r ∈ zW s := by
  rw [abr]
  unfold zW
  rw [List.mem_map]
  constructor
  · rintro ⟨h1, h2, h3⟩
    refine ⟨_, h3, ?_⟩
    rw [show r.toNat.toUInt8.toNat = r.toNat % 256 from by simp [Nat.toUInt8]]
    omega
  · rintro ⟨b, hb, rfl⟩
    have := hs b hb
    refine ⟨by omega, by omega, ?_⟩
    rw [show ((b.toNat : Int)).toNat.toUInt8 = b from by rw [Int.toNat_natCast]; simp [Nat.toUInt8]]
    exact hb
section
variable {w0 w : World} {F : HP} {r : Int} {s : ByteArray}
theorem BZ (hs : Asc s) : iE Tryz.prog 50 #[.int .i32 r, .string s] w fun v w' => v = .bool (decide (r ∈ zW s)) ∧ w = w' := by
  have hi := AQ hs (r := r)
  refine oV Tryz.func50 Tryz.ntmps50 ?_
  refine jQ O (bQ O (Z (dY O O) (jG O (fun h1 => ?_) (fun h1 => ?_))))
  · (try simp only [aA] at h1)
    try (exfalso; first | contradiction | omega)
    all_goals
      refine bg (bT O (bg (Z (fZ O O) (iU O O (jG O (fun h2 => ?_) (fun h2 => ?_))))))
      · (try simp only [aA] at h2)
        try (exfalso; first | contradiction | omega)
        all_goals
          refine bg (bT O (bg (bT O (bg ?_))))
          refine Z (Og O (by rw [Tryz.underlying21]; rfl) Tryz.underlying5) ?_
          refine bg (dS O Tryz.func98 (GN) ?_)
          rintro _ _ ⟨rfl, rfl⟩
          refine bg (Z (lV O O) (iU O O (fB O (dL Tryz.results50 O ?_))))
          refine ⟨congrArg Value.bool ?_, O⟩; first | exact (decide_eq_false (fun c => by have := (AQ hs).2 c; omega)).symm | (rw [show r % 256 = r from by omega]; exact decide_eq_decide.2 ⟨fun c => (AQ hs).1 ⟨by omega, by omega, c⟩, fun c => ((AQ hs).2 c).2.2⟩)
      · (try simp only [aA] at h2)
        try (exfalso; first | contradiction | omega)
        all_goals
          refine bF (bF (bF (bF (bF (iH O O (fB O (dL Tryz.results50 O ?_)))))))
          refine ⟨congrArg Value.bool ?_, O⟩; first | exact (decide_eq_false (fun c => by have := (AQ hs).2 c; omega)).symm | (rw [show r % 256 = r from by omega]; exact decide_eq_decide.2 ⟨fun c => (AQ hs).1 ⟨by omega, by omega, c⟩, fun c => ((AQ hs).2 c).2.2⟩)
  · (try simp only [aA] at h1)
    try (exfalso; first | contradiction | omega)
    all_goals
      refine bF (bF (iH O O (bT O (bF (bF (bF (bF (bF (iH O O (fB O (dL Tryz.results50 O ?_)))))))))))
      refine ⟨congrArg Value.bool ?_, O⟩; first | exact (decide_eq_false (fun c => by have := (AQ hs).2 c; omega)).symm | (rw [show r % 256 = r from by omega]; exact decide_eq_decide.2 ⟨fun c => (AQ hs).1 ⟨by omega, by omega, c⟩, fun c => ((AQ hs).2 c).2.2⟩)
end
end Go.Proofs.YtpdeedplgmbopaaGreatDoor
end
