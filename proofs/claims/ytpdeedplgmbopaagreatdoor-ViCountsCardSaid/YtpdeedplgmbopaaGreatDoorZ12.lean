import Derived.Test.YtpdeedplgmbopaaGreatDoorZ4
import Derived.Test.YtpdeedplgmbopaaGreatDoorZ11
import Derived.Test.YtpdeedplgmbopaaGreatDoorZ3
import Derived.Laws.BitsLemmas
import Derived.Lib.RuneBytes
import Derived.Scope
import Derived.Laws.RangeString
import Derived.Lib.OthersKept
import Derived.Lib.Bytealg
import Derived.Test.YtpdeedplgmbopaaGreatDoorProg
import Derived.Test.YtpdeedplgmbopaaGreatDoorZ2
set_option linter.unusedSimpArgs false
set_option linter.unusedVariables false
/- Texts of mine, joined, their names in short: VW3 VW4 VS Bits VN Str StrF VI. -/
section
namespace Go.Proofs.YtpdeedplgmbopaaGreatDoor
open Go.RowKit
open _root_.Go.Proofs.Tryz
section
variable {w0 w : World} {F : HP} {r x : Int} {big : Bool} {l : List Int} {v : Value}
theorem Xh (H : V w0 w F) (hr : jE w0 F .i32 v l) (hT : Ae w0) (hx0 : 0 ≤ x) (hx1 : x ≤ l.length) : iI prog 95 #[v, .int .i64 x, .bool big] w fun v' w' => v' = .int .i64 (zX l x big) ∧ V w0 w' F := by
 have hl9 : l.length ≤ 9223372036854775807 := by have := (hr _ H).open; obtain ⟨a, c, e, h3, h4, _⟩ := this; omega
 refine AB func95 ntmps95 ?_
 refine jR O (aO (bT O (bP O (Z (jy (hr _ (H)) aj O) (Z (gB O O) (jL O (fun h1 => ?_) (fun h1 => ?_)))))))
 ·(try simp only [aA] at h1)
  refine bT O (bP O ?_)
  obtain ⟨bv, ov, cv, ev⟩ := gJ.rG (hr _ (H)) (by omega)
  cases ev
  refine Z (dP aj bV O O (by omega)) ?_
  refine Z (fG (dA bG O) O (by first | exact gJ.mZ (hr _ (H)) (by omega) | exact gJ.yA (hr _ (H)) (by omega) | exact gJ.xX (hr _ (H)) (by omega))) ?_
  refine bP O (dS O func142 (nI H hT) ?_)
  rintro _ w1 ⟨rfl, H1⟩
  refine fP O (bT O (Z (iM O O) (jL O (fun h2 => ?_) (fun h2 => ?_))))
  ·(try simp only [aA] at h2)
   have hk : ¬ dH (l.getD x.toNat 0) big = 0 := h2
   refine aY ?_
   refine gV [(0, _), (2, _), (7, _)] (fun (y : Int) => [(1, .int .i64 y)]) (fun (y : Int) W => ((0 ≤ y ∧ y ≤ l.length) ∧ lF (fun r => dH r big == dH (l.getD x.toNat 0) big) l y = lF (fun r => dH r big == dH (l.getD x.toNat 0) big) l x) ∧ V w0 W F) (fun (y : Int) => (l.length - y).toNat) (x) vZ mG ⟨⟨⟨hx0, hx1⟩, O⟩, H1⟩ ?_
   rintro y w2 ⟨⟨⟨hy0, hyl⟩, hy⟩, HL⟩
   dsimp only [List.cons_append, List.nil_append]
   refine aO (bT O (bP O (Z (jc aj O) (Z (gB O O) (jJ O (fun h3 => ?_) (fun h3 => ?_))))))
   ·(try simp only [aA] at h3)
    refine bg (bP O (bg (bP O (bg (Z (dP aj bV O O (by omega)) (bg ?_))))))
    refine Z (fG (dA bG O) O (by first | exact gJ.mZ (hr _ (HL)) (by omega) | exact gJ.yA (hr _ (HL)) (by omega) | exact gJ.xX (hr _ (HL)) (by omega))) ?_
    refine bg (bP O (bg (dS O func142 (nI HL hT) ?_)))
    rintro _ w3 ⟨rfl, H3⟩
    refine bg (bP O (bg (Z (dX O O) (jh O O (jL O (fun h4 => ?_) (fun h4 => ?_))))))
    ·(try simp only [aA] at h4)
     have hP : (dH (l.getD y.toNat 0) big == dH (l.getD x.toNat 0) big) = true := by rw [beq_iff_eq]; exact h4
     refine gQ (aY (aC (bP O (Z (fO O O (by omega)) (iJ O (bY (aK ?_)))))))
     refine dU (y + 1) ?_ ?_ ?_ ?_
     ·exact mG
     ·exact vZ
     ·(try dsimp only)
      first | done | exact ⟨⟨⟨by omega, by omega⟩, (tN hy0 (by omega) hP).symm.trans hy⟩, H3⟩
     ·(try dsimp only); omega
    ·(try simp only [aA] at h4)
     have hP : ¬ (dH (l.getD y.toNat 0) big == dH (l.getD x.toNat 0) big) = true := by rw [beq_iff_eq]; exact h4
     refine dO (aN (aN (bn (aW (aO (aY ?_))))))
     try have e1 : lF (fun r => dH r big == dH (l.getD x.toNat 0) big) l x = y := hy.symm.trans (by first | exact kK (by omega) | exact mM hy0 (by omega) hP)
     refine gV [(0, _)] (fun (z : Int) => [(1, .int .i64 z)]) (fun (z : Int) W => ((0 ≤ z ∧ z ≤ l.length) ∧ zX l x big = lF (fun r => fQ r == 0) l z) ∧ V w0 W F) (fun (z : Int) => (l.length - z).toNat) (_) mG mG ⟨⟨⟨by omega, by omega⟩, by unfold zX; first | (rw [if_neg (by omega)]; done) | (rw [if_pos (by omega), if_pos hk]; done) | (rw [if_pos (by omega), if_neg hk, e1]; done)⟩, H3⟩ ?_
     rintro z w4 ⟨⟨⟨hz0, hzl⟩, hz⟩, HM⟩
     dsimp only [List.cons_append, List.nil_append]
     refine aO (bT O (bP O (Z (jc aj O) (Z (gB O O) (jJ O (fun h5 => ?_) (fun h5 => ?_))))))
     ·(try simp only [aA] at h5)
      refine bg (bP O (bg (bP O (bg (Z (dP aj bV O O (by omega)) (bg ?_))))))
      refine Z (fG (dA bG O) O (by first | exact gJ.mZ (hr _ (HM)) (by omega) | exact gJ.yA (hr _ (HM)) (by omega) | exact gJ.xX (hr _ (HM)) (by omega))) ?_
      refine bg (dS O func14 (qC HM hT) ?_)
      rintro _ w5 ⟨rfl, H5⟩
      refine bg (Z (dX O O) (jh O O (jL O (fun h6 => ?_) (fun h6 => ?_))))
      ·(try simp only [aA] at h6)
       have hQ : (fQ (l.getD z.toNat 0) == 0) = true := by rw [beq_iff_eq]; exact h6
       refine gQ (aY (aC (bP O (Z (fO O O (by omega)) (iJ O (bY (aK ?_)))))))
       refine dU (z + 1) ?_ ?_ ?_ ?_
       ·exact mG
       ·exact mG
       ·(try dsimp only)
        first | done | exact ⟨⟨⟨by omega, by omega⟩, hz.trans (tN hz0 (by omega) hQ)⟩, H5⟩
       ·(try dsimp only); omega
      ·(try simp only [aA] at h6)
       have hQ : ¬ (fQ (l.getD z.toNat 0) == 0) = true := by rw [beq_iff_eq]; exact h6
       refine dO (aN (aN (bn (aW (bT O (fC O (dK results95 O ?_)))))))
       exact ⟨by rw [hz]; first | rw [kK (by omega)] | rw [mM hz0 (by omega) hQ], H5⟩
     ·(try simp only [aA] at h5)
      refine bF (bF (bF (bF (bF (bF (ig O O (iL (qH (dO (aN (aN (bn (aW (bT O (fC O (dK results95 O ?_))))))))))))))))
      exact ⟨by rw [hz]; first | rw [kK (by omega)] | rw [mM hz0 (by omega) hQ], HM⟩
   ·(try simp only [aA] at h3)
    refine bF (bF (bF (bF (bF (bF (bF (bF (ig O O (iL (qH (dO (aN (aN (bn (aW (aO (aY ?_)))))))))))))))))
    try have e1 : lF (fun r => dH r big == dH (l.getD x.toNat 0) big) l x = y := hy.symm.trans (by first | exact kK (by omega) | exact mM hy0 (by omega) hP)
    refine gV [(0, _)] (fun (z : Int) => [(1, .int .i64 z)]) (fun (z : Int) W => ((0 ≤ z ∧ z ≤ l.length) ∧ zX l x big = lF (fun r => fQ r == 0) l z) ∧ V w0 W F) (fun (z : Int) => (l.length - z).toNat) (_) mG mG ⟨⟨⟨by omega, by omega⟩, by unfold zX; first | (rw [if_neg (by omega)]; done) | (rw [if_pos (by omega), if_pos hk]; done) | (rw [if_pos (by omega), if_neg hk, e1]; done)⟩, HL⟩ ?_
    rintro z w6 ⟨⟨⟨hz0, hzl⟩, hz⟩, HM⟩
    dsimp only [List.cons_append, List.nil_append]
    refine aO (bT O (bP O (Z (jc aj O) (Z (gB O O) (jJ O (fun h7 => ?_) (fun h7 => ?_))))))
    ·(try simp only [aA] at h7)
     refine bg (bP O (bg (bP O (bg (Z (dP aj bV O O (by omega)) (bg ?_))))))
     refine Z (fG (dA bG O) O (by first | exact gJ.mZ (hr _ (HM)) (by omega) | exact gJ.yA (hr _ (HM)) (by omega) | exact gJ.xX (hr _ (HM)) (by omega))) ?_
     refine bg (dS O func14 (qC HM hT) ?_)
     rintro _ w7 ⟨rfl, H7⟩
     refine bg (Z (dX O O) (jh O O (jL O (fun h8 => ?_) (fun h8 => ?_))))
     ·(try simp only [aA] at h8)
      have hQ : (fQ (l.getD z.toNat 0) == 0) = true := by rw [beq_iff_eq]; exact h8
      refine gQ (aY (aC (bP O (Z (fO O O (by omega)) (iJ O (bY (aK ?_)))))))
      refine dU (z + 1) ?_ ?_ ?_ ?_
      ·exact mG
      ·exact mG
      ·(try dsimp only)
       first | done | exact ⟨⟨⟨by omega, by omega⟩, hz.trans (tN hz0 (by omega) hQ)⟩, H7⟩
      ·(try dsimp only); omega
     ·(try simp only [aA] at h8)
      have hQ : ¬ (fQ (l.getD z.toNat 0) == 0) = true := by rw [beq_iff_eq]; exact h8
      refine dO (aN (aN (bn (aW (bT O (fC O (dK results95 O ?_)))))))
      exact ⟨by rw [hz]; first | rw [kK (by omega)] | rw [mM hz0 (by omega) hQ], H7⟩
    ·(try simp only [aA] at h7)
     refine bF (bF (bF (bF (bF (bF (ig O O (iL (qH (dO (aN (aN (bn (aW (bT O (fC O (dK results95 O ?_))))))))))))))))
     exact ⟨by rw [hz]; first | rw [kK (by omega)] | rw [mM hz0 (by omega) hQ], HM⟩
  ·(try simp only [aA] at h2)
   have hk : dH (l.getD x.toNat 0) big = 0 := by have h9 := h2; omega
   refine gQ (aO (aY ?_))
   try have e1 : lF (fun r => dH r big == dH (l.getD x.toNat 0) big) l x = y := hy.symm.trans (by first | exact kK (by omega) | exact mM hy0 (by omega) hP)
   refine gV [(0, _)] (fun (z : Int) => [(1, .int .i64 z)]) (fun (z : Int) W => ((0 ≤ z ∧ z ≤ l.length) ∧ zX l x big = lF (fun r => fQ r == 0) l z) ∧ V w0 W F) (fun (z : Int) => (l.length - z).toNat) (_) mG mG ⟨⟨⟨by omega, by omega⟩, by unfold zX; first | (rw [if_neg (by omega)]; done) | (rw [if_pos (by omega), if_pos hk]; done) | (rw [if_pos (by omega), if_neg hk, e1]; done)⟩, H1⟩ ?_
   rintro z w8 ⟨⟨⟨hz0, hzl⟩, hz⟩, HM⟩
   dsimp only [List.cons_append, List.nil_append]
   refine aO (bT O (bP O (Z (jc aj O) (Z (gB O O) (jJ O (fun h9 => ?_) (fun h9 => ?_))))))
   ·(try simp only [aA] at h9)
    refine bg (bP O (bg (bP O (bg (Z (dP aj bV O O (by omega)) (bg ?_))))))
    refine Z (fG (dA bG O) O (by first | exact gJ.mZ (hr _ (HM)) (by omega) | exact gJ.yA (hr _ (HM)) (by omega) | exact gJ.xX (hr _ (HM)) (by omega))) ?_
    refine bg (dS O func14 (qC HM hT) ?_)
    rintro _ w9 ⟨rfl, H9⟩
    refine bg (Z (dX O O) (jh O O (jL O (fun h10 => ?_) (fun h10 => ?_))))
    ·(try simp only [aA] at h10)
     have hQ : (fQ (l.getD z.toNat 0) == 0) = true := by rw [beq_iff_eq]; exact h10
     refine gQ (aY (aC (bP O (Z (fO O O (by omega)) (iJ O (bY (aK ?_)))))))
     refine dU (z + 1) ?_ ?_ ?_ ?_
     ·exact mG
     ·exact mG
     ·(try dsimp only)
      first | done | exact ⟨⟨⟨by omega, by omega⟩, hz.trans (tN hz0 (by omega) hQ)⟩, H9⟩
     ·(try dsimp only); omega
    ·(try simp only [aA] at h10)
     have hQ : ¬ (fQ (l.getD z.toNat 0) == 0) = true := by rw [beq_iff_eq]; exact h10
     refine dO (aN (aN (bn (aW (bT O (fC O (dK results95 O ?_)))))))
     exact ⟨by rw [hz]; first | rw [kK (by omega)] | rw [mM hz0 (by omega) hQ], H9⟩
   ·(try simp only [aA] at h9)
    refine bF (bF (bF (bF (bF (bF (ig O O (iL (qH (dO (aN (aN (bn (aW (bT O (fC O (dK results95 O ?_))))))))))))))))
    exact ⟨by rw [hz]; first | rw [kK (by omega)] | rw [mM hz0 (by omega) hQ], HM⟩
 ·(try simp only [aA] at h1)
  refine gQ (aO (aY ?_))
  try have e1 : lF (fun r => dH r big == dH (l.getD x.toNat 0) big) l x = y := hy.symm.trans (by first | exact kK (by omega) | exact mM hy0 (by omega) hP)
  refine gV [(0, _)] (fun (z : Int) => [(1, .int .i64 z)]) (fun (z : Int) W => ((0 ≤ z ∧ z ≤ l.length) ∧ zX l x big = lF (fun r => fQ r == 0) l z) ∧ V w0 W F) (fun (z : Int) => (l.length - z).toNat) (_) mG mG ⟨⟨⟨by omega, by omega⟩, by unfold zX; first | (rw [if_neg (by omega)]; done) | (rw [if_pos (by omega), if_pos hk]; done) | (rw [if_pos (by omega), if_neg hk, e1]; done)⟩, H⟩ ?_
  rintro z w10 ⟨⟨⟨hz0, hzl⟩, hz⟩, HM⟩
  dsimp only [List.cons_append, List.nil_append]
  refine aO (bT O (bP O (Z (jy (hr _ (HM)) aj O) (Z (gB O O) (jJ O (fun h11 => ?_) (fun h11 => ?_))))))
  ·(try simp only [aA] at h11)
   refine bg (bP O (bg (bP O (bg ?_))))
   obtain ⟨bv, ov, cv, ev⟩ := gJ.rG (hr _ (HM)) (by omega)
   cases ev
   refine Z (dP aj bV O O (by omega)) (bg ?_)
   refine Z (fG (dA bG O) O (by first | exact gJ.mZ (hr _ (HM)) (by omega) | exact gJ.yA (hr _ (HM)) (by omega) | exact gJ.xX (hr _ (HM)) (by omega))) ?_
   refine bg (dS O func14 (qC HM hT) ?_)
   rintro _ FX ⟨rfl, sW⟩
   refine bg (Z (dX O O) (jh O O (jL O (fun h12 => ?_) (fun h12 => ?_))))
   ·(try simp only [aA] at h12)
    have hQ : (fQ (l.getD z.toNat 0) == 0) = true := by rw [beq_iff_eq]; exact h12
    refine gQ (aY (aC (bP O (Z (fO O O (by omega)) (iJ O (bY (aK ?_)))))))
    refine dU (z + 1) ?_ ?_ ?_ ?_
    ·exact mG
    ·exact mG
    ·(try dsimp only)
     first | done | exact ⟨⟨⟨by omega, by omega⟩, hz.trans (tN hz0 (by omega) hQ)⟩, sW⟩
    ·(try dsimp only); omega
   ·(try simp only [aA] at h12)
    have hQ : ¬ (fQ (l.getD z.toNat 0) == 0) = true := by rw [beq_iff_eq]; exact h12
    refine dO (aN (aN (bn (aW (bT O (fC O (dK results95 O ?_)))))))
    exact ⟨by rw [hz]; first | rw [kK (by omega)] | rw [mM hz0 (by omega) hQ], sW⟩
  ·(try simp only [aA] at h11)
   refine bF (bF (bF (bF (bF (bF (ig O O (iL (qH (dO (aN (aN (bn (aW (bT O (fC O (dK results95 O ?_))))))))))))))))
   exact ⟨by rw [hz]; first | rw [kK (by omega)] | rw [mM hz0 (by omega) hQ], HM⟩
end
def CO (l : List Int) (x : Int) (big : Bool) : Int :=
  if 0 < xQ (fun r => fQ r == 0) l x then xQ (fun r => dH r big == dH (l.getD (xQ (fun r => fQ r == 0) l x - 1).toNat 0) big) l (xQ (fun r => fQ r == 0) l x) else xQ (fun r => fQ r == 0) l x
def Jr (l : List Int) (x : Int) (big : Bool) : Int :=
  if (l.length : Int) ≤ lF (fun r => fQ r == 0) l (x + 1) then (l.length : Int) - 1 else lF (fun r => dH r big == dH (l.getD (lF (fun r => fQ r == 0) l (x + 1)).toNat 0) big) l (lF (fun r => fQ r == 0) l (x + 1) + 1) - 1
section
variable {w0 w : World} {F : HP} {r x : Int} {big : Bool} {l : List Int} {v : Value}
theorem Xi (H : V w0 w F) (hr : jE w0 F .i32 v l) (hT : Ae w0) (hx0 : 0 ≤ x) (hx1 : x ≤ l.length) : iI prog 96 #[v, .int .i64 x, .bool big] w fun v' w' => v' = .int .i64 (CO l x big) ∧ V w0 w' F := by
 have hl9 : l.length ≤ 9223372036854775807 := by have := (hr _ H).open; obtain ⟨a, c, e, h3, h4, _⟩ := this; omega
 refine AB func96 ntmps96 ?_
 refine jR O (aO (aY ?_))
 refine gV [(0, _), (2, _)] (fun (y : Int) => [(1, .int .i64 y)]) (fun (y : Int) W => ((0 ≤ y ∧ y ≤ l.length) ∧ xQ (fun r => fQ r == 0) l y = xQ (fun r => fQ r == 0) l x) ∧ V w0 W F) (fun (y : Int) => y.toNat) (x) ug mG ⟨⟨⟨hx0, hx1⟩, O⟩, H⟩ ?_
 rintro y w1 ⟨⟨⟨hy0, hyl⟩, hy⟩, HL⟩
 dsimp only [List.cons_append, List.nil_append]
 refine aO (bT O (Z (dY O O) (jJ O (fun h1 => ?_) (fun h1 => ?_))))
 ·(try simp only [aA] at h1)
  refine bg (bP O (bg (bP O (bg (Z (iZ O O (by omega)) (bg ?_))))))
  obtain ⟨bv, ov, cv, ev⟩ := gJ.rG (hr _ (HL)) (by omega)
  cases ev
  refine Z (dP aj bV O O (by omega)) (bg ?_)
  refine Z (fG (dA bG O) O (by first | exact gJ.mZ (hr _ (HL)) (by omega) | exact gJ.yA (hr _ (HL)) (by omega) | exact gJ.xX (hr _ (HL)) (by omega))) ?_
  refine bg (dS O func14 (qC HL hT) ?_)
  rintro _ w2 ⟨rfl, H2⟩
  refine bg (Z (dX O O) (jh O O (jL O (fun h2 => ?_) (fun h2 => ?_))))
  ·(try simp only [aA] at h2)
   have hP : (fQ (l.getD (y - 1).toNat 0) == 0) = true := by rw [beq_iff_eq]; exact h2
   refine gQ (aY (aC (bP O (Z (iZ O O (by omega)) (iJ O (bY (aK ?_)))))))
   refine dU (y - 1) ?_ ?_ ?_ ?_
   ·exact mG
   ·exact ug
   ·(try dsimp only)
    first | done | exact ⟨⟨⟨by omega, by omega⟩, (KP (by omega) hyl hP).symm.trans hy⟩, H2⟩
   ·(try dsimp only); omega
  ·(try simp only [aA] at h2)
   have hP : ¬ (fQ (l.getD (y - 1).toNat 0) == 0) = true := by rw [beq_iff_eq]; exact h2
   refine dO (aN (aN (bn (aW (aO (aO ?_))))))
   have e1 : xQ (fun r => fQ r == 0) l x = y := hy.symm.trans (by first | exact xC (by omega) | exact zW (by omega) hyl hP)
   refine aC (bP O (Z (dY O O) (jL O (fun h3 => ?_) (fun h3 => ?_))))
   ·(try simp only [aA] at h3)
    refine bT O (bP O (Z (iZ O O (by omega)) (Z (dP aj bV O O (by omega)) ?_)))
    refine Z (fG (dA bG O) O (by first | exact gJ.mZ (hr _ (H2)) (by omega) | exact gJ.yA (hr _ (H2)) (by omega) | exact gJ.xX (hr _ (H2)) (by omega))) ?_
    refine bP O (dS O func142 (nI H2 hT) ?_)
    rintro _ w3 ⟨rfl, H3⟩
    refine fP O (aY ?_)
    refine gV [(0, _), (2, _), (7, _)] (fun (z : Int) => [(1, .int .i64 z)]) (fun (z : Int) W => ((0 ≤ z ∧ z ≤ l.length) ∧ xQ (fun r => dH r big == dH (l.getD (y - 1).toNat 0) big) l z = xQ (fun r => dH r big == dH (l.getD (y - 1).toNat 0) big) l y) ∧ V w0 W F) (fun (z : Int) => z.toNat) (y) vZ mG ⟨⟨⟨by omega, by omega⟩, O⟩, H3⟩ ?_
    rintro z w4 ⟨⟨⟨hz0, hzl⟩, hz⟩, HM⟩
    dsimp only [List.cons_append, List.nil_append]
    refine aO (bT O (Z (dY O O) (jJ O (fun h4 => ?_) (fun h4 => ?_))))
    ·(try simp only [aA] at h4)
     refine bg (bP O (bg (bP O (bg (Z (iZ O O (by omega)) (bg (Z (dP aj bV O O (by omega)) (bg ?_))))))))
     refine Z (fG (dA bG O) O (by first | exact gJ.mZ (hr _ (HM)) (by omega) | exact gJ.yA (hr _ (HM)) (by omega) | exact gJ.xX (hr _ (HM)) (by omega))) ?_
     refine bg (bP O (bg (dS O func142 (nI HM hT) ?_)))
     rintro _ w5 ⟨rfl, H5⟩
     refine bg (bP O (bg (Z (dX O O) (jh O O (jL O (fun h5 => ?_) (fun h5 => ?_))))))
     ·(try simp only [aA] at h5)
      have hQ : (dH (l.getD (z - 1).toNat 0) big == dH (l.getD (y - 1).toNat 0) big) = true := by rw [beq_iff_eq]; exact h5
      refine gQ (aY (aC (bP O (Z (iZ O O (by omega)) (iJ O (bY (aK ?_)))))))
      refine dU (z - 1) ?_ ?_ ?_ ?_
      ·exact mG
      ·exact vZ
      ·(try dsimp only)
       first | done | exact ⟨⟨⟨by omega, by omega⟩, (KP (by omega) hzl hQ).symm.trans hz⟩, H5⟩
      ·(try dsimp only); omega
     ·(try simp only [aA] at h5)
      have hQ : ¬ (dH (l.getD (z - 1).toNat 0) big == dH (l.getD (y - 1).toNat 0) big) = true := by rw [beq_iff_eq]; exact h5
      refine dO (aN (aN (bn (aW (bT O (fC O (dK results96 O ?_)))))))
      exact ⟨by unfold CO; rw [e1]; first | (rw [if_neg (by omega)]; done) | (rw [if_pos (by omega), ← hz]; first | rw [xC (by omega)] | rw [zW (by omega) hzl hQ]), H5⟩
    ·(try simp only [aA] at h4)
     refine bF (bF (bF (bF (bF (bF (bF (bF (bF (ig O O (iL (qH (dO (aN (aN (bn (aW (bT O (fC O (dK results96 O ?_)))))))))))))))))))
     exact ⟨by unfold CO; rw [e1]; first | (rw [if_neg (by omega)]; done) | (rw [if_pos (by omega), ← hz]; first | rw [xC (by omega)] | rw [zW (by omega) hzl hQ]), HM⟩
   ·(try simp only [aA] at h3)
    refine gQ (bT O (fC O (dK results96 O ?_)))
    exact ⟨by unfold CO; rw [e1]; first | (rw [if_neg (by omega)]; done) | (rw [if_pos (by omega), ← hz]; first | rw [xC (by omega)] | rw [zW (by omega) hzl hQ]), H2⟩
 ·(try simp only [aA] at h1)
  refine bF (bF (bF (bF (bF (bF (bF (ig O O (iL (qH (dO (aN (aN (bn (aW (aO (aO ?_))))))))))))))))
  have e1 : xQ (fun r => fQ r == 0) l x = y := hy.symm.trans (by first | exact xC (by omega) | exact zW (by omega) hyl hP)
  refine aC (bP O (Z (dY O O) (jL O (fun h6 => ?_) (fun h6 => ?_))))
  ·(try simp only [aA] at h6)
   refine bT O (bP O (Z (iZ O O (by omega)) ?_))
   obtain ⟨bv, ov, cv, ev⟩ := gJ.rG (hr _ (HL)) (by omega)
   cases ev
   refine Z (dP aj bV O O (by omega)) ?_
   refine Z (fG (dA bG O) O (by first | exact gJ.mZ (hr _ (HL)) (by omega) | exact gJ.yA (hr _ (HL)) (by omega) | exact gJ.xX (hr _ (HL)) (by omega))) ?_
   refine bP O (dS O func142 (nI HL hT) ?_)
   rintro _ w6 ⟨rfl, H6⟩
   refine fP O (aY ?_)
   refine gV [(0, _), (2, _), (7, _)] (fun (z : Int) => [(1, .int .i64 z)]) (fun (z : Int) W => ((0 ≤ z ∧ z ≤ l.length) ∧ xQ (fun r => dH r big == dH (l.getD (y - 1).toNat 0) big) l z = xQ (fun r => dH r big == dH (l.getD (y - 1).toNat 0) big) l y) ∧ V w0 W F) (fun (z : Int) => z.toNat) (y) vZ mG ⟨⟨⟨by omega, by omega⟩, O⟩, H6⟩ ?_
   rintro z w7 ⟨⟨⟨hz0, hzl⟩, hz⟩, HM⟩
   dsimp only [List.cons_append, List.nil_append]
   refine aO (bT O (Z (dY O O) (jJ O (fun h7 => ?_) (fun h7 => ?_))))
   ·(try simp only [aA] at h7)
    refine bg (bP O (bg (bP O (bg (Z (iZ O O (by omega)) (bg (Z (dP aj bV O O (by omega)) (bg ?_))))))))
    refine Z (fG (dA bG O) O (by first | exact gJ.mZ (hr _ (HM)) (by omega) | exact gJ.yA (hr _ (HM)) (by omega) | exact gJ.xX (hr _ (HM)) (by omega))) ?_
    refine bg (bP O (bg (dS O func142 (nI HM hT) ?_)))
    rintro _ w8 ⟨rfl, H8⟩
    refine bg (bP O (bg (Z (dX O O) (jh O O (jL O (fun h8 => ?_) (fun h8 => ?_))))))
    ·(try simp only [aA] at h8)
     have hQ : (dH (l.getD (z - 1).toNat 0) big == dH (l.getD (y - 1).toNat 0) big) = true := by rw [beq_iff_eq]; exact h8
     refine gQ (aY (aC (bP O (Z (iZ O O (by omega)) (iJ O (bY (aK ?_)))))))
     refine dU (z - 1) ?_ ?_ ?_ ?_
     ·exact mG
     ·exact vZ
     ·(try dsimp only)
      first | done | exact ⟨⟨⟨by omega, by omega⟩, (KP (by omega) hzl hQ).symm.trans hz⟩, H8⟩
     ·(try dsimp only); omega
    ·(try simp only [aA] at h8)
     have hQ : ¬ (dH (l.getD (z - 1).toNat 0) big == dH (l.getD (y - 1).toNat 0) big) = true := by rw [beq_iff_eq]; exact h8
     refine dO (aN (aN (bn (aW (bT O (fC O (dK results96 O ?_)))))))
     exact ⟨by unfold CO; rw [e1]; first | (rw [if_neg (by omega)]; done) | (rw [if_pos (by omega), ← hz]; first | rw [xC (by omega)] | rw [zW (by omega) hzl hQ]), H8⟩
   ·(try simp only [aA] at h7)
    refine bF (bF (bF (bF (bF (bF (bF (bF (bF (ig O O (iL (qH (dO (aN (aN (bn (aW (bT O (fC O (dK results96 O ?_)))))))))))))))))))
    exact ⟨by unfold CO; rw [e1]; first | (rw [if_neg (by omega)]; done) | (rw [if_pos (by omega), ← hz]; first | rw [xC (by omega)] | rw [zW (by omega) hzl hQ]), HM⟩
  ·(try simp only [aA] at h6)
   refine gQ (bT O (fC O (dK results96 O ?_)))
   exact ⟨by unfold CO; rw [e1]; first | (rw [if_neg (by omega)]; done) | (rw [if_pos (by omega), ← hz]; first | rw [xC (by omega)] | rw [zW (by omega) hzl hQ]), HL⟩
theorem Zg (H : V w0 w F) (hr : jE w0 F .i32 v l) (hT : Ae w0) (hx0 : 0 ≤ x) (hx1 : x ≤ l.length) (hl8 : l.length ≤ 4611686018427387904) : iI prog 97 #[v, .int .i64 x, .bool big] w fun v' w' => v' = .int .i64 (Jr l x big) ∧ V w0 w' F := by
 refine AB func97 ntmps97 ?_
 refine jR O (bT O (Z (fO O O (by omega)) (vY O (aY ?_))))
 refine gV [(0, _), (2, _)] (fun (y : Int) => [(1, .int .i64 y)]) (fun (y : Int) W => ((0 ≤ y ∧ y ≤ l.length + 1) ∧ lF (fun r => fQ r == 0) l y = lF (fun r => fQ r == 0) l (x + 1)) ∧ V w0 W F) (fun (y : Int) => (l.length + 1 - y).toNat) (x + 1) ug mG ⟨⟨⟨by omega, by omega⟩, O⟩, H⟩ ?_
 rintro y w1 ⟨⟨⟨hy0, hyl⟩, hy⟩, HL⟩
 dsimp only [List.cons_append, List.nil_append]
 refine aO (bT O (bP O (Z (jy (hr _ (HL)) aj O) (Z (gB O O) (jJ O (fun h1 => ?_) (fun h1 => ?_))))))
 ·(try simp only [aA] at h1)
  refine bg (bP O (bg (bP O (bg ?_))))
  obtain ⟨bv, ov, cv, ev⟩ := gJ.rG (hr _ (HL)) (by omega)
  cases ev
  refine Z (dP aj bV O O (by omega)) (bg ?_)
  refine Z (fG (dA bG O) O (by first | exact gJ.mZ (hr _ (HL)) (by omega) | exact gJ.yA (hr _ (HL)) (by omega) | exact gJ.xX (hr _ (HL)) (by omega))) ?_
  refine bg (dS O func14 (qC HL hT) ?_)
  rintro _ w2 ⟨rfl, H2⟩
  refine bg (Z (dX O O) (jh O O (jL O (fun h2 => ?_) (fun h2 => ?_))))
  ·(try simp only [aA] at h2)
   have hP : (fQ (l.getD y.toNat 0) == 0) = true := by rw [beq_iff_eq]; exact h2
   refine gQ (aY (aC (bP O (Z (fO O O (by omega)) (iJ O (bY (aK ?_)))))))
   refine dU (y + 1) ?_ ?_ ?_ ?_
   ·exact mG
   ·exact ug
   ·(try dsimp only)
    first | done | exact ⟨⟨⟨by omega, by omega⟩, (tN hy0 (by omega) hP).symm.trans hy⟩, H2⟩
   ·(try dsimp only); omega
  ·(try simp only [aA] at h2)
   have hP : ¬ (fQ (l.getD y.toNat 0) == 0) = true := by rw [beq_iff_eq]; exact h2
   refine dO (aN (aN (bn (aW (aO (aO ?_))))))
   have e1 : lF (fun r => fQ r == 0) l (x + 1) = y := hy.symm.trans (by first | exact kK (by omega) | exact mM hy0 (by omega) hP)
   refine aC (jO O O (Z (jc aj O) (Z (mX O O) (jL O (fun h3 => ?_) (fun h3 => ?_)))))
   ·(try simp only [aA] at h3)
    refine bT O (Z (jc aj O) (Z (iZ O O (by omega)) (fC O (aB (dK results97 O ?_)))))
    exact ⟨by unfold Jr; rw [e1, if_pos (by omega)], H2⟩
   ·(try simp only [aA] at h3)
    refine gQ (bT O (bP O (Z (dP aj bV O O (by omega)) ?_)))
    refine Z (fG (dA bG O) O (by first | exact gJ.mZ (hr _ (H2)) (by omega) | exact gJ.yA (hr _ (H2)) (by omega) | exact gJ.xX (hr _ (H2)) (by omega))) ?_
    refine bP O (dS O func142 (nI H2 hT) ?_)
    rintro _ w3 ⟨rfl, H3⟩
    refine vY O (aY ?_)
    refine gV [(0, _), (2, _), (7, _)] (fun (z : Int) => [(1, .int .i64 z)]) (fun (z : Int) W => ((0 ≤ z ∧ z < l.length) ∧ lF (fun r => dH r big == dH (l.getD y.toNat 0) big) l (z + 1) = lF (fun r => dH r big == dH (l.getD y.toNat 0) big) l (y + 1)) ∧ V w0 W F) (fun (z : Int) => (l.length - z).toNat) (y) vZ mG ⟨⟨⟨by omega, by omega⟩, O⟩, H3⟩ ?_
    rintro z w4 ⟨⟨⟨hz0, hzl⟩, hz⟩, HM⟩
    dsimp only [List.cons_append, List.nil_append]
    refine aO (bT O (Z (fO O O (by omega)) (bP O (Z (jc aj O) (Z (gB O O) (jJ O (fun h4 => ?_) (fun h4 => ?_)))))))
    ·(try simp only [aA] at h4)
     refine bg (bP O (bg (bP O (bg (Z (fO O O (by omega)) (bg (Z (dP aj bV O O (by omega)) (bg ?_))))))))
     refine Z (fG (dA bG O) O (by first | exact gJ.mZ (hr _ (HM)) (by omega) | exact gJ.yA (hr _ (HM)) (by omega) | exact gJ.xX (hr _ (HM)) (by omega))) ?_
     refine bg (bP O (bg (dS O func142 (nI HM hT) ?_)))
     rintro _ w5 ⟨rfl, H5⟩
     refine bg (bP O (bg (Z (dX O O) (jh O O (jL O (fun h5 => ?_) (fun h5 => ?_))))))
     ·(try simp only [aA] at h5)
      have hQ : (dH (l.getD (z + 1).toNat 0) big == dH (l.getD y.toNat 0) big) = true := by rw [beq_iff_eq]; exact h5
      refine gQ (aY (aC (bP O (Z (fO O O (by omega)) (iJ O (bY (aK ?_)))))))
      refine dU (z + 1) ?_ ?_ ?_ ?_
      ·exact mG
      ·exact vZ
      ·(try dsimp only)
       first | done | exact ⟨⟨⟨by omega, by omega⟩, (tN (by omega) (by omega) hQ).symm.trans hz⟩, H5⟩
      ·(try dsimp only); omega
     ·(try simp only [aA] at h5)
      have hQ : ¬ (dH (l.getD (z + 1).toNat 0) big == dH (l.getD y.toNat 0) big) = true := by rw [beq_iff_eq]; exact h5
      refine dO (aN (aN (bn (aW (bT O (fC O (dK results97 O ?_)))))))
      exact ⟨by unfold Jr; rw [e1, if_neg (by omega), ← hz]; first | (rw [kK (by omega)]; congr 1; omega) | (rw [mM (by omega) (by omega) hQ]; congr 1; omega), H5⟩
    ·(try simp only [aA] at h4)
     refine bF (bF (bF (bF (bF (bF (bF (bF (bF (ig O O (iL (qH (dO (aN (aN (bn (aW (bT O (fC O (dK results97 O ?_)))))))))))))))))))
     exact ⟨by unfold Jr; rw [e1, if_neg (by omega), ← hz]; first | (rw [kK (by omega)]; congr 1; omega) | (rw [mM (by omega) (by omega) hQ]; congr 1; omega), HM⟩
 ·(try simp only [aA] at h1)
  refine bF (bF (bF (bF (bF (bF (ig O O (iL (qH (dO (aN (aN (bn (aW (aO (aO ?_)))))))))))))))
  have e1 : lF (fun r => fQ r == 0) l (x + 1) = y := hy.symm.trans (by first | exact kK (by omega) | exact mM hy0 (by omega) hP)
  refine aC (jO O O (Z (jy (hr _ (HL)) aj O) (Z (mX O O) (jL O (fun h6 => ?_) (fun h6 => ?_)))))
  ·(try simp only [aA] at h6)
   refine bT O (Z (jy (hr _ (HL)) aj O) (Z (iZ O O (by omega)) (fC O (aB (dK results97 O ?_)))))
   exact ⟨by unfold Jr; rw [e1, if_pos (by omega)], HL⟩
  ·(try simp only [aA] at h6)
   refine gQ (bT O (bP O ?_))
   obtain ⟨bv, ov, cv, ev⟩ := gJ.rG (hr _ (HL)) (by omega)
   cases ev
   refine Z (dP aj bV O O (by omega)) ?_
   refine Z (fG (dA bG O) O (by first | exact gJ.mZ (hr _ (HL)) (by omega) | exact gJ.yA (hr _ (HL)) (by omega) | exact gJ.xX (hr _ (HL)) (by omega))) ?_
   refine bP O (dS O func142 (nI HL hT) ?_)
   rintro _ w6 ⟨rfl, H6⟩
   refine vY O (aY ?_)
   refine gV [(0, _), (2, _), (7, _)] (fun (z : Int) => [(1, .int .i64 z)]) (fun (z : Int) W => ((0 ≤ z ∧ z < l.length) ∧ lF (fun r => dH r big == dH (l.getD y.toNat 0) big) l (z + 1) = lF (fun r => dH r big == dH (l.getD y.toNat 0) big) l (y + 1)) ∧ V w0 W F) (fun (z : Int) => (l.length - z).toNat) (y) vZ mG ⟨⟨⟨by omega, by omega⟩, O⟩, H6⟩ ?_
   rintro z w7 ⟨⟨⟨hz0, hzl⟩, hz⟩, HM⟩
   dsimp only [List.cons_append, List.nil_append]
   refine aO (bT O (Z (fO O O (by omega)) (bP O (Z (jc aj O) (Z (gB O O) (jJ O (fun h7 => ?_) (fun h7 => ?_)))))))
   ·(try simp only [aA] at h7)
    refine bg (bP O (bg (bP O (bg (Z (fO O O (by omega)) (bg (Z (dP aj bV O O (by omega)) (bg ?_))))))))
    refine Z (fG (dA bG O) O (by first | exact gJ.mZ (hr _ (HM)) (by omega) | exact gJ.yA (hr _ (HM)) (by omega) | exact gJ.xX (hr _ (HM)) (by omega))) ?_
    refine bg (bP O (bg (dS O func142 (nI HM hT) ?_)))
    rintro _ w8 ⟨rfl, H8⟩
    refine bg (bP O (bg (Z (dX O O) (jh O O (jL O (fun h8 => ?_) (fun h8 => ?_))))))
    ·(try simp only [aA] at h8)
     have hQ : (dH (l.getD (z + 1).toNat 0) big == dH (l.getD y.toNat 0) big) = true := by rw [beq_iff_eq]; exact h8
     refine gQ (aY (aC (bP O (Z (fO O O (by omega)) (iJ O (bY (aK ?_)))))))
     refine dU (z + 1) ?_ ?_ ?_ ?_
     ·exact mG
     ·exact vZ
     ·(try dsimp only)
      first | done | exact ⟨⟨⟨by omega, by omega⟩, (tN (by omega) (by omega) hQ).symm.trans hz⟩, H8⟩
     ·(try dsimp only); omega
    ·(try simp only [aA] at h8)
     have hQ : ¬ (dH (l.getD (z + 1).toNat 0) big == dH (l.getD y.toNat 0) big) = true := by rw [beq_iff_eq]; exact h8
     refine dO (aN (aN (bn (aW (bT O (fC O (dK results97 O ?_)))))))
     exact ⟨by unfold Jr; rw [e1, if_neg (by omega), ← hz]; first | (rw [kK (by omega)]; congr 1; omega) | (rw [mM (by omega) (by omega) hQ]; congr 1; omega), H8⟩
   ·(try simp only [aA] at h7)
    refine bF (bF (bF (bF (bF (bF (bF (bF (bF (ig O O (iL (qH (dO (aN (aN (bn (aW (bT O (fC O (dK results97 O ?_)))))))))))))))))))
    exact ⟨by unfold Jr; rw [e1, if_neg (by omega), ← hz]; first | (rw [kK (by omega)]; congr 1; omega) | (rw [mM (by omega) (by omega) hQ]; congr 1; omega), HM⟩
end
end Go.Proofs.YtpdeedplgmbopaaGreatDoor
end
section
namespace Go.Proofs.YtpdeedplgmbopaaGreatDoor
open Go.RowKit
def KR (f : Int → Int → Option Int) : Int → List Int → Option Int
  | _, [] => none
  | s, x :: l => match f s x with
    | none => some 0
    | some t => (KR f t l).map (· + 1)
def yu (st : Int) (f : Int → Int → Option Int) (l : List Int) (s i : Int) : Option Int :=
  if 0 ≤ i ∧ i < l.length then (if st = 1 then (KR f s (l.drop i.toNat)).map (i + ·) else (KR f s (l.take (i.toNat + 1)).reverse).map (i - ·)) else none
section
variable {st s t i : Int} {f : Int → Int → Option Int} {l : List Int}
theorem Ei (h : ¬ (0 ≤ i ∧ i < l.length)) : yu st f l s i = none := if_neg h
theorem NY (h0 : 0 ≤ i) (h1 : i < l.length) : (l.take (i.toNat + 1)).reverse = l.getD i.toNat 0 :: (l.take i.toNat).reverse := by
  rw [List.take_succ_eq_append_getElem (by omega), List.reverse_append, List.getD_eq_getElem?_getD, List.getElem?_eq_getElem (by omega)]
  rfl
theorem VQ (h0 : 0 ≤ i) (h1 : i < l.length) : l.drop i.toNat = l.getD i.toNat 0 :: l.drop (i.toNat + 1) := by
  rw [List.drop_eq_getElem_cons (by omega), List.getD_eq_getElem?_getD, List.getElem?_eq_getElem (by omega)]
  rfl
theorem Ej (h0 : 0 ≤ i) (h1 : i < l.length) (hf : f s (l.getD i.toNat 0) = none) : yu st f l s i = some i := by
  unfold yu
  rw [if_pos ⟨h0, h1⟩, VQ h0 h1, NY h0 h1, KR, KR, hf]
  split <;> simp
theorem KT (hst : st = 1 ∨ st = -1) (h0 : 0 ≤ i) (h1 : i < l.length) (hf : f s (l.getD i.toNat 0) = some t) : yu st f l s i = yu st f l t (i + st) := by
  unfold yu
  rw [if_pos ⟨h0, h1⟩, VQ h0 h1, NY h0 h1, KR, KR, hf]
  dsimp only
  rcases hst with rfl | rfl
  · rw [if_pos rfl, if_pos rfl]
    by_cases h2 : i + 1 < l.length
    · rw [if_pos ⟨by omega, h2⟩, show (i + 1).toNat = i.toNat + 1 from by omega, Option.map_map]
      congr 1
      funext x
      simp; omega
    · rw [if_neg (by omega), List.drop_of_length_le (by omega)]
      rfl
  · rw [if_neg (show ¬ ((-1 : Int) = 1) by decide), if_neg (show ¬ ((-1 : Int) = 1) by decide)]
    by_cases h2 : 0 < i
    · rw [if_pos ⟨by omega, by omega⟩, show (i + -1).toNat + 1 = i.toNat from by omega, Option.map_map]
      congr 1
      funext x
      simp; omega
    · rw [if_neg (by omega), show i.toNat = 0 from by omega]
      rfl
end
def EU (c : Int) (n x : Int) : Option Int := if x = c then (if n ≤ 1 then none else some (n - 1)) else some n
def KU (a b : Int) (d x : Int) : Option Int := if d + (if x = a then 1 else 0) - (if x = b then 1 else 0) = 0 then none else some (d + (if x = a then 1 else 0) - (if x = b then 1 else 0))
def A8 (g : Int → Int) : Nat → Int → Int
  | 0, x => x
  | n + 1, x => if g x = x then x else A8 g n (g x)
def aew (g : Int → Int) : Nat → Int → Int
  | 0, x => x
  | n + 1, x => aew g n (g x)
section
variable {g : Int → Int}
theorem KW {n : Nat} {x : Int} (h : g x = x) : A8 g n x = x := by cases n with
  | zero => rfl
  | succ n => rw [A8, if_pos h]
theorem Ur {n : Nat} {x : Int} (hn : 0 < n) (h : ¬ g x = x) : A8 g n x = A8 g (n - 1) (g x) := by
  obtain ⟨m, rfl⟩ : ∃ m, n = m + 1 := ⟨n - 1, by omega⟩
  rw [A8, if_neg h]; rfl
end
section
variable {l : List Int} {x : Int} {big : Bool}
theorem Zh (l : List Int) {x : Int} (big : Bool) (h0 : 0 ≤ x) (h1 : x ≤ l.length) : x ≤ zX l x big ∧ zX l x big ≤ l.length := by
  unfold zX
  by_cases h2 : x < l.length
  · rw [if_pos h2]
    by_cases h3 : dH (l.getD x.toNat 0) big = 0
    · rw [if_pos h3]; exact uj h0 h1
    · rw [if_neg h3]
      have h4 := uj (P := fun r => dH r big == dH (l.getD x.toNat 0) big) h0 h1
      have h5 := uj (P := fun r => fQ r == 0) (l := l) (x := lF (fun r => dH r big == dH (l.getD x.toNat 0) big) l x) (by omega) h4.2
      omega
  · rw [if_neg h2]; exact uj h0 h1
theorem Zi (l : List Int) {x : Int} (big : Bool) (h0 : 0 ≤ x) (h1 : x ≤ l.length) : 0 ≤ CO l x big ∧ CO l x big ≤ x := by
  unfold CO
  have h2 := KQ (P := fun r => fQ r == 0) h0 h1
  split
  · have h3 := KQ (P := fun r => dH r big == dH (l.getD (xQ (fun r => fQ r == 0) l x - 1).toNat 0) big) (l := l) (x := xQ (fun r => fQ r == 0) l x) h2.1 (by omega)
    omega
  · exact h2
theorem aa1 (l : List Int) {x : Int} (big : Bool) (h0 : 0 ≤ x) (h1 : x < l.length) : x ≤ Jr l x big ∧ Jr l x big < l.length := by
  unfold Jr
  by_cases h9 : (l.length : Int) ≤ x + 1
  · rw [kK h9, if_pos h9]; omega
  · have h2 := uj (P := fun r => fQ r == 0) (l := l) (x := x + 1) (by omega) (by omega)
    split
    · omega
    · have h3 := uj (P := fun r => dH r big == dH (l.getD (lF (fun r => fQ r == 0) l (x + 1)).toNat 0) big) (l := l) (x := lF (fun r => fQ r == 0) l (x + 1) + 1) (by omega) (by omega)
      omega
end
def sK (key : Int) : Int := if key = 70 ∨ key = 84 then -1 else 1
def Ik (l : List Int) (x key c n : Int) : Int × Bool × Bool := match yu (sK key) (EU c) l n (x + sK key) with
  | none => (0, false, false)
  | some i => (if key = 116 ∨ key = 84 then i - sK key else i, decide (0 < sK key), true)
def yO (r : Int) : Bool := r == 40 || r == 91 || r == 123 || r == 41 || r == 93 || r == 125
def Gv (r : Int) : Int := if r = 40 ∨ r = 91 ∨ r = 123 then 1 else -1
def Il (r : Int) : Int := if r = 40 then 41 else if r = 41 then 40 else if r = 91 then 93 else if r = 93 then 91 else if r = 123 then 125 else 123
def zy (l : List Int) (x : Int) : Int × Bool × Bool :=
  if (l.length : Int) ≤ lF (fun r => !yO r) l x then (0, false, false) else
  match yu (Gv (l.getD (lF (fun r => !yO r) l x).toNat 0)) (KU (l.getD (lF (fun r => !yO r) l x).toNat 0) (Il (l.getD (lF (fun r => !yO r) l x).toNat 0))) l 0 (lF (fun r => !yO r) l x) with
  | none => (0, false, false)
  | some j => (j, true, true)
def zA (l : List Int) (x key n : Int) : Int × Bool × Bool :=
  if key = 119 ∨ key = 87 then (if x < l.length then (A8 (fun y => zX l y (key == 87)) n.toNat x, false, true) else (0, false, false))
  else if key = 98 ∨ key = 66 then (if 0 < x then (A8 (fun y => CO l y (key == 66)) n.toNat x, false, true) else (0, false, false))
  else if key = 101 ∨ key = 69 then (if x < l.length - 1 then (A8 (fun y => Jr l y (key == 69)) n.toNat x, true, true) else (0, false, false))
  else (0, false, false)
def lG (l : List Int) (x key c n : Int) : Int × Bool × Bool :=
  if key = 104 then (if x = 0 then (0, false, false) else (x - min n x, false, true))
  else if key = 108 ∨ key = 32 then (if x = l.length then (0, false, false) else (x + min n (l.length - x), false, true))
  else if key = 48 then (0, false, true)
  else if key = 36 then (l.length, false, true)
  else if key = 94 then (lF (fun r => fQ r == 0) l 0, false, true)
  else if key = 124 then (min (n - 1) l.length, false, true)
  else if key = 102 ∨ key = 70 ∨ key = 116 ∨ key = 84 then Ik l x key c n
  else if key = 37 then zy l x
  else zA l x key n
def wY (l : List Int) (x key c n : Int) : Int × Bool × Bool := lG l (min (max x 0) l.length) key c (max n 1)
def Xj (q : Int × Bool × Bool) : Value := .tuple #[.int .i64 q.1, .bool q.2.1, .bool q.2.2]
section
variable {P : Program} {L : List (Nat × Value)} {w : World} {ty t t' : TypeId} {x y : Operand} {k k2 : IntKind} {m n : Int}
theorem aa2 (o : BinOp) (hx : ev L x = some (.int k m)) (hy : ev L y = some (.int k n)) (ho : o = .and ∨ o = .or ∨ o = .xor ∨ o = .andNot) : Val P L (.binOp o t x y t') ty w (.int k (bits o k m n)) w :=
  acr o hx hy ho (by rcases ho with rfl | rfl | rfl | rfl <;> rfl)
theorem JC {n : Int} (h : -2147483648 ≤ n ∧ n < 2147483648) : IntKind.i32.wrap n = n := by rw [IntKind.wrap_i32]; omega
theorem VR {n : Int} (h : -9223372036854775808 ≤ n ∧ n < 9223372036854775808) : IntKind.i64.wrap n = n := by rw [IntKind.wrap_i64]; omega
theorem NZ {src dst : TypeId} (hx : ev L x = some (.int k m)) (hs : (P.underlying src).isSome = true) (hd : P.underlying dst = some (.int .u8)) : Val P L (.convert src dst x) ty w (.int .u8 (m % 256)) w := fun ρ hρ _ _ _ _ => by
  obtain ⟨ds, hs'⟩ := Option.isSome_iff_exists.1 hs
  simp only [execOp, hρ _ _ hx]
  simp [convert, run_underlying hs', run_underlying hd, Conv.intToInt, IntKind.wrap_u8]
end
end Go.Proofs.YtpdeedplgmbopaaGreatDoor
end
section
namespace Go.Proofs.YtpdeedplgmbopaaGreatDoor
open Go.RowKit
open _root_.Go.Proofs.Tryz
def Zj (k : Int) : Bool := decide (48 ≤ k) && decide (k ≤ 57)
def yP (l : List Int) : List Int := if l.getD 0 0 = 48 then [] else l.takeWhile Zj
def KX (n k : Int) : Int := min (n * 10 + (k - 48)) 1000000
def aex (l : List Int) : Int := (yP l).foldl KX 0
def mV (l : List Int) : List Int := l.drop (yP l).length
theorem aey {p : Int → Bool} {l : List Int} : ∀ {i : Nat}, i ≤ (l.takeWhile p).length → (i < (l.takeWhile p).length ↔ (i < l.length ∧ p (l.getD i 0) = true)) := by
  induction l with
  | nil => intro i h; simp
  | cons x l ih =>
    intro i h
    rw [List.takeWhile_cons] at h ⊢
    by_cases hx : p x = true
    · rw [if_pos hx] at h ⊢
      cases i with
      | zero => simp [hx]
      | succ i =>
        rw [List.length_cons] at h
        have := ih (i := i) (by omega)
        rw [List.length_cons, List.length_cons, List.getD_cons_succ, Nat.add_lt_add_iff_right, Nat.add_lt_add_iff_right]
        exact this
    · rw [if_neg hx] at h ⊢
      have : i = 0 := by simpa using h
      subst this
      simp [hx]
theorem acQ {p : Int → Bool} {l : List Int} {i : Nat} (h : i < (l.takeWhile p).length) : (l.takeWhile p).getD i 0 = l.getD i 0 := by
  induction l generalizing i with
  | nil => simp at h
  | cons x l ih =>
    rw [List.takeWhile_cons] at h ⊢
    by_cases hx : p x = true
    · rw [if_pos hx] at h ⊢
      cases i with
      | zero => rfl
      | succ i => rw [List.length_cons] at h; rw [List.getD_cons_succ, List.getD_cons_succ]; exact ih (by omega)
    · rw [if_neg hx] at h; simp at h
section
variable {l : List Int} {i : Nat}
theorem acR (h : i ≤ (yP l).length) : i < (yP l).length ↔ ((i : Int) < l.length ∧ 48 ≤ l.getD i 0 ∧ l.getD i 0 ≤ 57 ∧ (0 < i ∨ ¬ l.getD i 0 = 48)) := by
  unfold yP at h ⊢
  by_cases h0 : l.getD 0 0 = 48
  · rw [if_pos h0] at h ⊢
    have : i = 0 := by simpa using h
    subst this
    constructor
    · intro h9; simp at h9
    · rintro ⟨_, _, _, h9 | h9⟩
      · omega
      · exact absurd h0 h9
  · rw [if_neg h0] at h ⊢
    rw [aey h]
    unfold Zj
    rw [Bool.and_eq_true, decide_eq_true_iff, decide_eq_true_iff]
    have h1 : 0 < i ∨ ¬ l.getD i 0 = 48 := by
      cases i with
      | zero => exact .inr h0
      | succ i => exact .inl (by omega)
    omega
theorem aa3 (h : i < (yP l).length) : (yP l).getD i 0 = l.getD i 0 := by
  unfold yP at h ⊢
  by_cases h0 : l.getD 0 0 = 48
  · rw [if_pos h0] at h; simp at h
  · rw [if_neg h0] at h ⊢; exact acQ h
theorem Rh (h : i < (yP l).length) : ((yP l).take (i + 1)).foldl KX 0 = KX (((yP l).take i).foldl KX 0) (l.getD i 0) := by
  rw [List.take_succ_eq_append_getElem h, List.foldl_append, ← aa3 h, List.getD_eq_getElem?_getD, List.getElem?_eq_getElem h]
  rfl
theorem JD : ((yP l).take (yP l).length).foldl KX 0 = aex l := by rw [List.take_length]; rfl
theorem VT {n k : Int} (h : 0 ≤ n ∧ n ≤ 1000000) (hk : 48 ≤ k ∧ k ≤ 57) : 0 ≤ KX n k ∧ KX n k ≤ 1000000 := by unfold KX; omega
theorem acS : (yP l).length ≤ l.length := by
  unfold yP; split
  · simp
  · exact (List.takeWhile_sublist Zj).length_le
end
section
variable {w0 w : World} {F : HP} {v : Value} {l : List Int}
theorem Po (H : V w0 w F) (hr : jE w0 F .i32 v l) : iI prog 51 #[v] w fun u w' => ∃ kv, u = .tuple #[kv, .int .i64 (aex l)] ∧ jE w0 F .i32 kv (mV l) ∧ V w0 w' F := by
 have hl9 : l.length ≤ 9223372036854775807 := by have := (hr _ H).open; obtain ⟨a, c, e, h3, h4, _⟩ := this; omega
 have hcl := acS (l := l)
 refine jr func51 ntmps51 ?_
 refine iV (iJ O (fP O (iV (iJ O (vY O (aY ?_))))))
 refine gV [(0, _)] (fun (⟨i, n⟩ : Nat × Int) => [(4, .int .i64 n), (5, .int .i64 (i : Int))]) (fun (⟨i, n⟩ : Nat × Int) W => (i ≤ (yP l).length ∧ (0 ≤ n ∧ n ≤ 1000000) ∧ n = ((yP l).take i).foldl KX 0) ∧ V w0 W F) (fun (⟨i, n⟩ : Nat × Int) => (yP l).length - i) ((0, 0)) mG ug ⟨⟨by omega, by omega, O⟩, H⟩ ?_
 rintro ⟨i, n⟩ w1 ⟨⟨hi, hn, hE⟩, HL⟩
 dsimp only [List.cons_append, List.nil_append]
 have hca := acR (l := l) hi
 refine aO (bT O (bP O (Z (jy (hr _ (HL)) aj O) (Z (gB O O) (jJ O (fun h1 => ?_) (fun h1 => ?_))))))
 ·(try simp only [aA] at h1)
  refine bg (bP O (bg (bP O (bg ?_))))
  obtain ⟨bv, ov, cv, ev⟩ := gJ.rG (hr _ (HL)) (by omega)
  cases ev
  refine Z (dP aj bV O O (by omega)) (bg ?_)
  refine Z (fG (dA bG O) O (by first | exact gJ.mZ (hr _ (HL)) (by omega) | exact gJ.yA (hr _ (HL)) (by omega) | exact gJ.xX (hr _ (HL)) (by omega))) ?_
  refine bg (Z (mX O O) (jh O O (jJ O (fun h2 => ?_) (fun h2 => ?_))))
  ·(try simp only [aA] at h2)
   refine bg (bP O (bg (bP O (bg (Z (dP aj bV O O (by omega)) (bg ?_))))))
   refine Z (fG (dA bG O) O (by first | exact gJ.mZ (hr _ (HL)) (by omega) | exact gJ.yA (hr _ (HL)) (by omega) | exact gJ.xX (hr _ (HL)) (by omega))) ?_
   refine bg (Z (sG O O) (jh O O (jJ O (fun h3 => ?_) (fun h3 => ?_))))
   ·(try simp only [aA] at h3)
    refine bg (bP O (bg (Z (dY O O) (bg (jJ O (fun h4 => ?_) (fun h4 => ?_))))))
    ·(try simp only [aA] at h4)
     refine bF (bF (bF (bF (bF (bg (jh O O (jh O O (iL (C9 (gQ (aY (aO ?_))))))))))))
     have hlt : i < (yP l).length := by omega
     refine aC (bP O (Z (abL O O (by omega)) (jO O O (Z (dP aj bV O O (by omega)) ?_))))
     refine Z (fG (dA bG O) O (by first | exact gJ.mZ (hr _ (HL)) (by omega) | exact gJ.yA (hr _ (HL)) (by omega) | exact gJ.xX (hr _ (HL)) (by omega))) ?_
     refine Z (Qb (Yd O O) (congrArg (Value.int .i32) (JC (by omega)))) ?_
     refine Z (Bj O (by rw [underlying21]; rfl) aH (VR (by omega))) ?_
     refine Z (fO O O (by omega)) (Z (Cb O O) (fP O (aC (bP O (Z (fO O O (by omega)) (iJ O (bY (aK ?_))))))))
     refine dU ((i + 1, KX n (l.getD i 0))) ?_ ?_ ?_ ?_
     ·exact ug
     ·exact mG
     ·(try dsimp only)
      first | done | exact ⟨⟨by omega, VT hn (by omega), by rw [Rh hlt, ← hE]⟩, HL⟩
     ·(try dsimp only); omega
    ·(try simp only [aA] at h4)
     refine bg (bP O (bg (bP O (bg (Z (dP aj bV O O (by omega)) (bg ?_))))))
     refine Z (fG (dA bG O) O (by first | exact gJ.mZ (hr _ (HL)) (by omega) | exact gJ.yA (hr _ (HL)) (by omega) | exact gJ.xX (hr _ (HL)) (by omega))) ?_
     refine bg (Z (iM O O) (bg (ig O O (jh O O (jL O (fun h5 => ?_) (fun h5 => ?_))))))
     ·(try simp only [aA] at h5)
      refine gQ (aY (aO ?_))
      have hlt : i < (yP l).length := by omega
      refine aC (bP O (Z (abL O O (by omega)) (jO O O (Z (dP aj bV O O (by omega)) ?_))))
      refine Z (fG (dA bG O) O (by first | exact gJ.mZ (hr _ (HL)) (by omega) | exact gJ.yA (hr _ (HL)) (by omega) | exact gJ.xX (hr _ (HL)) (by omega))) ?_
      refine Z (Qb (Yd O O) (congrArg (Value.int .i32) (JC (by omega)))) ?_
      refine Z (Bj O (by rw [underlying21]; rfl) aH (VR (by omega))) ?_
      refine Z (fO O O (by omega)) (Z (Cb O O) (fP O (aC (bP O (Z (fO O O (by omega)) (iJ O (bY (aK ?_))))))))
      refine dU ((i + 1, KX n (l.getD i 0))) ?_ ?_ ?_ ?_
      ·exact ug
      ·exact mG
      ·(try dsimp only)
       first | done | exact ⟨⟨by omega, VT hn (by omega), by rw [Rh hlt, ← hE]⟩, HL⟩
      ·(try dsimp only); omega
     ·(try simp only [aA] at h5)
      refine dO (aN (aN (bn (aW (aO ?_)))))
      have hlt : i = (yP l).length := by omega
      refine aC (jO O O (Z (rH (hr _ (HL)) aj bV O O O (by omega)) ?_))
      refine bP O (iJ O (fC O (P5 results51 O O ?_)))
      exact ⟨_, by rw [hE, hlt, JD], fun W HW => by unfold mV; rw [← hlt]; exact (hr W HW).from (by omega), HL⟩
   ·(try simp only [aA] at h3)
    refine bF (bF (bF (mY (mY (mY (mY (mY (bF (ig O O (iL (qH (dO (aN (aN (bn (aW (aO ?_)))))))))))))))))
    have hlt : i = (yP l).length := by omega
    refine aC (jO O O (Z (rH (hr _ (HL)) aj bV O O O (by omega)) ?_))
    refine bP O (iJ O (fC O (P5 results51 O O ?_)))
    exact ⟨_, by rw [hE, hlt, JD], fun W HW => by unfold mV; rw [← hlt]; exact (hr W HW).from (by omega), HL⟩
  ·(try simp only [aA] at h2)
   refine bF (bF (bF (bF (bF (ig O O (bP O (bF (bF (bF (mY (mY (mY (mY (mY (bF (ig O O (iL (qH (dO (aN (aN (bn (aW (aO ?_))))))))))))))))))))))))
   have hlt : i = (yP l).length := by omega
   refine aC (jO O O (Z (rH (hr _ (HL)) aj bV O O O (by omega)) ?_))
   refine bP O (iJ O (fC O (P5 results51 O O ?_)))
   exact ⟨_, by rw [hE, hlt, JD], fun W HW => by unfold mV; rw [← hlt]; exact (hr W HW).from (by omega), HL⟩
 ·(try simp only [aA] at h1)
  refine bF (bF (bF (bF (bF (ig O O (bP O (bF (bF (bF (bF (bF (ig O O (bP O (bF (bF (bF (mY (mY (mY (mY (mY (bF (ig O O (iL (qH (dO (aN (aN (bn (aW (aO ?_)))))))))))))))))))))))))))))))
  have hlt : i = (yP l).length := by omega
  refine aC (jO O O (Z (rH (hr _ (HL)) aj bV O O O (by omega)) ?_))
  refine bP O (iJ O (fC O (P5 results51 O O ?_)))
  exact ⟨_, by rw [hE, hlt, JD], fun W HW => by unfold mV; rw [← hlt]; exact (hr W HW).from (by omega), HL⟩
end
end Go.Proofs.YtpdeedplgmbopaaGreatDoor
end
section
namespace Go.Proofs.YtpdeedplgmbopaaGreatDoor
open Go.RowKit Go.Lib
section
variable {P : Program} {N : Sh} {Q : Exit → Act → World → Prop} {L : List (Nat × Value)} {w : World}
end
def sb (s : ByteArray) (i : Nat) : Int := ((s.data.toList.getD i 0).toNat : Nat)
theorem acT {s : ByteArray} {i : Nat} (h : i < s.size) : ((s[i]'h).toNat : Int) = sb s i := by
  unfold sb
  rw [List.getD_eq_getElem?_getD, List.getElem?_eq_getElem (by rw [Array.length_toList]; exact h)]
  rfl
section
variable {P : Program} {L : List (Nat × Value)} {w w0 : World} {ty : TypeId} {x y : Operand} {F : HP}
theorem I8 {t : TypeId} {s : ByteArray} {k : IntKind} {i : Int} (ht : P.underlying t = some .string) (hx : ev L x = some (.string s)) (hy : ev L y = some (.int k i)) (h : 0 ≤ i ∧ i < s.size) :
    Val P L (.index t x y) ty w (.int .u8 (sb s i.toNat)) w := fun ρ hρ _ _ _ _ => by
  simp only [execOp, hρ _ _ hx, hρ _ _ hy, Sem.run_bind]
  rw [run_index_string (w := w) t s k i ht, dif_pos h, acT]
  rfl
theorem aez {f : FuncId} {args : List Operand} {ts : Array TypeId} {vs : List Value} {fn : Func} {e : Array Value → Sem Value} {v : Value} (ha : FW L args = some vs)
    (hf : P.funcs[f]? = some fn) (hname : (fn.name == "runtime.NumGoroutine") = false) (hb : fn.body.isNone = true) (hn : Extern.findNext fn = none) (he : Extern.find fn = some e) (hr : (e vs.toArray).run P w = .ok v w) :
    Val P L (.call ⟨.value (.func f), args.toArray, ts⟩) ty w v w := fun ρ hρ _ _ _ _ => by
  have hg : ρ (.func f) = .func (.func f) #[] #[] := hρ _ _ rfl
  have hc := run_callFunc_extern hf hname hb hn he vs.toArray w
  rw [hr] at hc
  simp [execOp, resolve, invoke, evs hρ _ _ ha, hg, Deferred.ofValue]
  exact hc
def ag9 (s : ByteArray) (k : Nat) : Value := if k < s.size then .tuple #[.bool true, .int .i64 k, .int .i32 (sb s k)] else .tuple #[.bool false]
end
theorem ab0 {s : ByteArray} (hs : ∀ c ∈ s.data.toList, c.toNat < 128) (i : Nat) : 0 ≤ sb s i ∧ sb s i < 128 := by
  unfold sb
  rw [List.getD_eq_getElem?_getD]
  by_cases h : i < s.data.toList.length
  · rw [List.getElem?_eq_getElem h]
    have := hs _ (List.getElem_mem h)
    show 0 ≤ ((s.data.toList[i].toNat : Nat) : Int) ∧ ((s.data.toList[i].toNat : Nat) : Int) < 128
    omega
  · rw [List.getElem?_eq_none (by omega)]; decide
section
variable {w0 w : World} {F : HP} {s : ByteArray} {r c : Int}
theorem MJ : iI Tryz.prog 143 #[.string s, .int .u8 c] w fun v w' => v = .int .i64 (indexByte s.data.toList c.toNat.toUInt8) ∧ w = w' := by
  refine oN Tryz.func143 Tryz.ntmps143 ?_
  refine jR O (bT O (bP O (Z (aez O Tryz.func180 O O (by kernel_rfl) (by kernel_rfl) (run_indexByteString _ _ _)) (fC O (dK Tryz.results143 O ?_)))))
  exact ⟨O, O⟩
theorem Gw : iI Tryz.prog 98 #[.string s, .int .u8 c] w fun v w' => v = .int .i64 (indexByte s.data.toList c.toNat.toUInt8) ∧ w = w' := by
  refine oN Tryz.func98 Tryz.ntmps98 ?_
  refine jR O (bT O (bP O (dS O Tryz.func143 (MJ) ?_)))
  rintro _ _ ⟨rfl, rfl⟩
  refine fC O (dK Tryz.results98 O ?_)
  exact ⟨O, O⟩
def ahB (s : ByteArray) (r : Int) : Int := if 0 ≤ r ∧ r < 128 then indexByte s.data.toList r.toNat.toUInt8 else -1
end
theorem aa4 {l : List UInt8} {c : UInt8} : 0 ≤ indexByte l c ↔ c ∈ l := by
  induction l with
  | nil => simp [indexByte]
  | cons b l ih =>
    have h1 := indexByte_ge l c
    unfold indexByte
    by_cases hb : b = c
    · simp [hb]
    · rw [if_neg (by simpa using hb)]
      by_cases h2 : indexByte l c = -1
      · rw [if_pos (by simpa using h2)]
        have : c ∉ l := fun h => by have := ih.2 h; omega
        simp [this, Ne.symm hb]
      · rw [if_neg (by simpa using h2)]
        have : c ∈ l := ih.1 (by omega)
        simp [this]; omega
def CV (s : ByteArray) : List Int := s.data.toList.map fun b => (b.toNat : Int)
def Asc (s : ByteArray) : Prop := ∀ x ∈ s.data.toList, 0 < x.toNat ∧ x.toNat < 128
instance (s : ByteArray) : Decidable (Asc s) := by unfold Asc; infer_instance
theorem Aq {s : ByteArray} (hs : Asc s) {r : Int} : (0 < r ∧ r < 128 ∧ 0 ≤ indexByte s.data.toList r.toNat.toUInt8) ↔ r ∈ CV s := by
  rw [aa4]
  unfold CV
  rw [List.mem_map]
  constructor
  · rintro ⟨h1, h2, h3⟩
    refine ⟨_, h3, ?_⟩
    rw [show r.toNat.toUInt8.toNat = r.toNat % 256 from by simp [Nat.toUInt8]]
    omega
  · rintro ⟨b, hb, rfl⟩
    have := hs b hb
    refine ⟨by omega, by omega, ?_⟩
    rw [show ((b.toNat : Int)).toNat.toUInt8 = b from by rw [Int.toNat_natCast]; simp [Nat.toUInt8]]
    exact hb
section
variable {w0 w : World} {F : HP} {r : Int} {s : ByteArray}
theorem Em (hs : Asc s) : iI Tryz.prog 50 #[.int .i32 r, .string s] w fun v w' => v = .bool (decide (r ∈ CV s)) ∧ w = w' := by
  have hi := Aq hs (r := r)
  refine oN Tryz.func50 Tryz.ntmps50 ?_
  refine jR O (bT O (Z (dY O O) (jJ O (fun h1 => ?_) (fun h1 => ?_))))
  · (try simp only [aA] at h1)
    try (exfalso; first | contradiction | omega)
    all_goals
      refine bg (bP O (bg (Z (gB O O) (jh O O (jJ O (fun h2 => ?_) (fun h2 => ?_))))))
      · (try simp only [aA] at h2)
        try (exfalso; first | contradiction | omega)
        all_goals
          refine bg (bP O (bg (bP O (bg ?_))))
          refine Z (NZ O (by rw [Tryz.underlying21]; rfl) Tryz.underlying5) ?_
          refine bg (dS O Tryz.func98 (Gw) ?_)
          rintro _ _ ⟨rfl, rfl⟩
          refine bg (Z (mX O O) (jh O O (fC O (dK Tryz.results50 O ?_))))
          refine ⟨congrArg Value.bool ?_, O⟩; first | exact (decide_eq_false (fun c => by have := (Aq hs).2 c; omega)).symm | (rw [show r % 256 = r from by omega]; exact decide_eq_decide.2 ⟨fun c => (Aq hs).1 ⟨by omega, by omega, c⟩, fun c => ((Aq hs).2 c).2.2⟩)
      · (try simp only [aA] at h2)
        try (exfalso; first | contradiction | omega)
        all_goals
          refine bF (bF (bF (bF (bF (ig O O (fC O (dK Tryz.results50 O ?_)))))))
          refine ⟨congrArg Value.bool ?_, O⟩; first | exact (decide_eq_false (fun c => by have := (Aq hs).2 c; omega)).symm | (rw [show r % 256 = r from by omega]; exact decide_eq_decide.2 ⟨fun c => (Aq hs).1 ⟨by omega, by omega, c⟩, fun c => ((Aq hs).2 c).2.2⟩)
  · (try simp only [aA] at h1)
    try (exfalso; first | contradiction | omega)
    all_goals
      refine bF (bF (ig O O (bP O (bF (bF (bF (bF (bF (ig O O (fC O (dK Tryz.results50 O ?_)))))))))))
      refine ⟨congrArg Value.bool ?_, O⟩; first | exact (decide_eq_false (fun c => by have := (Aq hs).2 c; omega)).symm | (rw [show r % 256 = r from by omega]; exact decide_eq_decide.2 ⟨fun c => (Aq hs).1 ⟨by omega, by omega, c⟩, fun c => ((Aq hs).2 c).2.2⟩)
end
end Go.Proofs.YtpdeedplgmbopaaGreatDoor
end
