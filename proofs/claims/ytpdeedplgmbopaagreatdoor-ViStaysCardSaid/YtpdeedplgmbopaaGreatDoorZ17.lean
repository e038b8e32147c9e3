import Derived.Test.YtpdeedplgmbopaaGreatDoorZ4
import Derived.Test.YtpdeedplgmbopaaGreatDoorZ16
import Derived.Test.YtpdeedplgmbopaaGreatDoorZ15
import Derived.Test.YtpdeedplgmbopaaGreatDoorZ3
import Derived.Scope
import Derived.Laws.RangeString
import Derived.Lib.OthersKept
import Derived.Lib.Bytealg
import Derived.Test.YtpdeedplgmbopaaGreatDoorProg
import Derived.Test.YtpdeedplgmbopaaGreatDoorZ2
import Derived.Test.YtpdeedplgmbopaaGreatDoorZ6
import Derived.Test.YtpdeedplgmbopaaGreatDoorZ9
import Derived.Test.YtpdeedplgmbopaaGreatDoorZ5
import Derived.Test.YtpdeedplgmbopaaGreatDoorZ8
set_option linter.unusedSimpArgs false
set_option linter.unusedVariables false
/- Texts of mine, joined, their names in short: VW4 VS VN Str StrF VI VC HistF RHist. -/
section
namespace Go.Proofs.YtpdeedplgmbopaaGreatDoor
open Go.RowKit
open _root_.Go.Proofs.Tryz
def Gu (l : List Int) (x : Int) (big : Bool) : Int :=
  if 0 < BG (fun r => jc r == 0) l x then BG (fun r => fE r big == fE (l.getD (BG (fun r => jc r == 0) l x - 1).toNat 0) big) l (BG (fun r => jc r == 0) l x) else BG (fun r => jc r == 0) l x
def NW (l : List Int) (x : Int) (big : Bool) : Int :=
  if (l.length : Int) ≤ oJ (fun r => jc r == 0) l (x + 1) then (l.length : Int) - 1 else oJ (fun r => fE r big == fE (l.getD (oJ (fun r => jc r == 0) l (x + 1)).toNat 0) big) l (oJ (fun r => jc r == 0) l (x + 1) + 1) - 1
section
variable {w0 w : World} {F : HP} {r x : Int} {big : Bool} {l : List Int} {v : Value}
theorem abE (H : V w0 w F) (hr : jO w0 F .i32 v l) (hT : Bq w0) (hx0 : 0 ≤ x) (hx1 : x ≤ l.length) : jf prog 96 #[v, .int .i64 x, .bool big] w fun v' w' => v' = .int .i64 (Gu l x big) ∧ V w0 w' F := by
 have hl9 : l.length ≤ 9223372036854775807 := by have := (hr _ H).open; obtain ⟨a, c, e, h3, h4, _⟩ := this; omega
 refine EU func96 ntmps96 ?_
 refine kH O (aI (bf ?_))
 refine iy [(0, _), (2, _)] (fun (y : Int) => [(1, .int .i64 y)]) (fun (y : Int) W => ((0 ≤ y ∧ y ≤ l.length) ∧ BG (fun r => jc r == 0) l y = BG (fun r => jc r == 0) l x) ∧ V w0 W F) (fun (y : Int) => y.toNat) (x) sG lH ⟨⟨⟨hx0, hx1⟩, O⟩, H⟩ ?_
 rintro y w1 ⟨⟨⟨hy0, hyl⟩, hy⟩, HL⟩
 dsimp only [List.cons_append, List.nil_append]
 refine aI (bI O (aV (gK O O) (jY O (fun h1 => ?_) (fun h1 => ?_))))
 ·(try simp only [Z] at h1)
  refine bF (bW O (bF (bW O (bF (aV (jJ O O (by omega)) (bF ?_))))))
  obtain ⟨bv, ov, cv, ev⟩ := gB.qN (hr _ (HL)) (by omega)
  cases ev
  refine aV (dI ah bP O O (by omega)) (bF ?_)
  refine aV (dW (bV bC O) O (by first | exact gB.lN (hr _ (HL)) (by omega) | exact gB.uP (hr _ (HL)) (by omega) | exact gB.wO (hr _ (HL)) (by omega))) ?_
  refine bF (dX O func14 (tu HL hT) ?_)
  rintro _ w2 ⟨rfl, H2⟩
  refine bF (aV (fB O O) (jQ O O (iW O (fun h2 => ?_) (fun h2 => ?_))))
  ·(try simp only [Z] at h2)
   have hP : (jc (l.getD (y - 1).toNat 0) == 0) = true := by rw [beq_iff_eq]; exact h2
   refine gy (bf (aF (bW O (aV (jJ O O (by omega)) (gW O (bT (aH ?_)))))))
   refine dN (y - 1) ?_ ?_ ?_ ?_
   ·exact lH
   ·exact sG
   ·(try dsimp only)
    first | done | exact ⟨⟨⟨by omega, by omega⟩, (P7 (by omega) hyl hP).symm.trans hy⟩, H2⟩
   ·(try dsimp only); omega
  ·(try simp only [Z] at h2)
   have hP : ¬ (jc (l.getD (y - 1).toNat 0) == 0) = true := by rw [beq_iff_eq]; exact h2
   refine dR (aP (aP (bH (aU (aI (aI ?_))))))
   have e1 : BG (fun r => jc r == 0) l x = y := hy.symm.trans (by first | exact Bd (by omega) | exact Em (by omega) hyl hP)
   refine aF (bW O (aV (gK O O) (iW O (fun h3 => ?_) (fun h3 => ?_))))
   ·(try simp only [Z] at h3)
    refine bI O (bW O (aV (jJ O O (by omega)) (aV (dI ah bP O O (by omega)) ?_)))
    refine aV (dW (bV bC O) O (by first | exact gB.lN (hr _ (H2)) (by omega) | exact gB.uP (hr _ (H2)) (by omega) | exact gB.wO (hr _ (H2)) (by omega))) ?_
    refine bW O (dX O func142 (nZ H2 hT) ?_)
    rintro _ w3 ⟨rfl, H3⟩
    refine fO O (bf ?_)
    refine iy [(0, _), (2, _), (7, _)] (fun (z : Int) => [(1, .int .i64 z)]) (fun (z : Int) W => ((0 ≤ z ∧ z ≤ l.length) ∧ BG (fun r => fE r big == fE (l.getD (y - 1).toNat 0) big) l z = BG (fun r => fE r big == fE (l.getD (y - 1).toNat 0) big) l y) ∧ V w0 W F) (fun (z : Int) => z.toNat) (y) wW lH ⟨⟨⟨by omega, by omega⟩, O⟩, H3⟩ ?_
    rintro z w4 ⟨⟨⟨hz0, hzl⟩, hz⟩, HM⟩
    dsimp only [List.cons_append, List.nil_append]
    refine aI (bI O (aV (gK O O) (jY O (fun h4 => ?_) (fun h4 => ?_))))
    ·(try simp only [Z] at h4)
     refine bF (bW O (bF (bW O (bF (aV (jJ O O (by omega)) (bF (aV (dI ah bP O O (by omega)) (bF ?_))))))))
     refine aV (dW (bV bC O) O (by first | exact gB.lN (hr _ (HM)) (by omega) | exact gB.uP (hr _ (HM)) (by omega) | exact gB.wO (hr _ (HM)) (by omega))) ?_
     refine bF (bW O (bF (dX O func142 (nZ HM hT) ?_)))
     rintro _ w5 ⟨rfl, H5⟩
     refine bF (bW O (bF (aV (fB O O) (jQ O O (iW O (fun h5 => ?_) (fun h5 => ?_))))))
     ·(try simp only [Z] at h5)
      have hQ : (fE (l.getD (z - 1).toNat 0) big == fE (l.getD (y - 1).toNat 0) big) = true := by rw [beq_iff_eq]; exact h5
      refine gy (bf (aF (bW O (aV (jJ O O (by omega)) (gW O (bT (aH ?_)))))))
      refine dN (z - 1) ?_ ?_ ?_ ?_
      ·exact lH
      ·exact wW
      ·(try dsimp only)
       first | done | exact ⟨⟨⟨by omega, by omega⟩, (P7 (by omega) hzl hQ).symm.trans hz⟩, H5⟩
      ·(try dsimp only); omega
     ·(try simp only [Z] at h5)
      have hQ : ¬ (fE (l.getD (z - 1).toNat 0) big == fE (l.getD (y - 1).toNat 0) big) = true := by rw [beq_iff_eq]; exact h5
      refine dR (aP (aP (bH (aU (bI O (fP O (dL results96 O ?_)))))))
      exact ⟨by unfold Gu; rw [e1]; first | (rw [if_neg (by omega)]; done) | (rw [if_pos (by omega), ← hz]; first | rw [Bd (by omega)] | rw [Em (by omega) hzl hQ]), H5⟩
    ·(try simp only [Z] at h4)
     refine bK (bK (bK (bK (bK (bK (bK (bK (bK (iH O O (iR (oL (dR (aP (aP (bH (aU (bI O (fP O (dL results96 O ?_)))))))))))))))))))
     exact ⟨by unfold Gu; rw [e1]; first | (rw [if_neg (by omega)]; done) | (rw [if_pos (by omega), ← hz]; first | rw [Bd (by omega)] | rw [Em (by omega) hzl hQ]), HM⟩
   ·(try simp only [Z] at h3)
    refine gy (bI O (fP O (dL results96 O ?_)))
    exact ⟨by unfold Gu; rw [e1]; first | (rw [if_neg (by omega)]; done) | (rw [if_pos (by omega), ← hz]; first | rw [Bd (by omega)] | rw [Em (by omega) hzl hQ]), H2⟩
 ·(try simp only [Z] at h1)
  refine bK (bK (bK (bK (bK (bK (bK (iH O O (iR (oL (dR (aP (aP (bH (aU (aI (aI ?_))))))))))))))))
  have e1 : BG (fun r => jc r == 0) l x = y := hy.symm.trans (by first | exact Bd (by omega) | exact Em (by omega) hyl hP)
  refine aF (bW O (aV (gK O O) (iW O (fun h6 => ?_) (fun h6 => ?_))))
  ·(try simp only [Z] at h6)
   refine bI O (bW O (aV (jJ O O (by omega)) ?_))
   obtain ⟨bv, ov, cv, ev⟩ := gB.qN (hr _ (HL)) (by omega)
   cases ev
   refine aV (dI ah bP O O (by omega)) ?_
   refine aV (dW (bV bC O) O (by first | exact gB.lN (hr _ (HL)) (by omega) | exact gB.uP (hr _ (HL)) (by omega) | exact gB.wO (hr _ (HL)) (by omega))) ?_
   refine bW O (dX O func142 (nZ HL hT) ?_)
   rintro _ w6 ⟨rfl, H6⟩
   refine fO O (bf ?_)
   refine iy [(0, _), (2, _), (7, _)] (fun (z : Int) => [(1, .int .i64 z)]) (fun (z : Int) W => ((0 ≤ z ∧ z ≤ l.length) ∧ BG (fun r => fE r big == fE (l.getD (y - 1).toNat 0) big) l z = BG (fun r => fE r big == fE (l.getD (y - 1).toNat 0) big) l y) ∧ V w0 W F) (fun (z : Int) => z.toNat) (y) wW lH ⟨⟨⟨by omega, by omega⟩, O⟩, H6⟩ ?_
   rintro z w7 ⟨⟨⟨hz0, hzl⟩, hz⟩, HM⟩
   dsimp only [List.cons_append, List.nil_append]
   refine aI (bI O (aV (gK O O) (jY O (fun h7 => ?_) (fun h7 => ?_))))
   ·(try simp only [Z] at h7)
    refine bF (bW O (bF (bW O (bF (aV (jJ O O (by omega)) (bF (aV (dI ah bP O O (by omega)) (bF ?_))))))))
    refine aV (dW (bV bC O) O (by first | exact gB.lN (hr _ (HM)) (by omega) | exact gB.uP (hr _ (HM)) (by omega) | exact gB.wO (hr _ (HM)) (by omega))) ?_
    refine bF (bW O (bF (dX O func142 (nZ HM hT) ?_)))
    rintro _ w8 ⟨rfl, H8⟩
    refine bF (bW O (bF (aV (fB O O) (jQ O O (iW O (fun h8 => ?_) (fun h8 => ?_))))))
    ·(try simp only [Z] at h8)
     have hQ : (fE (l.getD (z - 1).toNat 0) big == fE (l.getD (y - 1).toNat 0) big) = true := by rw [beq_iff_eq]; exact h8
     refine gy (bf (aF (bW O (aV (jJ O O (by omega)) (gW O (bT (aH ?_)))))))
     refine dN (z - 1) ?_ ?_ ?_ ?_
     ·exact lH
     ·exact wW
     ·(try dsimp only)
      first | done | exact ⟨⟨⟨by omega, by omega⟩, (P7 (by omega) hzl hQ).symm.trans hz⟩, H8⟩
     ·(try dsimp only); omega
    ·(try simp only [Z] at h8)
     have hQ : ¬ (fE (l.getD (z - 1).toNat 0) big == fE (l.getD (y - 1).toNat 0) big) = true := by rw [beq_iff_eq]; exact h8
     refine dR (aP (aP (bH (aU (bI O (fP O (dL results96 O ?_)))))))
     exact ⟨by unfold Gu; rw [e1]; first | (rw [if_neg (by omega)]; done) | (rw [if_pos (by omega), ← hz]; first | rw [Bd (by omega)] | rw [Em (by omega) hzl hQ]), H8⟩
   ·(try simp only [Z] at h7)
    refine bK (bK (bK (bK (bK (bK (bK (bK (bK (iH O O (iR (oL (dR (aP (aP (bH (aU (bI O (fP O (dL results96 O ?_)))))))))))))))))))
    exact ⟨by unfold Gu; rw [e1]; first | (rw [if_neg (by omega)]; done) | (rw [if_pos (by omega), ← hz]; first | rw [Bd (by omega)] | rw [Em (by omega) hzl hQ]), HM⟩
  ·(try simp only [Z] at h6)
   refine gy (bI O (fP O (dL results96 O ?_)))
   exact ⟨by unfold Gu; rw [e1]; first | (rw [if_neg (by omega)]; done) | (rw [if_pos (by omega), ← hz]; first | rw [Bd (by omega)] | rw [Em (by omega) hzl hQ]), HL⟩
theorem ady (H : V w0 w F) (hr : jO w0 F .i32 v l) (hT : Bq w0) (hx0 : 0 ≤ x) (hx1 : x ≤ l.length) (hl8 : l.length ≤ 4611686018427387904) : jf prog 97 #[v, .int .i64 x, .bool big] w fun v' w' => v' = .int .i64 (NW l x big) ∧ V w0 w' F := by
 refine EU func97 ntmps97 ?_
 refine kH O (bI O (aV (fH O O (by omega)) (tX O (bf ?_))))
 refine iy [(0, _), (2, _)] (fun (y : Int) => [(1, .int .i64 y)]) (fun (y : Int) W => ((0 ≤ y ∧ y ≤ l.length + 1) ∧ oJ (fun r => jc r == 0) l y = oJ (fun r => jc r == 0) l (x + 1)) ∧ V w0 W F) (fun (y : Int) => (l.length + 1 - y).toNat) (x + 1) sG lH ⟨⟨⟨by omega, by omega⟩, O⟩, H⟩ ?_
 rintro y w1 ⟨⟨⟨hy0, hyl⟩, hy⟩, HL⟩
 dsimp only [List.cons_append, List.nil_append]
 refine aI (bI O (bW O (aV (gZ (hr _ (HL)) ah O) (aV (gG O O) (jY O (fun h1 => ?_) (fun h1 => ?_))))))
 ·(try simp only [Z] at h1)
  refine bF (bW O (bF (bW O (bF ?_))))
  obtain ⟨bv, ov, cv, ev⟩ := gB.qN (hr _ (HL)) (by omega)
  cases ev
  refine aV (dI ah bP O O (by omega)) (bF ?_)
  refine aV (dW (bV bC O) O (by first | exact gB.lN (hr _ (HL)) (by omega) | exact gB.uP (hr _ (HL)) (by omega) | exact gB.wO (hr _ (HL)) (by omega))) ?_
  refine bF (dX O func14 (tu HL hT) ?_)
  rintro _ w2 ⟨rfl, H2⟩
  refine bF (aV (fB O O) (jQ O O (iW O (fun h2 => ?_) (fun h2 => ?_))))
  ·(try simp only [Z] at h2)
   have hP : (jc (l.getD y.toNat 0) == 0) = true := by rw [beq_iff_eq]; exact h2
   refine gy (bf (aF (bW O (aV (fH O O (by omega)) (gW O (bT (aH ?_)))))))
   refine dN (y + 1) ?_ ?_ ?_ ?_
   ·exact lH
   ·exact sG
   ·(try dsimp only)
    first | done | exact ⟨⟨⟨by omega, by omega⟩, (yJ hy0 (by omega) hP).symm.trans hy⟩, H2⟩
   ·(try dsimp only); omega
  ·(try simp only [Z] at h2)
   have hP : ¬ (jc (l.getD y.toNat 0) == 0) = true := by rw [beq_iff_eq]; exact h2
   refine dR (aP (aP (bH (aU (aI (aI ?_))))))
   have e1 : oJ (fun r => jc r == 0) l (x + 1) = y := hy.symm.trans (by first | exact mO (by omega) | exact qF hy0 (by omega) hP)
   refine aF (jU O O (aV (jd ah O) (aV (mJ O O) (iW O (fun h3 => ?_) (fun h3 => ?_)))))
   ·(try simp only [Z] at h3)
    refine bI O (aV (jd ah O) (aV (jJ O O (by omega)) (fP O (aC (dL results97 O ?_)))))
    exact ⟨by unfold NW; rw [e1, if_pos (by omega)], H2⟩
   ·(try simp only [Z] at h3)
    refine gy (bI O (bW O (aV (dI ah bP O O (by omega)) ?_)))
    refine aV (dW (bV bC O) O (by first | exact gB.lN (hr _ (H2)) (by omega) | exact gB.uP (hr _ (H2)) (by omega) | exact gB.wO (hr _ (H2)) (by omega))) ?_
    refine bW O (dX O func142 (nZ H2 hT) ?_)
    rintro _ w3 ⟨rfl, H3⟩
    refine tX O (bf ?_)
    refine iy [(0, _), (2, _), (7, _)] (fun (z : Int) => [(1, .int .i64 z)]) (fun (z : Int) W => ((0 ≤ z ∧ z < l.length) ∧ oJ (fun r => fE r big == fE (l.getD y.toNat 0) big) l (z + 1) = oJ (fun r => fE r big == fE (l.getD y.toNat 0) big) l (y + 1)) ∧ V w0 W F) (fun (z : Int) => (l.length - z).toNat) (y) wW lH ⟨⟨⟨by omega, by omega⟩, O⟩, H3⟩ ?_
    rintro z w4 ⟨⟨⟨hz0, hzl⟩, hz⟩, HM⟩
    dsimp only [List.cons_append, List.nil_append]
    refine aI (bI O (aV (fH O O (by omega)) (bW O (aV (jd ah O) (aV (gG O O) (jY O (fun h4 => ?_) (fun h4 => ?_)))))))
    ·(try simp only [Z] at h4)
     refine bF (bW O (bF (bW O (bF (aV (fH O O (by omega)) (bF (aV (dI ah bP O O (by omega)) (bF ?_))))))))
     refine aV (dW (bV bC O) O (by first | exact gB.lN (hr _ (HM)) (by omega) | exact gB.uP (hr _ (HM)) (by omega) | exact gB.wO (hr _ (HM)) (by omega))) ?_
     refine bF (bW O (bF (dX O func142 (nZ HM hT) ?_)))
     rintro _ w5 ⟨rfl, H5⟩
     refine bF (bW O (bF (aV (fB O O) (jQ O O (iW O (fun h5 => ?_) (fun h5 => ?_))))))
     ·(try simp only [Z] at h5)
      have hQ : (fE (l.getD (z + 1).toNat 0) big == fE (l.getD y.toNat 0) big) = true := by rw [beq_iff_eq]; exact h5
      refine gy (bf (aF (bW O (aV (fH O O (by omega)) (gW O (bT (aH ?_)))))))
      refine dN (z + 1) ?_ ?_ ?_ ?_
      ·exact lH
      ·exact wW
      ·(try dsimp only)
       first | done | exact ⟨⟨⟨by omega, by omega⟩, (yJ (by omega) (by omega) hQ).symm.trans hz⟩, H5⟩
      ·(try dsimp only); omega
     ·(try simp only [Z] at h5)
      have hQ : ¬ (fE (l.getD (z + 1).toNat 0) big == fE (l.getD y.toNat 0) big) = true := by rw [beq_iff_eq]; exact h5
      refine dR (aP (aP (bH (aU (bI O (fP O (dL results97 O ?_)))))))
      exact ⟨by unfold NW; rw [e1, if_neg (by omega), ← hz]; first | (rw [mO (by omega)]; congr 1; omega) | (rw [qF (by omega) (by omega) hQ]; congr 1; omega), H5⟩
    ·(try simp only [Z] at h4)
     refine bK (bK (bK (bK (bK (bK (bK (bK (bK (iH O O (iR (oL (dR (aP (aP (bH (aU (bI O (fP O (dL results97 O ?_)))))))))))))))))))
     exact ⟨by unfold NW; rw [e1, if_neg (by omega), ← hz]; first | (rw [mO (by omega)]; congr 1; omega) | (rw [qF (by omega) (by omega) hQ]; congr 1; omega), HM⟩
 ·(try simp only [Z] at h1)
  refine bK (bK (bK (bK (bK (bK (iH O O (iR (oL (dR (aP (aP (bH (aU (aI (aI ?_)))))))))))))))
  have e1 : oJ (fun r => jc r == 0) l (x + 1) = y := hy.symm.trans (by first | exact mO (by omega) | exact qF hy0 (by omega) hP)
  refine aF (jU O O (aV (gZ (hr _ (HL)) ah O) (aV (mJ O O) (iW O (fun h6 => ?_) (fun h6 => ?_)))))
  ·(try simp only [Z] at h6)
   refine bI O (aV (gZ (hr _ (HL)) ah O) (aV (jJ O O (by omega)) (fP O (aC (dL results97 O ?_)))))
   exact ⟨by unfold NW; rw [e1, if_pos (by omega)], HL⟩
  ·(try simp only [Z] at h6)
   refine gy (bI O (bW O ?_))
   obtain ⟨bv, ov, cv, ev⟩ := gB.qN (hr _ (HL)) (by omega)
   cases ev
   refine aV (dI ah bP O O (by omega)) ?_
   refine aV (dW (bV bC O) O (by first | exact gB.lN (hr _ (HL)) (by omega) | exact gB.uP (hr _ (HL)) (by omega) | exact gB.wO (hr _ (HL)) (by omega))) ?_
   refine bW O (dX O func142 (nZ HL hT) ?_)
   rintro _ w6 ⟨rfl, H6⟩
   refine tX O (bf ?_)
   refine iy [(0, _), (2, _), (7, _)] (fun (z : Int) => [(1, .int .i64 z)]) (fun (z : Int) W => ((0 ≤ z ∧ z < l.length) ∧ oJ (fun r => fE r big == fE (l.getD y.toNat 0) big) l (z + 1) = oJ (fun r => fE r big == fE (l.getD y.toNat 0) big) l (y + 1)) ∧ V w0 W F) (fun (z : Int) => (l.length - z).toNat) (y) wW lH ⟨⟨⟨by omega, by omega⟩, O⟩, H6⟩ ?_
   rintro z w7 ⟨⟨⟨hz0, hzl⟩, hz⟩, HM⟩
   dsimp only [List.cons_append, List.nil_append]
   refine aI (bI O (aV (fH O O (by omega)) (bW O (aV (jd ah O) (aV (gG O O) (jY O (fun h7 => ?_) (fun h7 => ?_)))))))
   ·(try simp only [Z] at h7)
    refine bF (bW O (bF (bW O (bF (aV (fH O O (by omega)) (bF (aV (dI ah bP O O (by omega)) (bF ?_))))))))
    refine aV (dW (bV bC O) O (by first | exact gB.lN (hr _ (HM)) (by omega) | exact gB.uP (hr _ (HM)) (by omega) | exact gB.wO (hr _ (HM)) (by omega))) ?_
    refine bF (bW O (bF (dX O func142 (nZ HM hT) ?_)))
    rintro _ w8 ⟨rfl, H8⟩
    refine bF (bW O (bF (aV (fB O O) (jQ O O (iW O (fun h8 => ?_) (fun h8 => ?_))))))
    ·(try simp only [Z] at h8)
     have hQ : (fE (l.getD (z + 1).toNat 0) big == fE (l.getD y.toNat 0) big) = true := by rw [beq_iff_eq]; exact h8
     refine gy (bf (aF (bW O (aV (fH O O (by omega)) (gW O (bT (aH ?_)))))))
     refine dN (z + 1) ?_ ?_ ?_ ?_
     ·exact lH
     ·exact wW
     ·(try dsimp only)
      first | done | exact ⟨⟨⟨by omega, by omega⟩, (yJ (by omega) (by omega) hQ).symm.trans hz⟩, H8⟩
     ·(try dsimp only); omega
    ·(try simp only [Z] at h8)
     have hQ : ¬ (fE (l.getD (z + 1).toNat 0) big == fE (l.getD y.toNat 0) big) = true := by rw [beq_iff_eq]; exact h8
     refine dR (aP (aP (bH (aU (bI O (fP O (dL results97 O ?_)))))))
     exact ⟨by unfold NW; rw [e1, if_neg (by omega), ← hz]; first | (rw [mO (by omega)]; congr 1; omega) | (rw [qF (by omega) (by omega) hQ]; congr 1; omega), H8⟩
   ·(try simp only [Z] at h7)
    refine bK (bK (bK (bK (bK (bK (bK (bK (bK (iH O O (iR (oL (dR (aP (aP (bH (aU (bI O (fP O (dL results97 O ?_)))))))))))))))))))
    exact ⟨by unfold NW; rw [e1, if_neg (by omega), ← hz]; first | (rw [mO (by omega)]; congr 1; omega) | (rw [qF (by omega) (by omega) hQ]; congr 1; omega), HM⟩
end
end Go.Proofs.YtpdeedplgmbopaaGreatDoor
end
section
namespace Go.Proofs.YtpdeedplgmbopaaGreatDoor
open Go.RowKit
def P9 (f : Int → Int → Option Int) : Int → List Int → Option Int
  | _, [] => none
  | s, x :: l => match f s x with
    | none => some 0
    | some t => (P9 f t l).map (· + 1)
def BN (st : Int) (f : Int → Int → Option Int) (l : List Int) (s i : Int) : Option Int :=
  if 0 ≤ i ∧ i < l.length then (if st = 1 then (P9 f s (l.drop i.toNat)).map (i + ·) else (P9 f s (l.take (i.toNat + 1)).reverse).map (i - ·)) else none
section
variable {st s t i : Int} {f : Int → Int → Option Int} {l : List Int}
theorem IZ (h : ¬ (0 ≤ i ∧ i < l.length)) : BN st f l s i = none := if_neg h
theorem TG (h0 : 0 ≤ i) (h1 : i < l.length) : (l.take (i.toNat + 1)).reverse = l.getD i.toNat 0 :: (l.take i.toNat).reverse := by
  rw [List.take_succ_eq_append_getElem (by omega), List.reverse_append, List.getD_eq_getElem?_getD, List.getElem?_eq_getElem (by omega)]
  rfl
theorem aaw (h0 : 0 ≤ i) (h1 : i < l.length) : l.drop i.toNat = l.getD i.toNat 0 :: l.drop (i.toNat + 1) := by
  rw [List.drop_eq_getElem_cons (by omega), List.getD_eq_getElem?_getD, List.getElem?_eq_getElem (by omega)]
  rfl
theorem I4 (h0 : 0 ≤ i) (h1 : i < l.length) (hf : f s (l.getD i.toNat 0) = none) : BN st f l s i = some i := by
  unfold BN
  rw [if_pos ⟨h0, h1⟩, aaw h0 h1, TG h0 h1, P9, P9, hf]
  split <;> simp
theorem Qa (hst : st = 1 ∨ st = -1) (h0 : 0 ≤ i) (h1 : i < l.length) (hf : f s (l.getD i.toNat 0) = some t) : BN st f l s i = BN st f l t (i + st) := by
  unfold BN
  rw [if_pos ⟨h0, h1⟩, aaw h0 h1, TG h0 h1, P9, P9, hf]
  dsimp only
  rcases hst with rfl | rfl
  · rw [if_pos rfl, if_pos rfl]
    by_cases h2 : i + 1 < l.length
    · rw [if_pos ⟨by omega, h2⟩, show (i + 1).toNat = i.toNat + 1 from by omega, Option.map_map]
      congr 1
      funext x
      simp; omega
    · rw [if_neg (by omega), List.drop_of_length_le (by omega)]
      rfl
  · rw [if_neg (show ¬ ((-1 : Int) = 1) by decide), if_neg (show ¬ ((-1 : Int) = 1) by decide)]
    by_cases h2 : 0 < i
    · rw [if_pos ⟨by omega, by omega⟩, show (i + -1).toNat + 1 = i.toNat from by omega, Option.map_map]
      congr 1
      funext x
      simp; omega
    · rw [if_neg (by omega), show i.toNat = 0 from by omega]
      rfl
end
def Ju (c : Int) (n x : Int) : Option Int := if x = c then (if n ≤ 1 then none else some (n - 1)) else some n
def Qb (a b : Int) (d x : Int) : Option Int := if d + (if x = a then 1 else 0) - (if x = b then 1 else 0) = 0 then none else some (d + (if x = a then 1 else 0) - (if x = b then 1 else 0))
def Fj (g : Int → Int) : Nat → Int → Int
  | 0, x => x
  | n + 1, x => if g x = x then x else Fj g n (g x)
def ajG (g : Int → Int) : Nat → Int → Int
  | 0, x => x
  | n + 1, x => ajG g n (g x)
section
variable {g : Int → Int}
theorem Qc {n : Nat} {x : Int} (h : g x = x) : Fj g n x = x := by cases n with
  | zero => rfl
  | succ n => rw [Fj, if_pos h]
theorem Y7 {n : Nat} {x : Int} (hn : 0 < n) (h : ¬ g x = x) : Fj g n x = Fj g (n - 1) (g x) := by
  obtain ⟨m, rfl⟩ : ∃ m, n = m + 1 := ⟨n - 1, by omega⟩
  rw [Fj, if_neg h]; rfl
end
section
variable {l : List Int} {x : Int} {big : Bool}
theorem adz (l : List Int) {x : Int} (big : Bool) (h0 : 0 ≤ x) (h1 : x ≤ l.length) : x ≤ En l x big ∧ En l x big ≤ l.length := by
  unfold En
  by_cases h2 : x < l.length
  · rw [if_pos h2]
    by_cases h3 : fE (l.getD x.toNat 0) big = 0
    · rw [if_pos h3]; exact yS h0 h1
    · rw [if_neg h3]
      have h4 := yS (P := fun r => fE r big == fE (l.getD x.toNat 0) big) h0 h1
      have h5 := yS (P := fun r => jc r == 0) (l := l) (x := oJ (fun r => fE r big == fE (l.getD x.toNat 0) big) l x) (by omega) h4.2
      omega
  · rw [if_neg h2]; exact yS h0 h1
theorem adA (l : List Int) {x : Int} (big : Bool) (h0 : 0 ≤ x) (h1 : x ≤ l.length) : 0 ≤ Gu l x big ∧ Gu l x big ≤ x := by
  unfold Gu
  have h2 := P8 (P := fun r => jc r == 0) h0 h1
  split
  · have h3 := P8 (P := fun r => fE r big == fE (l.getD (BG (fun r => jc r == 0) l x - 1).toNat 0) big) (l := l) (x := BG (fun r => jc r == 0) l x) h2.1 (by omega)
    omega
  · exact h2
theorem afQ (l : List Int) {x : Int} (big : Bool) (h0 : 0 ≤ x) (h1 : x < l.length) : x ≤ NW l x big ∧ NW l x big < l.length := by
  unfold NW
  by_cases h9 : (l.length : Int) ≤ x + 1
  · rw [mO h9, if_pos h9]; omega
  · have h2 := yS (P := fun r => jc r == 0) (l := l) (x := x + 1) (by omega) (by omega)
    split
    · omega
    · have h3 := yS (P := fun r => fE r big == fE (l.getD (oJ (fun r => jc r == 0) l (x + 1)).toNat 0) big) (l := l) (x := oJ (fun r => jc r == 0) l (x + 1) + 1) (by omega) (by omega)
      omega
end
def xP (key : Int) : Int := if key = 70 ∨ key = 84 then -1 else 1
def Md (l : List Int) (x key c n : Int) : Int × Bool × Bool := match BN (xP key) (Ju c) l n (x + xP key) with
  | none => (0, false, false)
  | some i => (if key = 116 ∨ key = 84 then i - xP key else i, decide (0 < xP key), true)
def CJ (r : Int) : Bool := r == 40 || r == 91 || r == 123 || r == 41 || r == 93 || r == 125
def KW (r : Int) : Int := if r = 40 ∨ r = 91 ∨ r = 123 then 1 else -1
def Me (r : Int) : Int := if r = 40 then 41 else if r = 41 then 40 else if r = 91 then 93 else if r = 93 then 91 else if r = 123 then 125 else 123
def DU (l : List Int) (x : Int) : Int × Bool × Bool :=
  if (l.length : Int) ≤ oJ (fun r => !CJ r) l x then (0, false, false) else
  match BN (KW (l.getD (oJ (fun r => !CJ r) l x).toNat 0)) (Qb (l.getD (oJ (fun r => !CJ r) l x).toNat 0) (Me (l.getD (oJ (fun r => !CJ r) l x).toNat 0))) l 0 (oJ (fun r => !CJ r) l x) with
  | none => (0, false, false)
  | some j => (j, true, true)
def DV (l : List Int) (x key n : Int) : Int × Bool × Bool :=
  if key = 119 ∨ key = 87 then (if x < l.length then (Fj (fun y => En l y (key == 87)) n.toNat x, false, true) else (0, false, false))
  else if key = 98 ∨ key = 66 then (if 0 < x then (Fj (fun y => Gu l y (key == 66)) n.toNat x, false, true) else (0, false, false))
  else if key = 101 ∨ key = 69 then (if x < l.length - 1 then (Fj (fun y => NW l y (key == 69)) n.toNat x, true, true) else (0, false, false))
  else (0, false, false)
def qG (l : List Int) (x key c n : Int) : Int × Bool × Bool :=
  if key = 104 then (if x = 0 then (0, false, false) else (x - min n x, false, true))
  else if key = 108 ∨ key = 32 then (if x = l.length then (0, false, false) else (x + min n (l.length - x), false, true))
  else if key = 48 then (0, false, true)
  else if key = 36 then (l.length, false, true)
  else if key = 94 then (oJ (fun r => jc r == 0) l 0, false, true)
  else if key = 124 then (min (n - 1) l.length, false, true)
  else if key = 102 ∨ key = 70 ∨ key = 116 ∨ key = 84 then Md l x key c n
  else if key = 37 then DU l x
  else DV l x key n
def CO (l : List Int) (x key c n : Int) : Int × Bool × Bool := qG l (min (max x 0) l.length) key c (max n 1)
def abF (q : Int × Bool × Bool) : Value := .tuple #[.int .i64 q.1, .bool q.2.1, .bool q.2.2]
end Go.Proofs.YtpdeedplgmbopaaGreatDoor
end
section
namespace Go.Proofs.YtpdeedplgmbopaaGreatDoor
open Go.RowKit
open _root_.Go.Proofs.Tryz
def adB (k : Int) : Bool := decide (48 ≤ k) && decide (k ≤ 57)
def xU (l : List Int) : List Int := if l.getD 0 0 = 48 then [] else l.takeWhile adB
def KX (n k : Int) : Int := min (n * 10 + (k - 48)) 1000000
def abG (l : List Int) : Int := (xU l).foldl KX 0
def mP (l : List Int) : List Int := l.drop (xU l).length
theorem ajH {p : Int → Bool} {l : List Int} : ∀ {i : Nat}, i ≤ (l.takeWhile p).length → (i < (l.takeWhile p).length ↔ (i < l.length ∧ p (l.getD i 0) = true)) := by
  induction l with
  | nil => intro i h; simp
  | cons x l ih =>
    intro i h
    rw [List.takeWhile_cons] at h ⊢
    by_cases hx : p x = true
    · rw [if_pos hx] at h ⊢
      cases i with
      | zero => simp [hx]
      | succ i =>
        rw [List.length_cons] at h
        have := ih (i := i) (by omega)
        rw [List.length_cons, List.length_cons, List.getD_cons_succ, Nat.add_lt_add_iff_right, Nat.add_lt_add_iff_right]
        exact this
    · rw [if_neg hx] at h ⊢
      have : i = 0 := by simpa using h
      subst this
      simp [hx]
theorem ah7 {p : Int → Bool} {l : List Int} {i : Nat} (h : i < (l.takeWhile p).length) : (l.takeWhile p).getD i 0 = l.getD i 0 := by
  induction l generalizing i with
  | nil => simp at h
  | cons x l ih =>
    rw [List.takeWhile_cons] at h ⊢
    by_cases hx : p x = true
    · rw [if_pos hx] at h ⊢
      cases i with
      | zero => rfl
      | succ i => rw [List.length_cons] at h; rw [List.getD_cons_succ, List.getD_cons_succ]; exact ih (by omega)
    · rw [if_neg hx] at h; simp at h
section
variable {l : List Int} {i : Nat}
theorem adC (h : i ≤ (xU l).length) : i < (xU l).length ↔ ((i : Int) < l.length ∧ 48 ≤ l.getD i 0 ∧ l.getD i 0 ≤ 57 ∧ (0 < i ∨ ¬ l.getD i 0 = 48)) := by
  unfold xU at h ⊢
  by_cases h0 : l.getD 0 0 = 48
  · rw [if_pos h0] at h ⊢
    have : i = 0 := by simpa using h
    subst this
    constructor
    · intro h9; simp at h9
    · rintro ⟨_, _, _, h9 | h9⟩
      · omega
      · exact absurd h0 h9
  · rw [if_neg h0] at h ⊢
    rw [ajH h]
    unfold adB
    rw [Bool.and_eq_true, decide_eq_true_iff, decide_eq_true_iff]
    have h1 : 0 < i ∨ ¬ l.getD i 0 = 48 := by
      cases i with
      | zero => exact .inr h0
      | succ i => exact .inl (by omega)
    omega
theorem afR (h : i < (xU l).length) : (xU l).getD i 0 = l.getD i 0 := by
  unfold xU at h ⊢
  by_cases h0 : l.getD 0 0 = 48
  · rw [if_pos h0] at h; simp at h
  · rw [if_neg h0] at h ⊢; exact ah7 h
theorem KY (h : i < (xU l).length) : ((xU l).take (i + 1)).foldl KX 0 = KX (((xU l).take i).foldl KX 0) (l.getD i 0) := by
  rw [List.take_succ_eq_append_getElem h, List.foldl_append, ← afR h, List.getD_eq_getElem?_getD, List.getElem?_eq_getElem h]
  rfl
theorem Eo : ((xU l).take (xU l).length).foldl KX 0 = abG l := by rw [List.take_length]; rfl
theorem Oh {n k : Int} (h : 0 ≤ n ∧ n ≤ 1000000) (hk : 48 ≤ k ∧ k ≤ 57) : 0 ≤ KX n k ∧ KX n k ≤ 1000000 := by unfold KX; omega
theorem adD : (xU l).length ≤ l.length := by
  unfold xU; split
  · simp
  · exact (List.takeWhile_sublist adB).length_le
end
section
variable {w0 w : World} {F : HP} {v : Value} {l : List Int}
theorem U2 (H : V w0 w F) (hr : jO w0 F .i32 v l) : jf prog 51 #[v] w fun u w' => ∃ kv, u = .tuple #[kv, .int .i64 (abG l)] ∧ jO w0 F .i32 kv (mP l) ∧ V w0 w' F := by
 have hl9 : l.length ≤ 9223372036854775807 := by have := (hr _ H).open; obtain ⟨a, c, e, h3, h4, _⟩ := this; omega
 have hcl := adD (l := l)
 refine jE func51 ntmps51 ?_
 refine jg (gW O (fO O (jg (gW O (tX O (bf ?_))))))
 refine iy [(0, _)] (fun (⟨i, n⟩ : Nat × Int) => [(4, .int .i64 n), (5, .int .i64 (i : Int))]) (fun (⟨i, n⟩ : Nat × Int) W => (i ≤ (xU l).length ∧ (0 ≤ n ∧ n ≤ 1000000) ∧ n = ((xU l).take i).foldl KX 0) ∧ V w0 W F) (fun (⟨i, n⟩ : Nat × Int) => (xU l).length - i) ((0, 0)) lH sG ⟨⟨by omega, by omega, O⟩, H⟩ ?_
 rintro ⟨i, n⟩ w1 ⟨⟨hi, hn, hE⟩, HL⟩
 dsimp only [List.cons_append, List.nil_append]
 have hca := adC (l := l) hi
 refine aI (bI O (bW O (aV (gZ (hr _ (HL)) ah O) (aV (gG O O) (jY O (fun h1 => ?_) (fun h1 => ?_))))))
 ·(try simp only [Z] at h1)
  refine bF (bW O (bF (bW O (bF ?_))))
  obtain ⟨bv, ov, cv, ev⟩ := gB.qN (hr _ (HL)) (by omega)
  cases ev
  refine aV (dI ah bP O O (by omega)) (bF ?_)
  refine aV (dW (bV bC O) O (by first | exact gB.lN (hr _ (HL)) (by omega) | exact gB.uP (hr _ (HL)) (by omega) | exact gB.wO (hr _ (HL)) (by omega))) ?_
  refine bF (aV (mJ O O) (jQ O O (jY O (fun h2 => ?_) (fun h2 => ?_))))
  ·(try simp only [Z] at h2)
   refine bF (bW O (bF (bW O (bF (aV (dI ah bP O O (by omega)) (bF ?_))))))
   refine aV (dW (bV bC O) O (by first | exact gB.lN (hr _ (HL)) (by omega) | exact gB.uP (hr _ (HL)) (by omega) | exact gB.wO (hr _ (HL)) (by omega))) ?_
   refine bF (aV (rQ O O) (jQ O O (jY O (fun h3 => ?_) (fun h3 => ?_))))
   ·(try simp only [Z] at h3)
    refine bF (bW O (bF (aV (gK O O) (bF (jY O (fun h4 => ?_) (fun h4 => ?_))))))
    ·(try simp only [Z] at h4)
     refine bK (bK (bK (bK (bK (bF (jQ O O (jQ O O (iR (ET (gy (bf (aI ?_))))))))))))
     have hlt : i < (xU l).length := by omega
     refine aF (bW O (aV (Vu O O (by omega)) (jU O O (aV (dI ah bP O O (by omega)) ?_))))
     refine aV (dW (bV bC O) O (by first | exact gB.lN (hr _ (HL)) (by omega) | exact gB.uP (hr _ (HL)) (by omega) | exact gB.wO (hr _ (HL)) (by omega))) ?_
     refine aV (NG (Bo O O) (congrArg (Value.int .i32) (Ej (by omega)))) ?_
     refine aV (sV O (by rw [underlying21]; rfl) aA (IY (by omega))) ?_
     refine aV (fH O O (by omega)) (aV (mW O O) (fO O (aF (bW O (aV (fH O O (by omega)) (gW O (bT (aH ?_))))))))
     refine dN ((i + 1, KX n (l.getD i 0))) ?_ ?_ ?_ ?_
     ·exact sG
     ·exact lH
     ·(try dsimp only)
      first | done | exact ⟨⟨by omega, Oh hn (by omega), by rw [KY hlt, ← hE]⟩, HL⟩
     ·(try dsimp only); omega
    ·(try simp only [Z] at h4)
     refine bF (bW O (bF (bW O (bF (aV (dI ah bP O O (by omega)) (bF ?_))))))
     refine aV (dW (bV bC O) O (by first | exact gB.lN (hr _ (HL)) (by omega) | exact gB.uP (hr _ (HL)) (by omega) | exact gB.wO (hr _ (HL)) (by omega))) ?_
     refine bF (aV (fF O O) (bF (iH O O (jQ O O (iW O (fun h5 => ?_) (fun h5 => ?_))))))
     ·(try simp only [Z] at h5)
      refine gy (bf (aI ?_))
      have hlt : i < (xU l).length := by omega
      refine aF (bW O (aV (Vu O O (by omega)) (jU O O (aV (dI ah bP O O (by omega)) ?_))))
      refine aV (dW (bV bC O) O (by first | exact gB.lN (hr _ (HL)) (by omega) | exact gB.uP (hr _ (HL)) (by omega) | exact gB.wO (hr _ (HL)) (by omega))) ?_
      refine aV (NG (Bo O O) (congrArg (Value.int .i32) (Ej (by omega)))) ?_
      refine aV (sV O (by rw [underlying21]; rfl) aA (IY (by omega))) ?_
      refine aV (fH O O (by omega)) (aV (mW O O) (fO O (aF (bW O (aV (fH O O (by omega)) (gW O (bT (aH ?_))))))))
      refine dN ((i + 1, KX n (l.getD i 0))) ?_ ?_ ?_ ?_
      ·exact sG
      ·exact lH
      ·(try dsimp only)
       first | done | exact ⟨⟨by omega, Oh hn (by omega), by rw [KY hlt, ← hE]⟩, HL⟩
      ·(try dsimp only); omega
     ·(try simp only [Z] at h5)
      refine dR (aP (aP (bH (aU (aI ?_)))))
      have hlt : i = (xU l).length := by omega
      refine aF (jU O O (aV (pF (hr _ (HL)) ah bP O O O (by omega)) ?_))
      refine bW O (gW O (fP O (MO results51 O O ?_)))
      exact ⟨_, by rw [hE, hlt, Eo], fun W HW => by unfold mP; rw [← hlt]; exact (hr W HW).from (by omega), HL⟩
   ·(try simp only [Z] at h3)
    refine bK (bK (bK (ni (ni (ni (ni (ni (bK (iH O O (iR (oL (dR (aP (aP (bH (aU (aI ?_)))))))))))))))))
    have hlt : i = (xU l).length := by omega
    refine aF (jU O O (aV (pF (hr _ (HL)) ah bP O O O (by omega)) ?_))
    refine bW O (gW O (fP O (MO results51 O O ?_)))
    exact ⟨_, by rw [hE, hlt, Eo], fun W HW => by unfold mP; rw [← hlt]; exact (hr W HW).from (by omega), HL⟩
  ·(try simp only [Z] at h2)
   refine bK (bK (bK (bK (bK (iH O O (bW O (bK (bK (bK (ni (ni (ni (ni (ni (bK (iH O O (iR (oL (dR (aP (aP (bH (aU (aI ?_))))))))))))))))))))))))
   have hlt : i = (xU l).length := by omega
   refine aF (jU O O (aV (pF (hr _ (HL)) ah bP O O O (by omega)) ?_))
   refine bW O (gW O (fP O (MO results51 O O ?_)))
   exact ⟨_, by rw [hE, hlt, Eo], fun W HW => by unfold mP; rw [← hlt]; exact (hr W HW).from (by omega), HL⟩
 ·(try simp only [Z] at h1)
  refine bK (bK (bK (bK (bK (iH O O (bW O (bK (bK (bK (bK (bK (iH O O (bW O (bK (bK (bK (ni (ni (ni (ni (ni (bK (iH O O (iR (oL (dR (aP (aP (bH (aU (aI ?_)))))))))))))))))))))))))))))))
  have hlt : i = (xU l).length := by omega
  refine aF (jU O O (aV (pF (hr _ (HL)) ah bP O O O (by omega)) ?_))
  refine bW O (gW O (fP O (MO results51 O O ?_)))
  exact ⟨_, by rw [hE, hlt, Eo], fun W HW => by unfold mP; rw [← hlt]; exact (hr W HW).from (by omega), HL⟩
end
end Go.Proofs.YtpdeedplgmbopaaGreatDoor
end
section
namespace Go.Proofs.YtpdeedplgmbopaaGreatDoor
open Go.RowKit Go.Lib
section
variable {P : Program} {N : Sh} {Q : Exit → Act → World → Prop} {L : List (Nat × Value)} {w : World}
end
def sb (s : ByteArray) (i : Nat) : Int := ((s.data.toList.getD i 0).toNat : Nat)
theorem ah8 {s : ByteArray} {i : Nat} (h : i < s.size) : ((s[i]'h).toNat : Int) = sb s i := by
  unfold sb
  rw [List.getD_eq_getElem?_getD, List.getElem?_eq_getElem (by rw [Array.length_toList]; exact h)]
  rfl
section
variable {P : Program} {L : List (Nat × Value)} {w w0 : World} {ty : TypeId} {x y : Operand} {F : HP}
theorem Ns {t : TypeId} {s : ByteArray} {k : IntKind} {i : Int} (ht : P.underlying t = some .string) (hx : ev L x = some (.string s)) (hy : ev L y = some (.int k i)) (h : 0 ≤ i ∧ i < s.size) :
    Val P L (.index t x y) ty w (.int .u8 (sb s i.toNat)) w := fun ρ hρ _ _ _ _ => by
  simp only [execOp, hρ _ _ hx, hρ _ _ hy, Sem.run_bind]
  rw [run_index_string (w := w) t s k i ht, dif_pos h, ah8]
  rfl
theorem ajI {f : FuncId} {args : List Operand} {ts : Array TypeId} {vs : List Value} {fn : Func} {e : Array Value → Sem Value} {v : Value} (ha : Je L args = some vs)
    (hf : P.funcs[f]? = some fn) (hname : (fn.name == "runtime.NumGoroutine") = false) (hb : fn.body.isNone = true) (hn : Extern.findNext fn = none) (he : Extern.find fn = some e) (hr : (e vs.toArray).run P w = .ok v w) :
    Val P L (.call ⟨.value (.func f), args.toArray, ts⟩) ty w v w := fun ρ hρ _ _ _ _ => by
  have hg : ρ (.func f) = .func (.func f) #[] #[] := hρ _ _ rfl
  have hc := run_callFunc_extern hf hname hb hn he vs.toArray w
  rw [hr] at hc
  simp [execOp, resolve, invoke, evs hρ _ _ ha, hg, Deferred.ofValue]
  exact hc
def alT (s : ByteArray) (k : Nat) : Value := if k < s.size then .tuple #[.bool true, .int .i64 k, .int .i32 (sb s k)] else .tuple #[.bool false]
end
theorem agS {s : ByteArray} (hs : ∀ c ∈ s.data.toList, c.toNat < 128) (i : Nat) : 0 ≤ sb s i ∧ sb s i < 128 := by
  unfold sb
  rw [List.getD_eq_getElem?_getD]
  by_cases h : i < s.data.toList.length
  · rw [List.getElem?_eq_getElem h]
    have := hs _ (List.getElem_mem h)
    show 0 ≤ ((s.data.toList[i].toNat : Nat) : Int) ∧ ((s.data.toList[i].toNat : Nat) : Int) < 128
    omega
  · rw [List.getElem?_eq_none (by omega)]; decide
section
variable {w0 w : World} {F : HP} {s : ByteArray} {r c : Int}
theorem Ro : jf Tryz.prog 143 #[.string s, .int .u8 c] w fun v w' => v = .int .i64 (indexByte s.data.toList c.toNat.toUInt8) ∧ w = w' := by
  refine qo Tryz.func143 Tryz.ntmps143 ?_
  refine kH O (bI O (bW O (aV (ajI O Tryz.func180 O O (by kernel_rfl) (by kernel_rfl) (run_indexByteString _ _ _)) (fP O (dL Tryz.results143 O ?_)))))
  exact ⟨O, O⟩
theorem KZ : jf Tryz.prog 98 #[.string s, .int .u8 c] w fun v w' => v = .int .i64 (indexByte s.data.toList c.toNat.toUInt8) ∧ w = w' := by
  refine qo Tryz.func98 Tryz.ntmps98 ?_
  refine kH O (bI O (bW O (dX O Tryz.func143 (Ro) ?_)))
  rintro _ _ ⟨rfl, rfl⟩
  refine fP O (dL Tryz.results98 O ?_)
  exact ⟨O, O⟩
def amx (s : ByteArray) (r : Int) : Int := if 0 ≤ r ∧ r < 128 then indexByte s.data.toList r.toNat.toUInt8 else -1
end
theorem afS {l : List UInt8} {c : UInt8} : 0 ≤ indexByte l c ↔ c ∈ l := by
  induction l with
  | nil => simp [indexByte]
  | cons b l ih =>
    have h1 := indexByte_ge l c
    unfold indexByte
    by_cases hb : b = c
    · simp [hb]
    · rw [if_neg (by simpa using hb)]
      by_cases h2 : indexByte l c = -1
      · rw [if_pos (by simpa using h2)]
        have : c ∉ l := fun h => by have := ih.2 h; omega
        simp [this, Ne.symm hb]
      · rw [if_neg (by simpa using h2)]
        have : c ∈ l := ih.1 (by omega)
        simp [this]; omega
def EN (s : ByteArray) : List Int := s.data.toList.map fun b => (b.toNat : Int)
def Asc (s : ByteArray) : Prop := ∀ x ∈ s.data.toList, 0 < x.toNat ∧ x.toNat < 128
instance (s : ByteArray) : Decidable (Asc s) := by unfold Asc; infer_instance
theorem EO {s : ByteArray} (hs : Asc s) {r : Int} : (0 < r ∧ r < 128 ∧ 0 ≤ indexByte s.data.toList r.toNat.toUInt8) ↔ r ∈ EN s := by
  rw [afS]
  unfold EN
  rw [List.mem_map]
  constructor
  · rintro ⟨h1, h2, h3⟩
    refine ⟨_, h3, ?_⟩
    rw [show r.toNat.toUInt8.toNat = r.toNat % 256 from by simp [Nat.toUInt8]]
    omega
  · rintro ⟨b, hb, rfl⟩
    have := hs b hb
    refine ⟨by omega, by omega, ?_⟩
    rw [show ((b.toNat : Int)).toNat.toUInt8 = b from by rw [Int.toNat_natCast]; simp [Nat.toUInt8]]
    exact hb
section
variable {w0 w : World} {F : HP} {r : Int} {s : ByteArray}
theorem AO (hs : Asc s) : jf Tryz.prog 50 #[.int .i32 r, .string s] w fun v w' => v = .bool (decide (r ∈ EN s)) ∧ w = w' := by
  have hi := EO hs (r := r)
  refine qo Tryz.func50 Tryz.ntmps50 ?_
  refine kH O (bI O (aV (gK O O) (jY O (fun h1 => ?_) (fun h1 => ?_))))
  · (try simp only [Z] at h1)
    try (exfalso; first | contradiction | omega)
    all_goals
      refine bF (bW O (bF (aV (gG O O) (jQ O O (jY O (fun h2 => ?_) (fun h2 => ?_))))))
      · (try simp only [Z] at h2)
        try (exfalso; first | contradiction | omega)
        all_goals
          refine bF (bW O (bF (bW O (bF ?_))))
          refine aV (Tv O (by rw [Tryz.underlying21]; rfl) Tryz.underlying5) ?_
          refine bF (dX O Tryz.func98 (KZ) ?_)
          rintro _ _ ⟨rfl, rfl⟩
          refine bF (aV (mJ O O) (jQ O O (fP O (dL Tryz.results50 O ?_))))
          refine ⟨congrArg Value.bool ?_, O⟩; first | exact (decide_eq_false (fun c => by have := (EO hs).2 c; omega)).symm | (rw [show r % 256 = r from by omega]; exact decide_eq_decide.2 ⟨fun c => (EO hs).1 ⟨by omega, by omega, c⟩, fun c => ((EO hs).2 c).2.2⟩)
      · (try simp only [Z] at h2)
        try (exfalso; first | contradiction | omega)
        all_goals
          refine bK (bK (bK (bK (bK (iH O O (fP O (dL Tryz.results50 O ?_)))))))
          refine ⟨congrArg Value.bool ?_, O⟩; first | exact (decide_eq_false (fun c => by have := (EO hs).2 c; omega)).symm | (rw [show r % 256 = r from by omega]; exact decide_eq_decide.2 ⟨fun c => (EO hs).1 ⟨by omega, by omega, c⟩, fun c => ((EO hs).2 c).2.2⟩)
  · (try simp only [Z] at h1)
    try (exfalso; first | contradiction | omega)
    all_goals
      refine bK (bK (iH O O (bW O (bK (bK (bK (bK (bK (iH O O (fP O (dL Tryz.results50 O ?_)))))))))))
      refine ⟨congrArg Value.bool ?_, O⟩; first | exact (decide_eq_false (fun c => by have := (EO hs).2 c; omega)).symm | (rw [show r % 256 = r from by omega]; exact decide_eq_decide.2 ⟨fun c => (EO hs).1 ⟨by omega, by omega, c⟩, fun c => ((EO hs).2 c).2.2⟩)
end
end Go.Proofs.YtpdeedplgmbopaaGreatDoor
end
section
namespace Go.Proofs.YtpdeedplgmbopaaGreatDoor
open Go.RowKit
open _root_.Go.Proofs.Tryz
def Jv (st : Int) (n i : Int) : Int := if st = 1 then n - i else i + 1
theorem Qd {st n i : Int} (h : st = 1 ∨ st = -1) : Jv st n (i + st) + 1 = Jv st n i := by
  unfold Jv; rcases h with rfl | rfl
  · rw [if_pos rfl, if_pos rfl]; omega
  · rw [if_neg (by decide), if_neg (by decide)]; omega
theorem MB {st n i : Int} (h : st = 1 ∨ st = -1) (h0 : 0 ≤ i) (h1 : i < n) : 0 < Jv st n i ∧ Jv st n i ≤ n := by
  unfold Jv; rcases h with rfl | rfl
  · rw [if_pos rfl]; omega
  · rw [if_neg (by decide)]; omega
theorem adE (key : Int) : xP key = 1 ∨ xP key = -1 := by unfold xP; split <;> simp
theorem Y8 {c m x : Int} (h : ¬ x = c) : Ju c m x = some m := if_neg h
theorem Y9 {c m x : Int} (h : x = c) (h2 : 0 < m - 1) : Ju c m x = some (m - 1) := by unfold Ju; rw [if_pos h, if_neg (by omega)]
theorem abH {c m x : Int} (h : x = c) (h2 : m - 1 ≤ 0) : Ju c m x = none := by unfold Ju; rw [if_pos h, if_pos (by omega)]
theorem Ij {l : List Int} {x n key c i : Int} (h : BN (xP key) (Ju c) l n (x + xP key) = some i) : Md l x key c n = (if key = 116 ∨ key = 84 then i - xP key else i, decide (0 < xP key), true) := by unfold Md; rw [h]
theorem Nu {l : List Int} {x n key c : Int} (h : BN (xP key) (Ju c) l n (x + xP key) = none) : Md l x key c n = (0, false, false) := by unfold Md; rw [h]
section
variable {w0 w : World} {F : HP} {v : Value} {l : List Int} {x n key c r : Int} {s : ByteArray}
theorem Za (H : V w0 w F) (hr : jO w0 F .i32 v l) (hx : 0 ≤ x ∧ x ≤ l.length) (hn : 1 ≤ n) (hn2 : n ≤ 9223372036854775807) (hl9 : l.length ≤ 4611686018427387904) : jf prog 42 #[v, .int .i64 x, .int .i32 key, .int .i32 c, .int .i64 n] w fun u w' => u = abF (Md l x key c n) ∧ V w0 w' F := by
 have hst := adE key
 refine akg func42 ntmps42 ?_
 refine jg (gW O (gW O (fO O (kH O ?_))))
 refine kE [(0, _), (1, _), (2, _), (3, _), (4, _)] (fun (_ : Unit) => [(13, .int .i64 (xP key))]) (fun (_ : Unit) W => V w0 W F) sb5 ?_ ?_
 ·rintro _ w1 HL
  dsimp only [List.cons_append, List.nil_append]
  refine aI (bI O (bW O (aV (fH O O (by omega)) (fO O (bf ?_)))))
  refine iy [(0, _), (2, _), (3, _), (13, _)] (fun (⟨i, m⟩ : Int × Int) => [(4, .int .i64 m), (14, .int .i64 i)]) (fun (⟨i, m⟩ : Int × Int) W => ((-1 ≤ i ∧ i ≤ l.length + 1) ∧ (1 ≤ m ∧ m ≤ n) ∧ BN (xP key) (Ju c) l n (x + xP key) = BN (xP key) (Ju c) l m i) ∧ V w0 W F) (fun (⟨i, m⟩ : Int × Int) => (Jv (xP key) l.length i).toNat) ((x + xP key, n)) FC sG ⟨⟨by omega, by omega, O⟩, HL⟩ ?_
  rintro ⟨i, m⟩ w2 ⟨⟨hi, hm, hE⟩, HL⟩
  dsimp only [List.cons_append, List.nil_append]
  have hms := Qd (n := l.length) (i := i) hst
  have hmp := fun h0 h1 => MB (n := l.length) (i := i) hst h0 h1
  refine aI (bI O (aV (mJ O O) (jY O (fun h1 => ?_) (fun h1 => ?_))))
  ·(try simp only [Z] at h1)
   refine bF (bW O (bF (bW O (bF (aV (gZ (hr _ (HL)) ah O) (bF (aV (gG O O) (jQ O O (iW O (fun h2 => ?_) (fun h2 => ?_))))))))))
   ·(try simp only [Z] at h2)
    refine gy (aI (bf (aI (bI O (bW O ?_)))))
    obtain ⟨bv, ov, cv, ev⟩ := gB.qN (hr _ (HL)) (by omega)
    cases ev
    refine aV (dI ah bP O O (by omega)) ?_
    refine aV (dW (bV bC O) O (by first | exact gB.lN (hr _ (HL)) (by omega) | exact gB.uP (hr _ (HL)) (by omega) | exact gB.wO (hr _ (HL)) (by omega))) ?_
    refine bW O (aV (fF O O) (iW O (fun h3 => ?_) (fun h3 => ?_)))
    ·(try simp only [Z] at h3)
     have hf := Y8 (m := m) h3
     refine dR (aP (bH (aU (aF (jU O O (aV (fH O O (by omega)) (gW O (bT ?_))))))))
     refine dN (_, _) sG FC (by (try dsimp only); exact ⟨⟨by omega, by omega, hE.trans (Qa hst (by omega) (by omega) hf)⟩, HL⟩) ?_
     ·(try dsimp only); have := hmp (by omega) (by omega); omega
    ·(try simp only [Z] at h3)
     have heq : l.getD i.toNat 0 = c := by have h9 := h3; omega
     refine gy (aI (bI O (aV (jJ O O (by omega)) (fO O (bI O (aV (gK O O) (iW O (fun h4 => ?_) (fun h4 => ?_))))))))
     ·(try simp only [Z] at h4)
      have hf := Y9 heq h4
      refine dR (aP (bH (aU (aF (jU O O (aV (fH O O (by omega)) (gW O (bT ?_))))))))
      refine dN (_, _) sG FC (by (try dsimp only); exact ⟨⟨by omega, by omega, hE.trans (Qa hst (by omega) (by omega) hf)⟩, HL⟩) ?_
      ·(try dsimp only); have := hmp (by omega) (by omega); omega
     ·(try simp only [Z] at h4)
      have hf := abH heq h4
      refine gy (aI (bI O (aV (fB O O) (jY O (fun h5 => ?_) (fun h5 => ?_)))))
      ·(try simp only [Z] at h5)
       refine bK (bK (jQ O O (iR (ET (aF (jU O O (aV (jJ O O (by omega)) (fO O (bI O (bW O (aV (gK O O) (gW O (gW O (fP O (aN (aC (aC (aN (aC ?_)))))))))))))))))))
       refine dU (.inl O) results42 O O O ?_
       refine ⟨?_, HL⟩
       rw [Ij (hE.trans (I4 (by omega) (by omega) hf))]
       first | (rw [if_pos (by omega)]; rfl) | (rw [if_neg (by omega)]; rfl)
      ·(try simp only [Z] at h5)
       refine bF (bW O (bF (aV (fB O O) (iH O O (iW O (fun h6 => ?_) (fun h6 => ?_))))))
       ·(try simp only [Z] at h6)
        refine aF (jU O O (aV (jJ O O (by omega)) (fO O (bI O (bW O (aV (gK O O) (gW O (gW O (fP O (aN (aC (aC (aN (aC ?_))))))))))))))
        refine dU (.inl O) results42 O O O ?_
        refine ⟨?_, HL⟩
        rw [Ij (hE.trans (I4 (by omega) (by omega) hf))]
        first | (rw [if_pos (by omega)]; rfl) | (rw [if_neg (by omega)]; rfl)
       ·(try simp only [Z] at h6)
        refine gy (bI O (bW O (aV (gK O O) (gW O (gW O (fP O (aN (aC (aC (aN (aC ?_)))))))))))
        refine dU (.inl O) results42 O O O ?_
        refine ⟨?_, HL⟩
        rw [Ij (hE.trans (I4 (by omega) (by omega) hf))]
        first | (rw [if_pos (by omega)]; rfl) | (rw [if_neg (by omega)]; rfl)
   ·(try simp only [Z] at h2)
    refine dR (aP (aP (bH (aU (jg (gW O (gW O (fP O ?_))))))))
    refine dU (.inl O) results42 O O O ?_
    exact ⟨by rw [Nu (hE.trans (IZ (by omega)))]; rfl, HL⟩
  ·(try simp only [Z] at h1)
   refine bK (bK (bK (bK (iH O O (iR (oL (dR (aP (aP (bH (aU (jg (gW O (gW O (fP O ?_)))))))))))))))
   refine dU (.inl O) results42 O O O ?_
   exact ⟨by rw [Nu (hE.trans (IZ (by omega)))]; rfl, HL⟩
 ·skip
  refine bI O (aV (fB O O) (jY O (fun h7 => ?_) (fun h7 => ?_)))
  ·(try simp only [Z] at h7)
   refine bK (bK (jQ O O (iR (ET (aF (gW O (bT ?_)))))))
   refine dG (()) ?_ ?_ ?_
   ·exact (Sub.kJ O (by congr 1; unfold xP; first | rw [if_pos (by omega)] | rw [if_neg (by omega)]) (Sub.nil _))
   ·exact sb5
   ·(try dsimp only)
    first | done | exact H
  ·(try simp only [Z] at h7)
   refine bF (bW O (bF (aV (fB O O) (iH O O (iW O (fun h8 => ?_) (fun h8 => ?_))))))
   ·(try simp only [Z] at h8)
    refine aF (gW O (bT ?_))
    refine dG (()) ?_ ?_ ?_
    ·exact (Sub.kJ O (by congr 1; unfold xP; first | rw [if_pos (by omega)] | rw [if_neg (by omega)]) (Sub.nil _))
    ·exact sb5
    ·(try dsimp only)
     first | done | exact H
   ·(try simp only [Z] at h8)
    refine bU ?_
    refine dG (()) ?_ ?_ ?_
    ·exact (Sub.kJ O (by congr 1; unfold xP; first | rw [if_pos (by omega)] | rw [if_neg (by omega)]) (Sub.nil _))
    ·exact sb5
    ·(try dsimp only)
     first | done | exact H
end
end Go.Proofs.YtpdeedplgmbopaaGreatDoor
end
section
namespace Go.Proofs.YtpdeedplgmbopaaGreatDoor
open Go.RowKit
def ajJ (l : List wY) : Int := if l.any (fun x => decide (16384 < x.1.size)) then 3 else if l.any (fun x => decide (x.2 < 0)) then 1 else 0
section
variable {P : Program} {L : List (Nat × Value)} {w0 w : World} {F : HP} {p : Nat} {hl l : List wY} {base most : Int} {v : Value}
def agT (hl : List wY) (most : Int) : Nat := hl.length - most.toNat
def alk (hl : List wY) (most : Int) (l : List wY) : List wY := if ajJ l = 0 then (hl ++ l).drop (agT (hl ++ l) most) else hl
def alm (hl : List wY) (base most : Int) (l : List wY) : Int := if ajJ l = 0 then base + agT (hl ++ l) most else base
end
def alU (l : List wY) : List wY := alk [] 4096 l
def alV (l : List wY) : Int := alm [] 1 4096 l
end Go.Proofs.YtpdeedplgmbopaaGreatDoor
end
section
namespace Go.Proofs.YtpdeedplgmbopaaGreatDoor
open Go.RowKit
open _root_.Go.Proofs.Tryz
theorem Ja.cut {I : Hp} {v : Value} {sz n : Nat} {xs : List Value} (hr : Ja I sz v n xs) {l h : Nat} (h1 : l ≤ h) (h2 : h ≤ n) : Ja I sz (wV sz l h v) (h - l) ((xs.drop (l * sz)).take ((h - l) * sz)) := by
  obtain ⟨hl, a, c, rfl, hc1, hc2, hc⟩ := hr
  refine ⟨?_, Gw a l c sz, c - l, rfl, by omega, by omega, fun hp => ?_⟩
  · rw [List.length_take, List.length_drop, hl, ← Nat.sub_mul]
    exact Nat.min_eq_left (Nat.mul_le_mul_right _ (by omega))
  · obtain ⟨b, o, cs, e, fr, rfl, hI, hcell⟩ := hc (by omega)
    have : ¬ c = l := by omega
    refine ⟨b, o + l * sz, cs, e, fr, by simp [Gw, this, yM], hI, fun j hj => ?_⟩
    have e1 : l * sz + (h - l) * sz = h * sz := by rw [← Nat.add_mul]; congr 1; omega
    have e2 : h * sz ≤ n * sz := Nat.mul_le_mul_right _ h2
    have := hcell (l * sz + j) (by omega)
    rw [Nat.add_assoc, this, List.getD_eq_getElem?_getD, List.getD_eq_getElem?_getD, List.getElem?_take, if_pos hj, List.getElem?_drop]
def hlK (v : Value) (l : List wY) : HP := know (fun I => Ja I 2 v l.length (l.flatMap Gq)) fun _ _ hl h => h.mono hl
def lY (p : Nat) (hl : List wY) (base most : Int) : HP := zX fun (v : Value) => fact (HOk hl base most) • gJ p (.cells #[v, .int .i64 base, .int .i64 most] 155 (0, 0)) • hlK v hl
section
variable {P : Program} {L : List (Nat × Value)} {w0 w : World} {F : HP} {p : Nat} {hl l : List wY} {base most : Int} {v : Value}
theorem V.Qe (H : V w0 w (hlK v l • F)) : Rd w 2 v l.length (l.flatMap Gq) := let ⟨I, h, hI⟩ := H.yL; h.rd hI
theorem V.TI (H : V w0 w (Row 218 2 v l.length (l.flatMap Gq) • F)) : V w0 w (hlK v l • F) := by
  have hl := H.rJ
  rcases H.xZ with ⟨a, rfl, h1, h2, H1⟩ | ⟨g, o, c, cur, rfl, h2, h3, h4, h5, H1⟩
  · exact H1.BU fun I => ⟨hl, a, 0, by rw [h1], by omega, by decide, fun h => by omega⟩
  · exact H1.freeze.JD (vG (fun I hI => ⟨hl, _, c, rfl, h2, h3, fun _ => ⟨g, o, cur, _, (0, 0), rfl, hI, h5⟩⟩) F)
theorem V.aax (H : V w0 w (lY p hl base most • F)) : ∃ v, HOk hl base most ∧ V w0 w (gJ p (.cells #[v, .int .i64 base, .int .i64 most] 155 (0, 0)) • hlK v hl • F) := by
  obtain ⟨v, H⟩ := H.qY
  obtain ⟨h, H⟩ := H.flat.fact
  exact ⟨v, h, H.flat⟩
theorem V.La (h : HOk hl base most) (H : V w0 w (gJ p (.cells #[v, .int .i64 base, .int .i64 most] 155 (0, 0)) • hlK v hl • F)) : V w0 w (lY p hl base most • F) :=
  V.kT v (V.deep (V.oQ h H.deep))
theorem ah9 {l : List wY} {k : Nat} (hk : k < l.length) : (l.flatMap Gq).getD (k * 2 + 0) undef = .string (l.getD k default).1 := by
  have h := congrArg (fun x => x.getD 0 undef) (rY SS hk default)
  simp only [List.getD_eq_getElem?_getD, List.getElem?_take, List.getElem?_drop] at h ⊢
  exact h
theorem Rq {n : Int} (H : V w0 w F) (hn : 0 ≤ n ∧ n ≤ 4096) : jf prog 56 #[.int .i64 n] w fun v w' => ∃ p, v = .tuple #[.pointer (some ⟨p, 0, none⟩), .int .i64 0] ∧ V w0 w' (lY p [] 1 n • F) := by
  refine jE func56 ntmps56 ?_
  refine jg (gW O (tX O (bI O (aV (gG O O) (jY O (fun h1 => ?_) (fun h1 => ?_))))))
  · (try simp only [Z] at h1)
    exfalso; first | contradiction | omega
  · (try simp only [Z] at h1)
    refine bF (bW O (bF (aV (gK O O) (iH O O (iW O (fun h2 => ?_) (fun h2 => ?_))))))
    · (try simp only [Z] at h2)
      exfalso; first | contradiction | omega
    · (try simp only [Z] at h2)
      refine gy (bI O ?_)
      refine aV (iJ (zl := [.slice none 0 0, .int .i64 0, .int .i64 0]) (pl := [(0, 1), (1, 1), (2, 1)]) [_, _, _] pX zeroValue155 O (fun w => by kernel_rfl) O (.zero (zs := [.slice none 0 0]) O (.on (.on .nil))) O) ?_
      refine kV (kK (l := [_, _, _]) H O O) ?_
      rintro _ w1 ⟨b1, rfl, H1⟩
      refine gW O (fP O (MO results56 O O ?_))
      exact ⟨_, O, V.La (v := .slice none 0 0) (hl := []) ⟨by simp, by decide, by decide, by simp; omega, by omega, by simp⟩ ((H1.kF none).TI (l := [])).swap⟩
theorem NY (H : V w0 w (lY p hl base most • F)) : jf prog 113 #[.pointer (some ⟨p, 0, none⟩)] w fun v w' => ∃ q, v = .pointer (some ⟨q, 0, none⟩) ∧ V w0 w' (lY q hl base most • lY p hl base most • F) := by
 refine jE func113 ntmps113 ?_
 refine kH O (aI ?_)
 obtain ⟨YJ, Jc, Gz⟩ := (H).aax
 have hkl := Jc.1
 have Xj := @Z7 hl
 have Rl := Gz.drew
 have oP := V.kp (Rl.f2.f2)
 refine nG [3, 8, 12] oP O (fD 0 O oP O (iG 1 O oP O (dJ 2 O oP 0 pX O sizeOf149 O (fM 3 O oP (fun W hW => fQ jB O ((Kp.h hW)).get.2 O) (fD 5 O oP O (iG 6 O oP O (dJ 7 O oP 1 pX O fV O (fM 8 O oP (fun W hW => fQ gq O ((Kp.h hW)).get.2 O) (fD 9 O oP O (iG 10 O oP O (dJ 11 O oP 2 pX O aj O (fM 12 O oP (fun W hW => fQ aA O ((Kp.h hW)).get.2 O) (ny 4 O (jy (Rl.kF none) jB aia O O O ((Rl.f2).Qe) (by assumption) (by omega) (by omega)) ?_)))))))))))))
 rintro l2 w2 H2
 have zB := V.kp (H2.f3.f3.f3)
 refine dK zB (fun W hW => (Kp.h hW).right.f2.f2) ?_
 refine dS 13 O zB (fun _ => iJ (zl := [.slice none 0 0, .int .i64 0, .int .i64 0]) (pl := [(0, 1), (1, 1), (2, 1)]) [_, _, _] pX zeroValue155 O (fun w => by kernel_rfl) O (.one (Rd.one ((H2).aO)) (.on (.on .nil))) O) ?_
 refine ny 14 O (kK (l := [_, _, _]) H2 O O) ?_
 rintro _ w3 ⟨b3, rfl, H3⟩
 have uQ := V.kp (H3.f4.f4.f4.f4)
 refine gU uQ (by kernel_rfl) ?_
 refine dS 15 O uQ (fun _ => aW O) (lJ (aU (iL (dL results113 O ?_))))
 have Ho5 := H3.f4.f4
 have Hc6 := V.La Jc Ho5
 have HQ := Hc6.f2.f3
 rw [List.nil_append, Nat.zero_add] at HQ
 exact ⟨_, O, V.La Jc HQ.TI.swap⟩
end
end Go.Proofs.YtpdeedplgmbopaaGreatDoor
end
