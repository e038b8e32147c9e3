import Derived.Test.YtpdeedplgmbopaaGreatDoorZ4
import Derived.Test.YtpdeedplgmbopaaGreatDoorZ15
import Derived.Test.YtpdeedplgmbopaaGreatDoorZ14
import Derived.Test.YtpdeedplgmbopaaGreatDoorZ3
import Derived.Scope
import Derived.Laws.RangeString
import Derived.Lib.OthersKept
import Derived.Lib.Bytealg
import Derived.Test.YtpdeedplgmbopaaGreatDoorProg
import Derived.Test.YtpdeedplgmbopaaGreatDoorZ2
set_option linter.unusedSimpArgs false
set_option linter.unusedVariables false
/- Texts of mine, joined, their names in short: VW3 VW4 VS VN Str StrF VI. -/
section
namespace Go.Proofs.YtpdeedplgmbopaaGreatDoor
open Go.RowKit
open _root_.Go.Proofs.Tryz
section
variable {w0 w : World} {F : HP} {r x : Int} {big : Bool} {l : List Int} {v : Value}
theorem Zq (H : V w0 w F) (hr : jh w0 F .i32 v l) (hT : vZ w0) (hx0 : 0 ≤ x) (hx1 : x ≤ l.length) : iQ prog 95 #[v, .int .i64 x, .bool big] w fun v' w' => v' = .int .i64 (Bz l x big) ∧ V w0 w' F := by
 have Yk : l.length ≤ 9223372036854775807 := by have := (hr _ H).open; obtain ⟨a, c, e, h3, h4, _⟩ := this; omega
 refine zk func95 ntmps95 ?_
 refine ku O (aI (bM O (bJ O (aQ (iT (hr _ (H)) ah O) (aQ (gW O O) (jr O (fun h1 => ?_) (fun h1 => ?_)))))))
 ·(try simp only [Z] at h1)
  refine bM O (bJ O ?_)
  obtain ⟨bv, ov, cv, ev⟩ := fJ.rW (hr _ (H)) (by omega)
  cases ev
  refine aQ (dM ah bK O O (by omega)) ?_
  refine aQ (fF (dA bC O) O (by first | exact fJ.lX (hr _ (H)) (by omega) | exact fJ.xJ (hr _ (H)) (by omega) | exact fJ.xH (hr _ (H)) (by omega))) ?_
  refine bJ O (dS O func142 (oJ H hT) ?_)
  rintro _ w1 ⟨rfl, H1⟩
  refine dZ O (bM O (aQ (gY O O) (jr O (fun h2 => ?_) (fun h2 => ?_))))
  ·(try simp only [Z] at h2)
   have hk : ¬ dN (l.getD x.toNat 0) big = 0 := h2
   refine bf ?_
   refine iC [(0, _), (2, _), (7, _)] (fun (y : Int) => [(1, .int .i64 y)]) (fun (y : Int) W => ((0 ≤ y ∧ y ≤ l.length) ∧ mJ (fun r => dN r big == dN (l.getD x.toNat 0) big) l y = mJ (fun r => dN r big == dN (l.getD x.toNat 0) big) l x) ∧ V w0 W F) (fun (y : Int) => (l.length - y).toNat) (x) vC mO ⟨⟨⟨hx0, hx1⟩, O⟩, H1⟩ ?_
   rintro y w2 ⟨⟨⟨hy0, hyl⟩, hy⟩, HL⟩
   dsimp only [List.cons_append, List.nil_append]
   refine aI (bM O (bJ O (aQ (jH ah O) (aQ (gW O O) (jm O (fun h3 => ?_) (fun h3 => ?_))))))
   ·(try simp only [Z] at h3)
    refine aY (bJ O (aY (bJ O (aY (aQ (dM ah bK O O (by omega)) (aY ?_))))))
    refine aQ (fF (dA bC O) O (by first | exact fJ.lX (hr _ (HL)) (by omega) | exact fJ.xJ (hr _ (HL)) (by omega) | exact fJ.xH (hr _ (HL)) (by omega))) ?_
    refine aY (bJ O (aY (dS O func142 (oJ HL hT) ?_)))
    rintro _ w3 ⟨rfl, H3⟩
    refine aY (bJ O (aY (aQ (eF O O) (je O O (jr O (fun h4 => ?_) (fun h4 => ?_))))))
    ·(try simp only [Z] at h4)
     have hP : (dN (l.getD y.toNat 0) big == dN (l.getD x.toNat 0) big) = true := by rw [beq_iff_eq]; exact h4
     refine fV (bf (aB (bJ O (aQ (fQ O O (by omega)) (gU O (bZ (aH ?_)))))))
     refine dX (y + 1) ?_ ?_ ?_ ?_
     ·exact mO
     ·exact vC
     ·(try dsimp only)
      first | done | exact ⟨⟨⟨by omega, by omega⟩, (uV hy0 (by omega) hP).symm.trans hy⟩, H3⟩
     ·(try dsimp only); omega
    ·(try simp only [Z] at h4)
     have hP : ¬ (dN (l.getD y.toNat 0) big == dN (l.getD x.toNat 0) big) = true := by rw [beq_iff_eq]; exact h4
     refine dR (aO (aO (bG (aX (aI (bf ?_))))))
     try have e1 : mJ (fun r => dN r big == dN (l.getD x.toNat 0) big) l x = y := hy.symm.trans (by first | exact kY (by omega) | exact nU hy0 (by omega) hP)
     refine iC [(0, _)] (fun (z : Int) => [(1, .int .i64 z)]) (fun (z : Int) W => ((0 ≤ z ∧ z ≤ l.length) ∧ Bz l x big = mJ (fun r => iw r == 0) l z) ∧ V w0 W F) (fun (z : Int) => (l.length - z).toNat) (_) mO mO ⟨⟨⟨by omega, by omega⟩, by unfold Bz; first | (rw [if_neg (by omega)]; done) | (rw [if_pos (by omega), if_pos hk]; done) | (rw [if_pos (by omega), if_neg hk, e1]; done)⟩, H3⟩ ?_
     rintro z w4 ⟨⟨⟨hz0, hzl⟩, hz⟩, HM⟩
     dsimp only [List.cons_append, List.nil_append]
     refine aI (bM O (bJ O (aQ (jH ah O) (aQ (gW O O) (jm O (fun h5 => ?_) (fun h5 => ?_))))))
     ·(try simp only [Z] at h5)
      refine aY (bJ O (aY (bJ O (aY (aQ (dM ah bK O O (by omega)) (aY ?_))))))
      refine aQ (fF (dA bC O) O (by first | exact fJ.lX (hr _ (HM)) (by omega) | exact fJ.xJ (hr _ (HM)) (by omega) | exact fJ.xH (hr _ (HM)) (by omega))) ?_
      refine aY (dS O func14 (rH HM hT) ?_)
      rintro _ w5 ⟨rfl, H5⟩
      refine aY (aQ (eF O O) (je O O (jr O (fun h6 => ?_) (fun h6 => ?_))))
      ·(try simp only [Z] at h6)
       have hQ : (iw (l.getD z.toNat 0) == 0) = true := by rw [beq_iff_eq]; exact h6
       refine fV (bf (aB (bJ O (aQ (fQ O O (by omega)) (gU O (bZ (aH ?_)))))))
       refine dX (z + 1) ?_ ?_ ?_ ?_
       ·exact mO
       ·exact mO
       ·(try dsimp only)
        first | done | exact ⟨⟨⟨by omega, by omega⟩, hz.trans (uV hz0 (by omega) hQ)⟩, H5⟩
       ·(try dsimp only); omega
      ·(try simp only [Z] at h6)
       have hQ : ¬ (iw (l.getD z.toNat 0) == 0) = true := by rw [beq_iff_eq]; exact h6
       refine dR (aO (aO (bG (aX (bM O (fA O (dI results95 O ?_)))))))
       exact ⟨by rw [hz]; first | rw [kY (by omega)] | rw [nU hz0 (by omega) hQ], H5⟩
     ·(try simp only [Z] at h5)
      refine bn (bn (bn (bn (bn (bn (fG O O (iE (oh (dR (aO (aO (bG (aX (bM O (fA O (dI results95 O ?_))))))))))))))))
      exact ⟨by rw [hz]; first | rw [kY (by omega)] | rw [nU hz0 (by omega) hQ], HM⟩
   ·(try simp only [Z] at h3)
    refine bn (bn (bn (bn (bn (bn (bn (bn (fG O O (iE (oh (dR (aO (aO (bG (aX (aI (bf ?_)))))))))))))))))
    try have e1 : mJ (fun r => dN r big == dN (l.getD x.toNat 0) big) l x = y := hy.symm.trans (by first | exact kY (by omega) | exact nU hy0 (by omega) hP)
    refine iC [(0, _)] (fun (z : Int) => [(1, .int .i64 z)]) (fun (z : Int) W => ((0 ≤ z ∧ z ≤ l.length) ∧ Bz l x big = mJ (fun r => iw r == 0) l z) ∧ V w0 W F) (fun (z : Int) => (l.length - z).toNat) (_) mO mO ⟨⟨⟨by omega, by omega⟩, by unfold Bz; first | (rw [if_neg (by omega)]; done) | (rw [if_pos (by omega), if_pos hk]; done) | (rw [if_pos (by omega), if_neg hk, e1]; done)⟩, HL⟩ ?_
    rintro z w6 ⟨⟨⟨hz0, hzl⟩, hz⟩, HM⟩
    dsimp only [List.cons_append, List.nil_append]
    refine aI (bM O (bJ O (aQ (jH ah O) (aQ (gW O O) (jm O (fun h7 => ?_) (fun h7 => ?_))))))
    ·(try simp only [Z] at h7)
     refine aY (bJ O (aY (bJ O (aY (aQ (dM ah bK O O (by omega)) (aY ?_))))))
     refine aQ (fF (dA bC O) O (by first | exact fJ.lX (hr _ (HM)) (by omega) | exact fJ.xJ (hr _ (HM)) (by omega) | exact fJ.xH (hr _ (HM)) (by omega))) ?_
     refine aY (dS O func14 (rH HM hT) ?_)
     rintro _ w7 ⟨rfl, H7⟩
     refine aY (aQ (eF O O) (je O O (jr O (fun h8 => ?_) (fun h8 => ?_))))
     ·(try simp only [Z] at h8)
      have hQ : (iw (l.getD z.toNat 0) == 0) = true := by rw [beq_iff_eq]; exact h8
      refine fV (bf (aB (bJ O (aQ (fQ O O (by omega)) (gU O (bZ (aH ?_)))))))
      refine dX (z + 1) ?_ ?_ ?_ ?_
      ·exact mO
      ·exact mO
      ·(try dsimp only)
       first | done | exact ⟨⟨⟨by omega, by omega⟩, hz.trans (uV hz0 (by omega) hQ)⟩, H7⟩
      ·(try dsimp only); omega
     ·(try simp only [Z] at h8)
      have hQ : ¬ (iw (l.getD z.toNat 0) == 0) = true := by rw [beq_iff_eq]; exact h8
      refine dR (aO (aO (bG (aX (bM O (fA O (dI results95 O ?_)))))))
      exact ⟨by rw [hz]; first | rw [kY (by omega)] | rw [nU hz0 (by omega) hQ], H7⟩
    ·(try simp only [Z] at h7)
     refine bn (bn (bn (bn (bn (bn (fG O O (iE (oh (dR (aO (aO (bG (aX (bM O (fA O (dI results95 O ?_))))))))))))))))
     exact ⟨by rw [hz]; first | rw [kY (by omega)] | rw [nU hz0 (by omega) hQ], HM⟩
  ·(try simp only [Z] at h2)
   have hk : dN (l.getD x.toNat 0) big = 0 := by have h9 := h2; omega
   refine fV (aI (bf ?_))
   try have e1 : mJ (fun r => dN r big == dN (l.getD x.toNat 0) big) l x = y := hy.symm.trans (by first | exact kY (by omega) | exact nU hy0 (by omega) hP)
   refine iC [(0, _)] (fun (z : Int) => [(1, .int .i64 z)]) (fun (z : Int) W => ((0 ≤ z ∧ z ≤ l.length) ∧ Bz l x big = mJ (fun r => iw r == 0) l z) ∧ V w0 W F) (fun (z : Int) => (l.length - z).toNat) (_) mO mO ⟨⟨⟨by omega, by omega⟩, by unfold Bz; first | (rw [if_neg (by omega)]; done) | (rw [if_pos (by omega), if_pos hk]; done) | (rw [if_pos (by omega), if_neg hk, e1]; done)⟩, H1⟩ ?_
   rintro z w8 ⟨⟨⟨hz0, hzl⟩, hz⟩, HM⟩
   dsimp only [List.cons_append, List.nil_append]
   refine aI (bM O (bJ O (aQ (jH ah O) (aQ (gW O O) (jm O (fun h9 => ?_) (fun h9 => ?_))))))
   ·(try simp only [Z] at h9)
    refine aY (bJ O (aY (bJ O (aY (aQ (dM ah bK O O (by omega)) (aY ?_))))))
    refine aQ (fF (dA bC O) O (by first | exact fJ.lX (hr _ (HM)) (by omega) | exact fJ.xJ (hr _ (HM)) (by omega) | exact fJ.xH (hr _ (HM)) (by omega))) ?_
    refine aY (dS O func14 (rH HM hT) ?_)
    rintro _ w9 ⟨rfl, H9⟩
    refine aY (aQ (eF O O) (je O O (jr O (fun h10 => ?_) (fun h10 => ?_))))
    ·(try simp only [Z] at h10)
     have hQ : (iw (l.getD z.toNat 0) == 0) = true := by rw [beq_iff_eq]; exact h10
     refine fV (bf (aB (bJ O (aQ (fQ O O (by omega)) (gU O (bZ (aH ?_)))))))
     refine dX (z + 1) ?_ ?_ ?_ ?_
     ·exact mO
     ·exact mO
     ·(try dsimp only)
      first | done | exact ⟨⟨⟨by omega, by omega⟩, hz.trans (uV hz0 (by omega) hQ)⟩, H9⟩
     ·(try dsimp only); omega
    ·(try simp only [Z] at h10)
     have hQ : ¬ (iw (l.getD z.toNat 0) == 0) = true := by rw [beq_iff_eq]; exact h10
     refine dR (aO (aO (bG (aX (bM O (fA O (dI results95 O ?_)))))))
     exact ⟨by rw [hz]; first | rw [kY (by omega)] | rw [nU hz0 (by omega) hQ], H9⟩
   ·(try simp only [Z] at h9)
    refine bn (bn (bn (bn (bn (bn (fG O O (iE (oh (dR (aO (aO (bG (aX (bM O (fA O (dI results95 O ?_))))))))))))))))
    exact ⟨by rw [hz]; first | rw [kY (by omega)] | rw [nU hz0 (by omega) hQ], HM⟩
 ·(try simp only [Z] at h1)
  refine fV (aI (bf ?_))
  try have e1 : mJ (fun r => dN r big == dN (l.getD x.toNat 0) big) l x = y := hy.symm.trans (by first | exact kY (by omega) | exact nU hy0 (by omega) hP)
  refine iC [(0, _)] (fun (z : Int) => [(1, .int .i64 z)]) (fun (z : Int) W => ((0 ≤ z ∧ z ≤ l.length) ∧ Bz l x big = mJ (fun r => iw r == 0) l z) ∧ V w0 W F) (fun (z : Int) => (l.length - z).toNat) (_) mO mO ⟨⟨⟨by omega, by omega⟩, by unfold Bz; first | (rw [if_neg (by omega)]; done) | (rw [if_pos (by omega), if_pos hk]; done) | (rw [if_pos (by omega), if_neg hk, e1]; done)⟩, H⟩ ?_
  rintro z w10 ⟨⟨⟨hz0, hzl⟩, hz⟩, HM⟩
  dsimp only [List.cons_append, List.nil_append]
  refine aI (bM O (bJ O (aQ (iT (hr _ (HM)) ah O) (aQ (gW O O) (jm O (fun h11 => ?_) (fun h11 => ?_))))))
  ·(try simp only [Z] at h11)
   refine aY (bJ O (aY (bJ O (aY ?_))))
   obtain ⟨bv, ov, cv, ev⟩ := fJ.rW (hr _ (HM)) (by omega)
   cases ev
   refine aQ (dM ah bK O O (by omega)) (aY ?_)
   refine aQ (fF (dA bC O) O (by first | exact fJ.lX (hr _ (HM)) (by omega) | exact fJ.xJ (hr _ (HM)) (by omega) | exact fJ.xH (hr _ (HM)) (by omega))) ?_
   refine aY (dS O func14 (rH HM hT) ?_)
   rintro _ FM ⟨rfl, rY⟩
   refine aY (aQ (eF O O) (je O O (jr O (fun h12 => ?_) (fun h12 => ?_))))
   ·(try simp only [Z] at h12)
    have hQ : (iw (l.getD z.toNat 0) == 0) = true := by rw [beq_iff_eq]; exact h12
    refine fV (bf (aB (bJ O (aQ (fQ O O (by omega)) (gU O (bZ (aH ?_)))))))
    refine dX (z + 1) ?_ ?_ ?_ ?_
    ·exact mO
    ·exact mO
    ·(try dsimp only)
     first | done | exact ⟨⟨⟨by omega, by omega⟩, hz.trans (uV hz0 (by omega) hQ)⟩, rY⟩
    ·(try dsimp only); omega
   ·(try simp only [Z] at h12)
    have hQ : ¬ (iw (l.getD z.toNat 0) == 0) = true := by rw [beq_iff_eq]; exact h12
    refine dR (aO (aO (bG (aX (bM O (fA O (dI results95 O ?_)))))))
    exact ⟨by rw [hz]; first | rw [kY (by omega)] | rw [nU hz0 (by omega) hQ], rY⟩
  ·(try simp only [Z] at h11)
   refine bn (bn (bn (bn (bn (bn (fG O O (iE (oh (dR (aO (aO (bG (aX (bM O (fA O (dI results95 O ?_))))))))))))))))
   exact ⟨by rw [hz]; first | rw [kY (by omega)] | rw [nU hz0 (by omega) hQ], HM⟩
end
def DR (l : List Int) (x : Int) (big : Bool) : Int :=
  if 0 < yZ (fun r => iw r == 0) l x then yZ (fun r => dN r big == dN (l.getD (yZ (fun r => iw r == 0) l x - 1).toNat 0) big) l (yZ (fun r => iw r == 0) l x) else yZ (fun r => iw r == 0) l x
def KH (l : List Int) (x : Int) (big : Bool) : Int :=
  if (l.length : Int) ≤ mJ (fun r => iw r == 0) l (x + 1) then (l.length : Int) - 1 else mJ (fun r => dN r big == dN (l.getD (mJ (fun r => iw r == 0) l (x + 1)).toNat 0) big) l (mJ (fun r => iw r == 0) l (x + 1) + 1) - 1
section
variable {w0 w : World} {F : HP} {r x : Int} {big : Bool} {l : List Int} {v : Value}
theorem Zr (H : V w0 w F) (hr : jh w0 F .i32 v l) (hT : vZ w0) (hx0 : 0 ≤ x) (hx1 : x ≤ l.length) : iQ prog 96 #[v, .int .i64 x, .bool big] w fun v' w' => v' = .int .i64 (DR l x big) ∧ V w0 w' F := by
 have Yk : l.length ≤ 9223372036854775807 := by have := (hr _ H).open; obtain ⟨a, c, e, h3, h4, _⟩ := this; omega
 refine zk func96 ntmps96 ?_
 refine ku O (aI (bf ?_))
 refine iC [(0, _), (2, _)] (fun (y : Int) => [(1, .int .i64 y)]) (fun (y : Int) W => ((0 ≤ y ∧ y ≤ l.length) ∧ yZ (fun r => iw r == 0) l y = yZ (fun r => iw r == 0) l x) ∧ V w0 W F) (fun (y : Int) => y.toNat) (x) uh mO ⟨⟨⟨hx0, hx1⟩, O⟩, H⟩ ?_
 rintro y w1 ⟨⟨⟨hy0, hyl⟩, hy⟩, HL⟩
 dsimp only [List.cons_append, List.nil_append]
 refine aI (bM O (aQ (eX O O) (jm O (fun h1 => ?_) (fun h1 => ?_))))
 ·(try simp only [Z] at h1)
  refine aY (bJ O (aY (bJ O (aY (aQ (jk O O (by omega)) (aY ?_))))))
  obtain ⟨bv, ov, cv, ev⟩ := fJ.rW (hr _ (HL)) (by omega)
  cases ev
  refine aQ (dM ah bK O O (by omega)) (aY ?_)
  refine aQ (fF (dA bC O) O (by first | exact fJ.lX (hr _ (HL)) (by omega) | exact fJ.xJ (hr _ (HL)) (by omega) | exact fJ.xH (hr _ (HL)) (by omega))) ?_
  refine aY (dS O func14 (rH HL hT) ?_)
  rintro _ w2 ⟨rfl, H2⟩
  refine aY (aQ (eF O O) (je O O (jr O (fun h2 => ?_) (fun h2 => ?_))))
  ·(try simp only [Z] at h2)
   have hP : (iw (l.getD (y - 1).toNat 0) == 0) = true := by rw [beq_iff_eq]; exact h2
   refine fV (bf (aB (bJ O (aQ (jk O O (by omega)) (gU O (bZ (aH ?_)))))))
   refine dX (y - 1) ?_ ?_ ?_ ?_
   ·exact mO
   ·exact uh
   ·(try dsimp only)
    first | done | exact ⟨⟨⟨by omega, by omega⟩, (Nq (by omega) hyl hP).symm.trans hy⟩, H2⟩
   ·(try dsimp only); omega
  ·(try simp only [Z] at h2)
   have hP : ¬ (iw (l.getD (y - 1).toNat 0) == 0) = true := by rw [beq_iff_eq]; exact h2
   refine dR (aO (aO (bG (aX (aI (aI ?_))))))
   have e1 : yZ (fun r => iw r == 0) l x = y := hy.symm.trans (by first | exact yP (by omega) | exact Bv (by omega) hyl hP)
   refine aB (bJ O (aQ (eX O O) (jr O (fun h3 => ?_) (fun h3 => ?_))))
   ·(try simp only [Z] at h3)
    refine bM O (bJ O (aQ (jk O O (by omega)) (aQ (dM ah bK O O (by omega)) ?_)))
    refine aQ (fF (dA bC O) O (by first | exact fJ.lX (hr _ (H2)) (by omega) | exact fJ.xJ (hr _ (H2)) (by omega) | exact fJ.xH (hr _ (H2)) (by omega))) ?_
    refine bJ O (dS O func142 (oJ H2 hT) ?_)
    rintro _ w3 ⟨rfl, H3⟩
    refine dZ O (bf ?_)
    refine iC [(0, _), (2, _), (7, _)] (fun (z : Int) => [(1, .int .i64 z)]) (fun (z : Int) W => ((0 ≤ z ∧ z ≤ l.length) ∧ yZ (fun r => dN r big == dN (l.getD (y - 1).toNat 0) big) l z = yZ (fun r => dN r big == dN (l.getD (y - 1).toNat 0) big) l y) ∧ V w0 W F) (fun (z : Int) => z.toNat) (y) vC mO ⟨⟨⟨by omega, by omega⟩, O⟩, H3⟩ ?_
    rintro z w4 ⟨⟨⟨hz0, hzl⟩, hz⟩, HM⟩
    dsimp only [List.cons_append, List.nil_append]
    refine aI (bM O (aQ (eX O O) (jm O (fun h4 => ?_) (fun h4 => ?_))))
    ·(try simp only [Z] at h4)
     refine aY (bJ O (aY (bJ O (aY (aQ (jk O O (by omega)) (aY (aQ (dM ah bK O O (by omega)) (aY ?_))))))))
     refine aQ (fF (dA bC O) O (by first | exact fJ.lX (hr _ (HM)) (by omega) | exact fJ.xJ (hr _ (HM)) (by omega) | exact fJ.xH (hr _ (HM)) (by omega))) ?_
     refine aY (bJ O (aY (dS O func142 (oJ HM hT) ?_)))
     rintro _ w5 ⟨rfl, H5⟩
     refine aY (bJ O (aY (aQ (eF O O) (je O O (jr O (fun h5 => ?_) (fun h5 => ?_))))))
     ·(try simp only [Z] at h5)
      have hQ : (dN (l.getD (z - 1).toNat 0) big == dN (l.getD (y - 1).toNat 0) big) = true := by rw [beq_iff_eq]; exact h5
      refine fV (bf (aB (bJ O (aQ (jk O O (by omega)) (gU O (bZ (aH ?_)))))))
      refine dX (z - 1) ?_ ?_ ?_ ?_
      ·exact mO
      ·exact vC
      ·(try dsimp only)
       first | done | exact ⟨⟨⟨by omega, by omega⟩, (Nq (by omega) hzl hQ).symm.trans hz⟩, H5⟩
      ·(try dsimp only); omega
     ·(try simp only [Z] at h5)
      have hQ : ¬ (dN (l.getD (z - 1).toNat 0) big == dN (l.getD (y - 1).toNat 0) big) = true := by rw [beq_iff_eq]; exact h5
      refine dR (aO (aO (bG (aX (bM O (fA O (dI results96 O ?_)))))))
      exact ⟨by unfold DR; rw [e1]; first | (rw [if_neg (by omega)]; done) | (rw [if_pos (by omega), ← hz]; first | rw [yP (by omega)] | rw [Bv (by omega) hzl hQ]), H5⟩
    ·(try simp only [Z] at h4)
     refine bn (bn (bn (bn (bn (bn (bn (bn (bn (fG O O (iE (oh (dR (aO (aO (bG (aX (bM O (fA O (dI results96 O ?_)))))))))))))))))))
     exact ⟨by unfold DR; rw [e1]; first | (rw [if_neg (by omega)]; done) | (rw [if_pos (by omega), ← hz]; first | rw [yP (by omega)] | rw [Bv (by omega) hzl hQ]), HM⟩
   ·(try simp only [Z] at h3)
    refine fV (bM O (fA O (dI results96 O ?_)))
    exact ⟨by unfold DR; rw [e1]; first | (rw [if_neg (by omega)]; done) | (rw [if_pos (by omega), ← hz]; first | rw [yP (by omega)] | rw [Bv (by omega) hzl hQ]), H2⟩
 ·(try simp only [Z] at h1)
  refine bn (bn (bn (bn (bn (bn (bn (fG O O (iE (oh (dR (aO (aO (bG (aX (aI (aI ?_))))))))))))))))
  have e1 : yZ (fun r => iw r == 0) l x = y := hy.symm.trans (by first | exact yP (by omega) | exact Bv (by omega) hyl hP)
  refine aB (bJ O (aQ (eX O O) (jr O (fun h6 => ?_) (fun h6 => ?_))))
  ·(try simp only [Z] at h6)
   refine bM O (bJ O (aQ (jk O O (by omega)) ?_))
   obtain ⟨bv, ov, cv, ev⟩ := fJ.rW (hr _ (HL)) (by omega)
   cases ev
   refine aQ (dM ah bK O O (by omega)) ?_
   refine aQ (fF (dA bC O) O (by first | exact fJ.lX (hr _ (HL)) (by omega) | exact fJ.xJ (hr _ (HL)) (by omega) | exact fJ.xH (hr _ (HL)) (by omega))) ?_
   refine bJ O (dS O func142 (oJ HL hT) ?_)
   rintro _ w6 ⟨rfl, H6⟩
   refine dZ O (bf ?_)
   refine iC [(0, _), (2, _), (7, _)] (fun (z : Int) => [(1, .int .i64 z)]) (fun (z : Int) W => ((0 ≤ z ∧ z ≤ l.length) ∧ yZ (fun r => dN r big == dN (l.getD (y - 1).toNat 0) big) l z = yZ (fun r => dN r big == dN (l.getD (y - 1).toNat 0) big) l y) ∧ V w0 W F) (fun (z : Int) => z.toNat) (y) vC mO ⟨⟨⟨by omega, by omega⟩, O⟩, H6⟩ ?_
   rintro z w7 ⟨⟨⟨hz0, hzl⟩, hz⟩, HM⟩
   dsimp only [List.cons_append, List.nil_append]
   refine aI (bM O (aQ (eX O O) (jm O (fun h7 => ?_) (fun h7 => ?_))))
   ·(try simp only [Z] at h7)
    refine aY (bJ O (aY (bJ O (aY (aQ (jk O O (by omega)) (aY (aQ (dM ah bK O O (by omega)) (aY ?_))))))))
    refine aQ (fF (dA bC O) O (by first | exact fJ.lX (hr _ (HM)) (by omega) | exact fJ.xJ (hr _ (HM)) (by omega) | exact fJ.xH (hr _ (HM)) (by omega))) ?_
    refine aY (bJ O (aY (dS O func142 (oJ HM hT) ?_)))
    rintro _ w8 ⟨rfl, H8⟩
    refine aY (bJ O (aY (aQ (eF O O) (je O O (jr O (fun h8 => ?_) (fun h8 => ?_))))))
    ·(try simp only [Z] at h8)
     have hQ : (dN (l.getD (z - 1).toNat 0) big == dN (l.getD (y - 1).toNat 0) big) = true := by rw [beq_iff_eq]; exact h8
     refine fV (bf (aB (bJ O (aQ (jk O O (by omega)) (gU O (bZ (aH ?_)))))))
     refine dX (z - 1) ?_ ?_ ?_ ?_
     ·exact mO
     ·exact vC
     ·(try dsimp only)
      first | done | exact ⟨⟨⟨by omega, by omega⟩, (Nq (by omega) hzl hQ).symm.trans hz⟩, H8⟩
     ·(try dsimp only); omega
    ·(try simp only [Z] at h8)
     have hQ : ¬ (dN (l.getD (z - 1).toNat 0) big == dN (l.getD (y - 1).toNat 0) big) = true := by rw [beq_iff_eq]; exact h8
     refine dR (aO (aO (bG (aX (bM O (fA O (dI results96 O ?_)))))))
     exact ⟨by unfold DR; rw [e1]; first | (rw [if_neg (by omega)]; done) | (rw [if_pos (by omega), ← hz]; first | rw [yP (by omega)] | rw [Bv (by omega) hzl hQ]), H8⟩
   ·(try simp only [Z] at h7)
    refine bn (bn (bn (bn (bn (bn (bn (bn (bn (fG O O (iE (oh (dR (aO (aO (bG (aX (bM O (fA O (dI results96 O ?_)))))))))))))))))))
    exact ⟨by unfold DR; rw [e1]; first | (rw [if_neg (by omega)]; done) | (rw [if_pos (by omega), ← hz]; first | rw [yP (by omega)] | rw [Bv (by omega) hzl hQ]), HM⟩
  ·(try simp only [Z] at h6)
   refine fV (bM O (fA O (dI results96 O ?_)))
   exact ⟨by unfold DR; rw [e1]; first | (rw [if_neg (by omega)]; done) | (rw [if_pos (by omega), ← hz]; first | rw [yP (by omega)] | rw [Bv (by omega) hzl hQ]), HL⟩
theorem abx (H : V w0 w F) (hr : jh w0 F .i32 v l) (hT : vZ w0) (hx0 : 0 ≤ x) (hx1 : x ≤ l.length) (hl8 : l.length ≤ 4611686018427387904) : iQ prog 97 #[v, .int .i64 x, .bool big] w fun v' w' => v' = .int .i64 (KH l x big) ∧ V w0 w' F := by
 refine zk func97 ntmps97 ?_
 refine ku O (bM O (aQ (fQ O O (by omega)) (uf O (bf ?_))))
 refine iC [(0, _), (2, _)] (fun (y : Int) => [(1, .int .i64 y)]) (fun (y : Int) W => ((0 ≤ y ∧ y ≤ l.length + 1) ∧ mJ (fun r => iw r == 0) l y = mJ (fun r => iw r == 0) l (x + 1)) ∧ V w0 W F) (fun (y : Int) => (l.length + 1 - y).toNat) (x + 1) uh mO ⟨⟨⟨by omega, by omega⟩, O⟩, H⟩ ?_
 rintro y w1 ⟨⟨⟨hy0, hyl⟩, hy⟩, HL⟩
 dsimp only [List.cons_append, List.nil_append]
 refine aI (bM O (bJ O (aQ (iT (hr _ (HL)) ah O) (aQ (gW O O) (jm O (fun h1 => ?_) (fun h1 => ?_))))))
 ·(try simp only [Z] at h1)
  refine aY (bJ O (aY (bJ O (aY ?_))))
  obtain ⟨bv, ov, cv, ev⟩ := fJ.rW (hr _ (HL)) (by omega)
  cases ev
  refine aQ (dM ah bK O O (by omega)) (aY ?_)
  refine aQ (fF (dA bC O) O (by first | exact fJ.lX (hr _ (HL)) (by omega) | exact fJ.xJ (hr _ (HL)) (by omega) | exact fJ.xH (hr _ (HL)) (by omega))) ?_
  refine aY (dS O func14 (rH HL hT) ?_)
  rintro _ w2 ⟨rfl, H2⟩
  refine aY (aQ (eF O O) (je O O (jr O (fun h2 => ?_) (fun h2 => ?_))))
  ·(try simp only [Z] at h2)
   have hP : (iw (l.getD y.toNat 0) == 0) = true := by rw [beq_iff_eq]; exact h2
   refine fV (bf (aB (bJ O (aQ (fQ O O (by omega)) (gU O (bZ (aH ?_)))))))
   refine dX (y + 1) ?_ ?_ ?_ ?_
   ·exact mO
   ·exact uh
   ·(try dsimp only)
    first | done | exact ⟨⟨⟨by omega, by omega⟩, (uV hy0 (by omega) hP).symm.trans hy⟩, H2⟩
   ·(try dsimp only); omega
  ·(try simp only [Z] at h2)
   have hP : ¬ (iw (l.getD y.toNat 0) == 0) = true := by rw [beq_iff_eq]; exact h2
   refine dR (aO (aO (bG (aX (aI (aI ?_))))))
   have e1 : mJ (fun r => iw r == 0) l (x + 1) = y := hy.symm.trans (by first | exact kY (by omega) | exact nU hy0 (by omega) hP)
   refine aB (jX O O (aQ (jH ah O) (aQ (lI O O) (jr O (fun h3 => ?_) (fun h3 => ?_)))))
   ·(try simp only [Z] at h3)
    refine bM O (aQ (jH ah O) (aQ (jk O O (by omega)) (fA O (aA (dI results97 O ?_)))))
    exact ⟨by unfold KH; rw [e1, if_pos (by omega)], H2⟩
   ·(try simp only [Z] at h3)
    refine fV (bM O (bJ O (aQ (dM ah bK O O (by omega)) ?_)))
    refine aQ (fF (dA bC O) O (by first | exact fJ.lX (hr _ (H2)) (by omega) | exact fJ.xJ (hr _ (H2)) (by omega) | exact fJ.xH (hr _ (H2)) (by omega))) ?_
    refine bJ O (dS O func142 (oJ H2 hT) ?_)
    rintro _ w3 ⟨rfl, H3⟩
    refine uf O (bf ?_)
    refine iC [(0, _), (2, _), (7, _)] (fun (z : Int) => [(1, .int .i64 z)]) (fun (z : Int) W => ((0 ≤ z ∧ z < l.length) ∧ mJ (fun r => dN r big == dN (l.getD y.toNat 0) big) l (z + 1) = mJ (fun r => dN r big == dN (l.getD y.toNat 0) big) l (y + 1)) ∧ V w0 W F) (fun (z : Int) => (l.length - z).toNat) (y) vC mO ⟨⟨⟨by omega, by omega⟩, O⟩, H3⟩ ?_
    rintro z w4 ⟨⟨⟨hz0, hzl⟩, hz⟩, HM⟩
    dsimp only [List.cons_append, List.nil_append]
    refine aI (bM O (aQ (fQ O O (by omega)) (bJ O (aQ (jH ah O) (aQ (gW O O) (jm O (fun h4 => ?_) (fun h4 => ?_)))))))
    ·(try simp only [Z] at h4)
     refine aY (bJ O (aY (bJ O (aY (aQ (fQ O O (by omega)) (aY (aQ (dM ah bK O O (by omega)) (aY ?_))))))))
     refine aQ (fF (dA bC O) O (by first | exact fJ.lX (hr _ (HM)) (by omega) | exact fJ.xJ (hr _ (HM)) (by omega) | exact fJ.xH (hr _ (HM)) (by omega))) ?_
     refine aY (bJ O (aY (dS O func142 (oJ HM hT) ?_)))
     rintro _ w5 ⟨rfl, H5⟩
     refine aY (bJ O (aY (aQ (eF O O) (je O O (jr O (fun h5 => ?_) (fun h5 => ?_))))))
     ·(try simp only [Z] at h5)
      have hQ : (dN (l.getD (z + 1).toNat 0) big == dN (l.getD y.toNat 0) big) = true := by rw [beq_iff_eq]; exact h5
      refine fV (bf (aB (bJ O (aQ (fQ O O (by omega)) (gU O (bZ (aH ?_)))))))
      refine dX (z + 1) ?_ ?_ ?_ ?_
      ·exact mO
      ·exact vC
      ·(try dsimp only)
       first | done | exact ⟨⟨⟨by omega, by omega⟩, (uV (by omega) (by omega) hQ).symm.trans hz⟩, H5⟩
      ·(try dsimp only); omega
     ·(try simp only [Z] at h5)
      have hQ : ¬ (dN (l.getD (z + 1).toNat 0) big == dN (l.getD y.toNat 0) big) = true := by rw [beq_iff_eq]; exact h5
      refine dR (aO (aO (bG (aX (bM O (fA O (dI results97 O ?_)))))))
      exact ⟨by unfold KH; rw [e1, if_neg (by omega), ← hz]; first | (rw [kY (by omega)]; congr 1; omega) | (rw [nU (by omega) (by omega) hQ]; congr 1; omega), H5⟩
    ·(try simp only [Z] at h4)
     refine bn (bn (bn (bn (bn (bn (bn (bn (bn (fG O O (iE (oh (dR (aO (aO (bG (aX (bM O (fA O (dI results97 O ?_)))))))))))))))))))
     exact ⟨by unfold KH; rw [e1, if_neg (by omega), ← hz]; first | (rw [kY (by omega)]; congr 1; omega) | (rw [nU (by omega) (by omega) hQ]; congr 1; omega), HM⟩
 ·(try simp only [Z] at h1)
  refine bn (bn (bn (bn (bn (bn (fG O O (iE (oh (dR (aO (aO (bG (aX (aI (aI ?_)))))))))))))))
  have e1 : mJ (fun r => iw r == 0) l (x + 1) = y := hy.symm.trans (by first | exact kY (by omega) | exact nU hy0 (by omega) hP)
  refine aB (jX O O (aQ (iT (hr _ (HL)) ah O) (aQ (lI O O) (jr O (fun h6 => ?_) (fun h6 => ?_)))))
  ·(try simp only [Z] at h6)
   refine bM O (aQ (iT (hr _ (HL)) ah O) (aQ (jk O O (by omega)) (fA O (aA (dI results97 O ?_)))))
   exact ⟨by unfold KH; rw [e1, if_pos (by omega)], HL⟩
  ·(try simp only [Z] at h6)
   refine fV (bM O (bJ O ?_))
   obtain ⟨bv, ov, cv, ev⟩ := fJ.rW (hr _ (HL)) (by omega)
   cases ev
   refine aQ (dM ah bK O O (by omega)) ?_
   refine aQ (fF (dA bC O) O (by first | exact fJ.lX (hr _ (HL)) (by omega) | exact fJ.xJ (hr _ (HL)) (by omega) | exact fJ.xH (hr _ (HL)) (by omega))) ?_
   refine bJ O (dS O func142 (oJ HL hT) ?_)
   rintro _ w6 ⟨rfl, H6⟩
   refine uf O (bf ?_)
   refine iC [(0, _), (2, _), (7, _)] (fun (z : Int) => [(1, .int .i64 z)]) (fun (z : Int) W => ((0 ≤ z ∧ z < l.length) ∧ mJ (fun r => dN r big == dN (l.getD y.toNat 0) big) l (z + 1) = mJ (fun r => dN r big == dN (l.getD y.toNat 0) big) l (y + 1)) ∧ V w0 W F) (fun (z : Int) => (l.length - z).toNat) (y) vC mO ⟨⟨⟨by omega, by omega⟩, O⟩, H6⟩ ?_
   rintro z w7 ⟨⟨⟨hz0, hzl⟩, hz⟩, HM⟩
   dsimp only [List.cons_append, List.nil_append]
   refine aI (bM O (aQ (fQ O O (by omega)) (bJ O (aQ (jH ah O) (aQ (gW O O) (jm O (fun h7 => ?_) (fun h7 => ?_)))))))
   ·(try simp only [Z] at h7)
    refine aY (bJ O (aY (bJ O (aY (aQ (fQ O O (by omega)) (aY (aQ (dM ah bK O O (by omega)) (aY ?_))))))))
    refine aQ (fF (dA bC O) O (by first | exact fJ.lX (hr _ (HM)) (by omega) | exact fJ.xJ (hr _ (HM)) (by omega) | exact fJ.xH (hr _ (HM)) (by omega))) ?_
    refine aY (bJ O (aY (dS O func142 (oJ HM hT) ?_)))
    rintro _ w8 ⟨rfl, H8⟩
    refine aY (bJ O (aY (aQ (eF O O) (je O O (jr O (fun h8 => ?_) (fun h8 => ?_))))))
    ·(try simp only [Z] at h8)
     have hQ : (dN (l.getD (z + 1).toNat 0) big == dN (l.getD y.toNat 0) big) = true := by rw [beq_iff_eq]; exact h8
     refine fV (bf (aB (bJ O (aQ (fQ O O (by omega)) (gU O (bZ (aH ?_)))))))
     refine dX (z + 1) ?_ ?_ ?_ ?_
     ·exact mO
     ·exact vC
     ·(try dsimp only)
      first | done | exact ⟨⟨⟨by omega, by omega⟩, (uV (by omega) (by omega) hQ).symm.trans hz⟩, H8⟩
     ·(try dsimp only); omega
    ·(try simp only [Z] at h8)
     have hQ : ¬ (dN (l.getD (z + 1).toNat 0) big == dN (l.getD y.toNat 0) big) = true := by rw [beq_iff_eq]; exact h8
     refine dR (aO (aO (bG (aX (bM O (fA O (dI results97 O ?_)))))))
     exact ⟨by unfold KH; rw [e1, if_neg (by omega), ← hz]; first | (rw [kY (by omega)]; congr 1; omega) | (rw [nU (by omega) (by omega) hQ]; congr 1; omega), H8⟩
   ·(try simp only [Z] at h7)
    refine bn (bn (bn (bn (bn (bn (bn (bn (bn (fG O O (iE (oh (dR (aO (aO (bG (aX (bM O (fA O (dI results97 O ?_)))))))))))))))))))
    exact ⟨by unfold KH; rw [e1, if_neg (by omega), ← hz]; first | (rw [kY (by omega)]; congr 1; omega) | (rw [nU (by omega) (by omega) hQ]; congr 1; omega), HM⟩
end
end Go.Proofs.YtpdeedplgmbopaaGreatDoor
end
section
namespace Go.Proofs.YtpdeedplgmbopaaGreatDoor
open Go.RowKit
def Ns (f : Int → Int → Option Int) : Int → List Int → Option Int
  | _, [] => none
  | s, x :: l => match f s x with
    | none => some 0
    | some t => (Ns f t l).map (· + 1)
def zf (st : Int) (f : Int → Int → Option Int) (l : List Int) (s i : Int) : Option Int :=
  if 0 ≤ i ∧ i < l.length then (if st = 1 then (Ns f s (l.drop i.toNat)).map (i + ·) else (Ns f s (l.take (i.toNat + 1)).reverse).map (i - ·)) else none
section
variable {st s t i : Int} {f : Int → Int → Option Int} {l : List Int}
theorem Fz (h : ¬ (0 ≤ i ∧ i < l.length)) : zf st f l s i = none := if_neg h
theorem Qc (h0 : 0 ≤ i) (h1 : i < l.length) : (l.take (i.toNat + 1)).reverse = l.getD i.toNat 0 :: (l.take i.toNat).reverse := by
  rw [List.take_succ_eq_append_getElem (by omega), List.reverse_append, List.getD_eq_getElem?_getD, List.getElem?_eq_getElem (by omega)]
  rfl
theorem Yl (h0 : 0 ≤ i) (h1 : i < l.length) : l.drop i.toNat = l.getD i.toNat 0 :: l.drop (i.toNat + 1) := by
  rw [List.drop_eq_getElem_cons (by omega), List.getD_eq_getElem?_getD, List.getElem?_eq_getElem (by omega)]
  rfl
theorem FB (h0 : 0 ≤ i) (h1 : i < l.length) (hf : f s (l.getD i.toNat 0) = none) : zf st f l s i = some i := by
  unfold zf
  rw [if_pos ⟨h0, h1⟩, Yl h0 h1, Qc h0 h1, Ns, Ns, hf]
  split <;> simp
theorem Nu (hst : st = 1 ∨ st = -1) (h0 : 0 ≤ i) (h1 : i < l.length) (hf : f s (l.getD i.toNat 0) = some t) : zf st f l s i = zf st f l t (i + st) := by
  unfold zf
  rw [if_pos ⟨h0, h1⟩, Yl h0 h1, Qc h0 h1, Ns, Ns, hf]
  dsimp only
  rcases hst with rfl | rfl
  · rw [if_pos rfl, if_pos rfl]
    by_cases h2 : i + 1 < l.length
    · rw [if_pos ⟨by omega, h2⟩, show (i + 1).toNat = i.toNat + 1 from by omega, Option.map_map]
      congr 1
      funext x
      simp; omega
    · rw [if_neg (by omega), List.drop_of_length_le (by omega)]
      rfl
  · rw [if_neg (show ¬ ((-1 : Int) = 1) by decide), if_neg (show ¬ ((-1 : Int) = 1) by decide)]
    by_cases h2 : 0 < i
    · rw [if_pos ⟨by omega, by omega⟩, show (i + -1).toNat + 1 = i.toNat from by omega, Option.map_map]
      congr 1
      funext x
      simp; omega
    · rw [if_neg (by omega), show i.toNat = 0 from by omega]
      rfl
end
def Gh (c : Int) (n x : Int) : Option Int := if x = c then (if n ≤ 1 then none else some (n - 1)) else some n
def Nv (a b : Int) (d x : Int) : Option Int := if d + (if x = a then 1 else 0) - (if x = b then 1 else 0) = 0 then none else some (d + (if x = a then 1 else 0) - (if x = b then 1 else 0))
def CP (g : Int → Int) : Nat → Int → Int
  | 0, x => x
  | n + 1, x => if g x = x then x else CP g n (g x)
def ahk (g : Int → Int) : Nat → Int → Int
  | 0, x => x
  | n + 1, x => ahk g n (g x)
section
variable {g : Int → Int}
theorem Nw {n : Nat} {x : Int} (h : g x = x) : CP g n x = x := by cases n with
  | zero => rfl
  | succ n => rw [CP, if_pos h]
theorem WS {n : Nat} {x : Int} (hn : 0 < n) (h : ¬ g x = x) : CP g n x = CP g (n - 1) (g x) := by
  obtain ⟨m, rfl⟩ : ∃ m, n = m + 1 := ⟨n - 1, by omega⟩
  rw [CP, if_neg h]; rfl
end
section
variable {l : List Int} {x : Int} {big : Bool}
theorem aby (l : List Int) {x : Int} (big : Bool) (h0 : 0 ≤ x) (h1 : x ≤ l.length) : x ≤ Bz l x big ∧ Bz l x big ≤ l.length := by
  unfold Bz
  by_cases h2 : x < l.length
  · rw [if_pos h2]
    by_cases h3 : dN (l.getD x.toNat 0) big = 0
    · rw [if_pos h3]; exact vI h0 h1
    · rw [if_neg h3]
      have h4 := vI (P := fun r => dN r big == dN (l.getD x.toNat 0) big) h0 h1
      have h5 := vI (P := fun r => iw r == 0) (l := l) (x := mJ (fun r => dN r big == dN (l.getD x.toNat 0) big) l x) (by omega) h4.2
      omega
  · rw [if_neg h2]; exact vI h0 h1
theorem abz (l : List Int) {x : Int} (big : Bool) (h0 : 0 ≤ x) (h1 : x ≤ l.length) : 0 ≤ DR l x big ∧ DR l x big ≤ x := by
  unfold DR
  have h2 := Nr (P := fun r => iw r == 0) h0 h1
  split
  · have h3 := Nr (P := fun r => dN r big == dN (l.getD (yZ (fun r => iw r == 0) l x - 1).toNat 0) big) (l := l) (x := yZ (fun r => iw r == 0) l x) h2.1 (by omega)
    omega
  · exact h2
theorem adf (l : List Int) {x : Int} (big : Bool) (h0 : 0 ≤ x) (h1 : x < l.length) : x ≤ KH l x big ∧ KH l x big < l.length := by
  unfold KH
  by_cases h9 : (l.length : Int) ≤ x + 1
  · rw [kY h9, if_pos h9]; omega
  · have h2 := vI (P := fun r => iw r == 0) (l := l) (x := x + 1) (by omega) (by omega)
    split
    · omega
    · have h3 := vI (P := fun r => dN r big == dN (l.getD (mJ (fun r => iw r == 0) l (x + 1)).toNat 0) big) (l := l) (x := mJ (fun r => iw r == 0) l (x + 1) + 1) (by omega) (by omega)
      omega
end
def uG (key : Int) : Int := if key = 70 ∨ key = 84 then -1 else 1
def Jo (l : List Int) (x key c n : Int) : Int × Bool × Bool := match zf (uG key) (Gh c) l n (x + uG key) with
  | none => (0, false, false)
  | some i => (if key = 116 ∨ key = 84 then i - uG key else i, decide (0 < uG key), true)
def zL (r : Int) : Bool := r == 40 || r == 91 || r == 123 || r == 41 || r == 93 || r == 125
def Iw (r : Int) : Int := if r = 40 ∨ r = 91 ∨ r = 123 then 1 else -1
def Jp (r : Int) : Int := if r = 40 then 41 else if r = 41 then 40 else if r = 91 then 93 else if r = 93 then 91 else if r = 123 then 125 else 123
def AL (l : List Int) (x : Int) : Int × Bool × Bool :=
  if (l.length : Int) ≤ mJ (fun r => !zL r) l x then (0, false, false) else
  match zf (Iw (l.getD (mJ (fun r => !zL r) l x).toNat 0)) (Nv (l.getD (mJ (fun r => !zL r) l x).toNat 0) (Jp (l.getD (mJ (fun r => !zL r) l x).toNat 0))) l 0 (mJ (fun r => !zL r) l x) with
  | none => (0, false, false)
  | some j => (j, true, true)
def AO (l : List Int) (x key n : Int) : Int × Bool × Bool :=
  if key = 119 ∨ key = 87 then (if x < l.length then (CP (fun y => Bz l y (key == 87)) n.toNat x, false, true) else (0, false, false))
  else if key = 98 ∨ key = 66 then (if 0 < x then (CP (fun y => DR l y (key == 66)) n.toNat x, false, true) else (0, false, false))
  else if key = 101 ∨ key = 69 then (if x < l.length - 1 then (CP (fun y => KH l y (key == 69)) n.toNat x, true, true) else (0, false, false))
  else (0, false, false)
def nV (l : List Int) (x key c n : Int) : Int × Bool × Bool :=
  if key = 104 then (if x = 0 then (0, false, false) else (x - min n x, false, true))
  else if key = 108 ∨ key = 32 then (if x = l.length then (0, false, false) else (x + min n (l.length - x), false, true))
  else if key = 48 then (0, false, true)
  else if key = 36 then (l.length, false, true)
  else if key = 94 then (mJ (fun r => iw r == 0) l 0, false, true)
  else if key = 124 then (min (n - 1) l.length, false, true)
  else if key = 102 ∨ key = 70 ∨ key = 116 ∨ key = 84 then Jo l x key c n
  else if key = 37 then AL l x
  else AO l x key n
def zM (l : List Int) (x key c n : Int) : Int × Bool × Bool := nV l (min (max x 0) l.length) key c (max n 1)
def Zt (q : Int × Bool × Bool) : Value := .tuple #[.int .i64 q.1, .bool q.2.1, .bool q.2.2]
end Go.Proofs.YtpdeedplgmbopaaGreatDoor
end
section
namespace Go.Proofs.YtpdeedplgmbopaaGreatDoor
open Go.RowKit
open _root_.Go.Proofs.Tryz
def abA (k : Int) : Bool := decide (48 ≤ k) && decide (k ≤ 57)
def uK (l : List Int) : List Int := if l.getD 0 0 = 48 then [] else l.takeWhile abA
def Iy (n k : Int) : Int := min (n * 10 + (k - 48)) 1000000
def Uz (l : List Int) : Int := (uK l).foldl Iy 0
def kE (l : List Int) : List Int := l.drop (uK l).length
theorem ahl {p : Int → Bool} {l : List Int} : ∀ {i : Nat}, i ≤ (l.takeWhile p).length → (i < (l.takeWhile p).length ↔ (i < l.length ∧ p (l.getD i 0) = true)) := by
  induction l with
  | nil => intro i h; simp
  | cons x l ih =>
    intro i h
    rw [List.takeWhile_cons] at h ⊢
    by_cases hx : p x = true
    · rw [if_pos hx] at h ⊢
      cases i with
      | zero => simp [hx]
      | succ i =>
        rw [List.length_cons] at h
        have := ih (i := i) (by omega)
        rw [List.length_cons, List.length_cons, List.getD_cons_succ, Nat.add_lt_add_iff_right, Nat.add_lt_add_iff_right]
        exact this
    · rw [if_neg hx] at h ⊢
      have : i = 0 := by simpa using h
      subst this
      simp [hx]
theorem afq {p : Int → Bool} {l : List Int} {i : Nat} (h : i < (l.takeWhile p).length) : (l.takeWhile p).getD i 0 = l.getD i 0 := by
  induction l generalizing i with
  | nil => simp at h
  | cons x l ih =>
    rw [List.takeWhile_cons] at h ⊢
    by_cases hx : p x = true
    · rw [if_pos hx] at h ⊢
      cases i with
      | zero => rfl
      | succ i => rw [List.length_cons] at h; rw [List.getD_cons_succ, List.getD_cons_succ]; exact ih (by omega)
    · rw [if_neg hx] at h; simp at h
section
variable {l : List Int} {i : Nat}
theorem abB (h : i ≤ (uK l).length) : i < (uK l).length ↔ ((i : Int) < l.length ∧ 48 ≤ l.getD i 0 ∧ l.getD i 0 ≤ 57 ∧ (0 < i ∨ ¬ l.getD i 0 = 48)) := by
  unfold uK at h ⊢
  by_cases h0 : l.getD 0 0 = 48
  · rw [if_pos h0] at h ⊢
    have : i = 0 := by simpa using h
    subst this
    constructor
    · intro h9; simp at h9
    · rintro ⟨_, _, _, h9 | h9⟩
      · omega
      · exact absurd h0 h9
  · rw [if_neg h0] at h ⊢
    rw [ahl h]
    unfold abA
    rw [Bool.and_eq_true, decide_eq_true_iff, decide_eq_true_iff]
    have h1 : 0 < i ∨ ¬ l.getD i 0 = 48 := by
      cases i with
      | zero => exact .inr h0
      | succ i => exact .inl (by omega)
    omega
theorem adg (h : i < (uK l).length) : (uK l).getD i 0 = l.getD i 0 := by
  unfold uK at h ⊢
  by_cases h0 : l.getD 0 0 = 48
  · rw [if_pos h0] at h; simp at h
  · rw [if_neg h0] at h ⊢; exact afq h
theorem Iz (h : i < (uK l).length) : ((uK l).take (i + 1)).foldl Iy 0 = Iy (((uK l).take i).foldl Iy 0) (l.getD i 0) := by
  rw [List.take_succ_eq_append_getElem h, List.foldl_append, ← adg h, List.getD_eq_getElem?_getD, List.getElem?_eq_getElem h]
  rfl
theorem BA : ((uK l).take (uK l).length).foldl Iy 0 = Uz l := by rw [List.take_length]; rfl
theorem Le {n k : Int} (h : 0 ≤ n ∧ n ≤ 1000000) (hk : 48 ≤ k ∧ k ≤ 57) : 0 ≤ Iy n k ∧ Iy n k ≤ 1000000 := by unfold Iy; omega
theorem abC : (uK l).length ≤ l.length := by
  unfold uK; split
  · simp
  · exact (List.takeWhile_sublist abA).length_le
end
section
variable {w0 w : World} {F : HP} {v : Value} {l : List Int}
theorem Rx (H : V w0 w F) (hr : jh w0 F .i32 v l) : iQ prog 51 #[v] w fun u w' => ∃ kv, u = .tuple #[kv, .int .i64 (Uz l)] ∧ jh w0 F .i32 kv (kE l) ∧ V w0 w' F := by
 have Yk : l.length ≤ 9223372036854775807 := by have := (hr _ H).open; obtain ⟨a, c, e, h3, h4, _⟩ := this; omega
 have hcl := abC (l := l)
 refine ji func51 ntmps51 ?_
 refine iy (gU O (dZ O (iy (gU O (uf O (bf ?_))))))
 refine iC [(0, _)] (fun (⟨i, n⟩ : Nat × Int) => [(4, .int .i64 n), (5, .int .i64 (i : Int))]) (fun (⟨i, n⟩ : Nat × Int) W => (i ≤ (uK l).length ∧ (0 ≤ n ∧ n ≤ 1000000) ∧ n = ((uK l).take i).foldl Iy 0) ∧ V w0 W F) (fun (⟨i, n⟩ : Nat × Int) => (uK l).length - i) ((0, 0)) mO uh ⟨⟨by omega, by omega, O⟩, H⟩ ?_
 rintro ⟨i, n⟩ w1 ⟨⟨hi, hn, hE⟩, HL⟩
 dsimp only [List.cons_append, List.nil_append]
 have hca := abB (l := l) hi
 refine aI (bM O (bJ O (aQ (iT (hr _ (HL)) ah O) (aQ (gW O O) (jm O (fun h1 => ?_) (fun h1 => ?_))))))
 ·(try simp only [Z] at h1)
  refine aY (bJ O (aY (bJ O (aY ?_))))
  obtain ⟨bv, ov, cv, ev⟩ := fJ.rW (hr _ (HL)) (by omega)
  cases ev
  refine aQ (dM ah bK O O (by omega)) (aY ?_)
  refine aQ (fF (dA bC O) O (by first | exact fJ.lX (hr _ (HL)) (by omega) | exact fJ.xJ (hr _ (HL)) (by omega) | exact fJ.xH (hr _ (HL)) (by omega))) ?_
  refine aY (aQ (lI O O) (je O O (jm O (fun h2 => ?_) (fun h2 => ?_))))
  ·(try simp only [Z] at h2)
   refine aY (bJ O (aY (bJ O (aY (aQ (dM ah bK O O (by omega)) (aY ?_))))))
   refine aQ (fF (dA bC O) O (by first | exact fJ.lX (hr _ (HL)) (by omega) | exact fJ.xJ (hr _ (HL)) (by omega) | exact fJ.xH (hr _ (HL)) (by omega))) ?_
   refine aY (aQ (pV O O) (je O O (jm O (fun h3 => ?_) (fun h3 => ?_))))
   ·(try simp only [Z] at h3)
    refine aY (bJ O (aY (aQ (eX O O) (aY (jm O (fun h4 => ?_) (fun h4 => ?_))))))
    ·(try simp only [Z] at h4)
     refine bn (bn (bn (bn (bn (aY (je O O (je O O (iE (C9 (fV (bf (aI ?_))))))))))))
     have hlt : i < (uK l).length := by omega
     refine aB (bJ O (aQ (XE O O (by omega)) (jX O O (aQ (dM ah bK O O (by omega)) ?_))))
     refine aQ (fF (dA bC O) O (by first | exact fJ.lX (hr _ (HL)) (by omega) | exact fJ.xJ (hr _ (HL)) (by omega) | exact fJ.xH (hr _ (HL)) (by omega))) ?_
     refine aQ (Om (Gq O O) (congrArg (Value.int .i32) (Fv (by omega)))) ?_
     refine aQ (sU O (by rw [underlying21]; rfl) aC (La (by omega))) ?_
     refine aQ (fQ O O (by omega)) (aQ (wO O O) (dZ O (aB (bJ O (aQ (fQ O O (by omega)) (gU O (bZ (aH ?_))))))))
     refine dX ((i + 1, Iy n (l.getD i 0))) ?_ ?_ ?_ ?_
     ·exact uh
     ·exact mO
     ·(try dsimp only)
      first | done | exact ⟨⟨by omega, Le hn (by omega), by rw [Iz hlt, ← hE]⟩, HL⟩
     ·(try dsimp only); omega
    ·(try simp only [Z] at h4)
     refine aY (bJ O (aY (bJ O (aY (aQ (dM ah bK O O (by omega)) (aY ?_))))))
     refine aQ (fF (dA bC O) O (by first | exact fJ.lX (hr _ (HL)) (by omega) | exact fJ.xJ (hr _ (HL)) (by omega) | exact fJ.xH (hr _ (HL)) (by omega))) ?_
     refine aY (aQ (gY O O) (aY (fG O O (je O O (jr O (fun h5 => ?_) (fun h5 => ?_))))))
     ·(try simp only [Z] at h5)
      refine fV (bf (aI ?_))
      have hlt : i < (uK l).length := by omega
      refine aB (bJ O (aQ (XE O O (by omega)) (jX O O (aQ (dM ah bK O O (by omega)) ?_))))
      refine aQ (fF (dA bC O) O (by first | exact fJ.lX (hr _ (HL)) (by omega) | exact fJ.xJ (hr _ (HL)) (by omega) | exact fJ.xH (hr _ (HL)) (by omega))) ?_
      refine aQ (Om (Gq O O) (congrArg (Value.int .i32) (Fv (by omega)))) ?_
      refine aQ (sU O (by rw [underlying21]; rfl) aC (La (by omega))) ?_
      refine aQ (fQ O O (by omega)) (aQ (wO O O) (dZ O (aB (bJ O (aQ (fQ O O (by omega)) (gU O (bZ (aH ?_))))))))
      refine dX ((i + 1, Iy n (l.getD i 0))) ?_ ?_ ?_ ?_
      ·exact uh
      ·exact mO
      ·(try dsimp only)
       first | done | exact ⟨⟨by omega, Le hn (by omega), by rw [Iz hlt, ← hE]⟩, HL⟩
      ·(try dsimp only); omega
     ·(try simp only [Z] at h5)
      refine dR (aO (aO (bG (aX (aI ?_)))))
      have hlt : i = (uK l).length := by omega
      refine aB (jX O O (aQ (oO (hr _ (HL)) ah bK O O O (by omega)) ?_))
      refine bJ O (gU O (fA O (KP results51 O O ?_)))
      exact ⟨_, by rw [hE, hlt, BA], fun W HW => by unfold kE; rw [← hlt]; exact (hr W HW).from (by omega), HL⟩
   ·(try simp only [Z] at h3)
    refine bn (bn (bn (lH (lH (lH (lH (lH (bn (fG O O (iE (oh (dR (aO (aO (bG (aX (aI ?_)))))))))))))))))
    have hlt : i = (uK l).length := by omega
    refine aB (jX O O (aQ (oO (hr _ (HL)) ah bK O O O (by omega)) ?_))
    refine bJ O (gU O (fA O (KP results51 O O ?_)))
    exact ⟨_, by rw [hE, hlt, BA], fun W HW => by unfold kE; rw [← hlt]; exact (hr W HW).from (by omega), HL⟩
  ·(try simp only [Z] at h2)
   refine bn (bn (bn (bn (bn (fG O O (bJ O (bn (bn (bn (lH (lH (lH (lH (lH (bn (fG O O (iE (oh (dR (aO (aO (bG (aX (aI ?_))))))))))))))))))))))))
   have hlt : i = (uK l).length := by omega
   refine aB (jX O O (aQ (oO (hr _ (HL)) ah bK O O O (by omega)) ?_))
   refine bJ O (gU O (fA O (KP results51 O O ?_)))
   exact ⟨_, by rw [hE, hlt, BA], fun W HW => by unfold kE; rw [← hlt]; exact (hr W HW).from (by omega), HL⟩
 ·(try simp only [Z] at h1)
  refine bn (bn (bn (bn (bn (fG O O (bJ O (bn (bn (bn (bn (bn (fG O O (bJ O (bn (bn (bn (lH (lH (lH (lH (lH (bn (fG O O (iE (oh (dR (aO (aO (bG (aX (aI ?_)))))))))))))))))))))))))))))))
  have hlt : i = (uK l).length := by omega
  refine aB (jX O O (aQ (oO (hr _ (HL)) ah bK O O O (by omega)) ?_))
  refine bJ O (gU O (fA O (KP results51 O O ?_)))
  exact ⟨_, by rw [hE, hlt, BA], fun W HW => by unfold kE; rw [← hlt]; exact (hr W HW).from (by omega), HL⟩
end
end Go.Proofs.YtpdeedplgmbopaaGreatDoor
end
section
namespace Go.Proofs.YtpdeedplgmbopaaGreatDoor
open Go.RowKit Go.Lib
section
variable {P : Program} {N : Sh} {Q : Exit → Act → World → Prop} {L : List (Nat × Value)} {w : World}
end
def sb (s : ByteArray) (i : Nat) : Int := ((s.data.toList.getD i 0).toNat : Nat)
theorem afr {s : ByteArray} {i : Nat} (h : i < s.size) : ((s[i]'h).toNat : Int) = sb s i := by
  unfold sb
  rw [List.getD_eq_getElem?_getD, List.getElem?_eq_getElem (by rw [Array.length_toList]; exact h)]
  rfl
section
variable {P : Program} {L : List (Nat × Value)} {w w0 : World} {ty : TypeId} {x y : Operand} {F : HP}
theorem J7 {t : TypeId} {s : ByteArray} {k : IntKind} {i : Int} (ht : P.underlying t = some .string) (hx : ev L x = some (.string s)) (hy : ev L y = some (.int k i)) (h : 0 ≤ i ∧ i < s.size) :
    Val P L (.index t x y) ty w (.int .u8 (sb s i.toNat)) w := fun ρ hρ _ _ _ _ => by
  simp only [execOp, hρ _ _ hx, hρ _ _ hy, Sem.run_bind]
  rw [run_index_string (w := w) t s k i ht, dif_pos h, afr]
  rfl
theorem ahm {f : FuncId} {args : List Operand} {ts : Array TypeId} {vs : List Value} {fn : Func} {e : Array Value → Sem Value} {v : Value} (ha : FV L args = some vs)
    (hf : P.funcs[f]? = some fn) (hname : (fn.name == "runtime.NumGoroutine") = false) (hb : fn.body.isNone = true) (hn : Extern.findNext fn = none) (he : Extern.find fn = some e) (hr : (e vs.toArray).run P w = .ok v w) :
    Val P L (.call ⟨.value (.func f), args.toArray, ts⟩) ty w v w := fun ρ hρ _ _ _ _ => by
  have hg : ρ (.func f) = .func (.func f) #[] #[] := hρ _ _ rfl
  have hc := run_callFunc_extern hf hname hb hn he vs.toArray w
  rw [hr] at hc
  simp [execOp, resolve, invoke, evs hρ _ _ ha, hg, Deferred.ofValue]
  exact hc
def ajz (s : ByteArray) (k : Nat) : Value := if k < s.size then .tuple #[.bool true, .int .i64 k, .int .i32 (sb s k)] else .tuple #[.bool false]
end
theorem aer {s : ByteArray} (hs : ∀ c ∈ s.data.toList, c.toNat < 128) (i : Nat) : 0 ≤ sb s i ∧ sb s i < 128 := by
  unfold sb
  rw [List.getD_eq_getElem?_getD]
  by_cases h : i < s.data.toList.length
  · rw [List.getElem?_eq_getElem h]
    have := hs _ (List.getElem_mem h)
    show 0 ≤ ((s.data.toList[i].toNat : Nat) : Int) ∧ ((s.data.toList[i].toNat : Nat) : Int) < 128
    omega
  · rw [List.getElem?_eq_none (by omega)]; decide
section
variable {w0 w : World} {F : HP} {s : ByteArray} {r c : Int}
theorem OG : iQ Tryz.prog 143 #[.string s, .int .u8 c] w fun v w' => v = .int .i64 (indexByte s.data.toList c.toNat.toUInt8) ∧ w = w' := by
  refine qc Tryz.func143 Tryz.ntmps143 ?_
  refine ku O (bM O (bJ O (aQ (ahm O Tryz.func180 O O (by kernel_rfl) (by kernel_rfl) (run_indexByteString _ _ _)) (fA O (dI Tryz.results143 O ?_)))))
  exact ⟨O, O⟩
theorem IB : iQ Tryz.prog 98 #[.string s, .int .u8 c] w fun v w' => v = .int .i64 (indexByte s.data.toList c.toNat.toUInt8) ∧ w = w' := by
  refine qc Tryz.func98 Tryz.ntmps98 ?_
  refine ku O (bM O (bJ O (dS O Tryz.func143 (OG) ?_)))
  rintro _ _ ⟨rfl, rfl⟩
  refine fA O (dI Tryz.results98 O ?_)
  exact ⟨O, O⟩
def akd (s : ByteArray) (r : Int) : Int := if 0 ≤ r ∧ r < 128 then indexByte s.data.toList r.toNat.toUInt8 else -1
end
theorem adh {l : List UInt8} {c : UInt8} : 0 ≤ indexByte l c ↔ c ∈ l := by
  induction l with
  | nil => simp [indexByte]
  | cons b l ih =>
    have h1 := indexByte_ge l c
    unfold indexByte
    by_cases hb : b = c
    · simp [hb]
    · rw [if_neg (by simpa using hb)]
      by_cases h2 : indexByte l c = -1
      · rw [if_pos (by simpa using h2)]
        have : c ∉ l := fun h => by have := ih.2 h; omega
        simp [this, Ne.symm hb]
      · rw [if_neg (by simpa using h2)]
        have : c ∈ l := ih.1 (by omega)
        simp [this]; omega
def rJ (s : ByteArray) : List Int := s.data.toList.map fun b => (b.toNat : Int)
def Asc (s : ByteArray) : Prop := ∀ x ∈ s.data.toList, 0 < x.toNat ∧ x.toNat < 128
instance (s : ByteArray) : Decidable (Asc s) := by unfold Asc; infer_instance
theorem BZ {s : ByteArray} (hs : Asc s) {r : Int} : (0 < r ∧ r < 128 ∧ 0 ≤ indexByte s.data.toList r.toNat.toUInt8) ↔ r ∈ rJ s := by
  rw [adh]
  unfold rJ
  rw [List.mem_map]
  constructor
  · rintro ⟨h1, h2, h3⟩
    refine ⟨_, h3, ?_⟩
    rw [show r.toNat.toUInt8.toNat = r.toNat % 256 from by simp [Nat.toUInt8]]
    omega
  · rintro ⟨b, hb, rfl⟩
    have := hs b hb
    refine ⟨by omega, by omega, ?_⟩
    rw [show ((b.toNat : Int)).toNat.toUInt8 = b from by rw [Int.toNat_natCast]; simp [Nat.toUInt8]]
    exact hb
section
variable {w0 w : World} {F : HP} {r : Int} {s : ByteArray}
theorem yD (hs : Asc s) : iQ Tryz.prog 50 #[.int .i32 r, .string s] w fun v w' => v = .bool (decide (r ∈ rJ s)) ∧ w = w' := by
  have hi := BZ hs (r := r)
  refine qc Tryz.func50 Tryz.ntmps50 ?_
  refine ku O (bM O (aQ (eX O O) (jm O (fun h1 => ?_) (fun h1 => ?_))))
  · (try simp only [Z] at h1)
    try (exfalso; first | contradiction | omega)
    all_goals
      refine aY (bJ O (aY (aQ (gW O O) (je O O (jm O (fun h2 => ?_) (fun h2 => ?_))))))
      · (try simp only [Z] at h2)
        try (exfalso; first | contradiction | omega)
        all_goals
          refine aY (bJ O (aY (bJ O (aY ?_))))
          refine aQ (P5 O (by rw [Tryz.underlying21]; rfl) Tryz.underlying5) ?_
          refine aY (dS O Tryz.func98 (IB) ?_)
          rintro _ _ ⟨rfl, rfl⟩
          refine aY (aQ (lI O O) (je O O (fA O (dI Tryz.results50 O ?_))))
          refine ⟨congrArg Value.bool ?_, O⟩; first | exact (decide_eq_false (fun c => by have := (BZ hs).2 c; omega)).symm | (rw [show r % 256 = r from by omega]; exact decide_eq_decide.2 ⟨fun c => (BZ hs).1 ⟨by omega, by omega, c⟩, fun c => ((BZ hs).2 c).2.2⟩)
      · (try simp only [Z] at h2)
        try (exfalso; first | contradiction | omega)
        all_goals
          refine bn (bn (bn (bn (bn (fG O O (fA O (dI Tryz.results50 O ?_)))))))
          refine ⟨congrArg Value.bool ?_, O⟩; first | exact (decide_eq_false (fun c => by have := (BZ hs).2 c; omega)).symm | (rw [show r % 256 = r from by omega]; exact decide_eq_decide.2 ⟨fun c => (BZ hs).1 ⟨by omega, by omega, c⟩, fun c => ((BZ hs).2 c).2.2⟩)
  · (try simp only [Z] at h1)
    try (exfalso; first | contradiction | omega)
    all_goals
      refine bn (bn (fG O O (bJ O (bn (bn (bn (bn (bn (fG O O (fA O (dI Tryz.results50 O ?_)))))))))))
      refine ⟨congrArg Value.bool ?_, O⟩; first | exact (decide_eq_false (fun c => by have := (BZ hs).2 c; omega)).symm | (rw [show r % 256 = r from by omega]; exact decide_eq_decide.2 ⟨fun c => (BZ hs).1 ⟨by omega, by omega, c⟩, fun c => ((BZ hs).2 c).2.2⟩)
end
end Go.Proofs.YtpdeedplgmbopaaGreatDoor
end
