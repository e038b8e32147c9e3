import Derived.Test.YtpdeedplgmbopaaGreatDoorZ4
import Derived.Test.YtpdeedplgmbopaaGreatDoorZ9
import Derived.Test.YtpdeedplgmbopaaGreatDoorZ3
import Derived.Laws.BitsLemmas
import Derived.Lib.RuneBytes
import Derived.Scope
import Derived.Laws.RangeString
import Derived.Lib.OthersKept
import Derived.Lib.Bytealg
import Derived.Test.YtpdeedplgmbopaaGreatDoorProg
import Derived.Test.YtpdeedplgmbopaaGreatDoorZ2
import Derived.Test.YtpdeedplgmbopaaGreatDoorZ6
import Derived.Test.YtpdeedplgmbopaaGreatDoorZ8
set_option linter.unusedSimpArgs false
set_option linter.unusedVariables false
/- Texts of mine, joined, their names in short: VW4 VS Bits VN Str StrF VI VC HistF RHist. -/
section
namespace Go.Proofs.YtpdeedplgmbopaaGreatDoor
open Go.RowKit
open _root_.Go.Proofs.Tryz
def zf (l : List Int) (x : Int) (big : Bool) : Int :=
  if 0 < uw (fun r => eF r == 0) l x then uw (fun r => bZ r big == bZ (l.getD (uw (fun r => eF r == 0) l x - 1).toNat 0) big) l (uw (fun r => eF r == 0) l x) else uw (fun r => eF r == 0) l x
def ER (l : List Int) (x : Int) (big : Bool) : Int :=
  if (l.length : Int) ≤ jV (fun r => eF r == 0) l (x + 1) then (l.length : Int) - 1 else jV (fun r => bZ r big == bZ (l.getD (jV (fun r => eF r == 0) l (x + 1)).toNat 0) big) l (jV (fun r => eF r == 0) l (x + 1) + 1) - 1
section
variable {w0 w : World} {F : HP} {r x : Int} {big : Bool} {l : List Int} {v : Value}
theorem SN (H : V w0 w F) (hr : jZ w0 F .i32 v l) (hT : yG w0) (hx0 : 0 ≤ x) (hx1 : x ≤ l.length) : gI prog 96 #[v, .int .i64 x, .bool big] w fun v' w' => v' = .int .i64 (zf l x big) ∧ V w0 w' F := by
 have Xi : l.length ≤ 9223372036854775807 := by have := (hr _ H).open; obtain ⟨a, c, e, h3, h4, _⟩ := this; omega
 refine FM func96 ntmps96 ?_
 refine jg O (aP (aY ?_))
 refine fF [(0, _), (2, _)] (fun (y : Int) => [(1, .int .i64 y)]) (fun (y : Int) W => ((0 ≤ y ∧ y ≤ l.length) ∧ uw (fun r => eF r == 0) l y = uw (fun r => eF r == 0) l x) ∧ V w0 W F) (fun (y : Int) => y.toNat) (x) qB lI ⟨⟨⟨hx0, hx1⟩, O⟩, H⟩ ?_
 rintro y w1 ⟨⟨⟨hy0, hyl⟩, hy⟩, HL⟩
 dsimp only [List.cons_append, List.nil_append]
 refine aP (bP O (aV (iV O O) (jP O (fun h1 => ?_) (fun h1 => ?_))))
 ·(try simp only [Z] at h1)
  refine bC (bQ O (bC (bQ O (bC (aV (kX O O (by omega)) (bC ?_))))))
  obtain ⟨bv, ov, cv, ev⟩ := fP.pW (hr _ (HL)) (by omega)
  cases ev
  refine aV (dI aB bT O O (by omega)) (bC ?_)
  refine aV (fA (dn bg O) O (by first | exact fP.lW (hr _ (HL)) (by omega) | exact fP.wK (hr _ (HL)) (by omega) | exact fP.wH (hr _ (HL)) (by omega))) ?_
  refine bC (dS O func14 (nV HL hT) ?_)
  rintro _ w2 ⟨rfl, H2⟩
  refine bC (aV (dV O O) (jF O O (jh O (fun h2 => ?_) (fun h2 => ?_))))
  ·(try simp only [Z] at h2)
   have hP : (eF (l.getD (y - 1).toNat 0) == 0) = true := by rw [beq_iff_eq]; exact h2
   refine fZ (aY (aC (bQ O (aV (kX O O (by omega)) (fU O (bM (aJ ?_)))))))
   refine dL (y - 1) ?_ ?_ ?_ ?_
   ·exact lI
   ·exact qB
   ·(try dsimp only)
    first | done | exact ⟨⟨⟨by omega, by omega⟩, (Gt (by omega) hyl hP).symm.trans hy⟩, H2⟩
   ·(try dsimp only); omega
  ·(try simp only [Z] at h2)
   have hP : ¬ (eF (l.getD (y - 1).toNat 0) == 0) = true := by rw [beq_iff_eq]; exact h2
   refine dB (aI (aI (aZ (aX (aP (aP ?_))))))
   have e1 : uw (fun r => eF r == 0) l x = y := hy.symm.trans (by first | exact tC (by omega) | exact wU (by omega) hyl hP)
   refine aC (bQ O (aV (iV O O) (jh O (fun h3 => ?_) (fun h3 => ?_))))
   ·(try simp only [Z] at h3)
    refine bP O (bQ O (aV (kX O O (by omega)) (aV (dI aB bT O O (by omega)) ?_)))
    refine aV (fA (dn bg O) O (by first | exact fP.lW (hr _ (H2)) (by omega) | exact fP.wK (hr _ (H2)) (by omega) | exact fP.wH (hr _ (H2)) (by omega))) ?_
    refine bQ O (dS O func142 (lF H2 hT) ?_)
    rintro _ w3 ⟨rfl, H3⟩
    refine gJ O (aY ?_)
    refine fF [(0, _), (2, _), (7, _)] (fun (z : Int) => [(1, .int .i64 z)]) (fun (z : Int) W => ((0 ≤ z ∧ z ≤ l.length) ∧ uw (fun r => bZ r big == bZ (l.getD (y - 1).toNat 0) big) l z = uw (fun r => bZ r big == bZ (l.getD (y - 1).toNat 0) big) l y) ∧ V w0 W F) (fun (z : Int) => z.toNat) (y) uM lI ⟨⟨⟨by omega, by omega⟩, O⟩, H3⟩ ?_
    rintro z w4 ⟨⟨⟨hz0, hzl⟩, hz⟩, HM⟩
    dsimp only [List.cons_append, List.nil_append]
    refine aP (bP O (aV (iV O O) (jP O (fun h4 => ?_) (fun h4 => ?_))))
    ·(try simp only [Z] at h4)
     refine bC (bQ O (bC (bQ O (bC (aV (kX O O (by omega)) (bC (aV (dI aB bT O O (by omega)) (bC ?_))))))))
     refine aV (fA (dn bg O) O (by first | exact fP.lW (hr _ (HM)) (by omega) | exact fP.wK (hr _ (HM)) (by omega) | exact fP.wH (hr _ (HM)) (by omega))) ?_
     refine bC (bQ O (bC (dS O func142 (lF HM hT) ?_)))
     rintro _ w5 ⟨rfl, H5⟩
     refine bC (bQ O (bC (aV (dV O O) (jF O O (jh O (fun h5 => ?_) (fun h5 => ?_))))))
     ·(try simp only [Z] at h5)
      have hQ : (bZ (l.getD (z - 1).toNat 0) big == bZ (l.getD (y - 1).toNat 0) big) = true := by rw [beq_iff_eq]; exact h5
      refine fZ (aY (aC (bQ O (aV (kX O O (by omega)) (fU O (bM (aJ ?_)))))))
      refine dL (z - 1) ?_ ?_ ?_ ?_
      ·exact lI
      ·exact uM
      ·(try dsimp only)
       first | done | exact ⟨⟨⟨by omega, by omega⟩, (Gt (by omega) hzl hQ).symm.trans hz⟩, H5⟩
      ·(try dsimp only); omega
     ·(try simp only [Z] at h5)
      have hQ : ¬ (bZ (l.getD (z - 1).toNat 0) big == bZ (l.getD (y - 1).toNat 0) big) = true := by rw [beq_iff_eq]; exact h5
      refine dB (aI (aI (aZ (aX (bP O (eY O (dG results96 O ?_)))))))
      exact ⟨by unfold zf; rw [e1]; first | (rw [if_neg (by omega)]; done) | (rw [if_pos (by omega), ← hz]; first | rw [tC (by omega)] | rw [wU (by omega) hzl hQ]), H5⟩
    ·(try simp only [Z] at h4)
     refine bI (bI (bI (bI (bI (bI (bI (bI (bI (iM O O (iJ (qy (dB (aI (aI (aZ (aX (bP O (eY O (dG results96 O ?_)))))))))))))))))))
     exact ⟨by unfold zf; rw [e1]; first | (rw [if_neg (by omega)]; done) | (rw [if_pos (by omega), ← hz]; first | rw [tC (by omega)] | rw [wU (by omega) hzl hQ]), HM⟩
   ·(try simp only [Z] at h3)
    refine fZ (bP O (eY O (dG results96 O ?_)))
    exact ⟨by unfold zf; rw [e1]; first | (rw [if_neg (by omega)]; done) | (rw [if_pos (by omega), ← hz]; first | rw [tC (by omega)] | rw [wU (by omega) hzl hQ]), H2⟩
 ·(try simp only [Z] at h1)
  refine bI (bI (bI (bI (bI (bI (bI (iM O O (iJ (qy (dB (aI (aI (aZ (aX (aP (aP ?_))))))))))))))))
  have e1 : uw (fun r => eF r == 0) l x = y := hy.symm.trans (by first | exact tC (by omega) | exact wU (by omega) hyl hP)
  refine aC (bQ O (aV (iV O O) (jh O (fun h6 => ?_) (fun h6 => ?_))))
  ·(try simp only [Z] at h6)
   refine bP O (bQ O (aV (kX O O (by omega)) ?_))
   obtain ⟨bv, ov, cv, ev⟩ := fP.pW (hr _ (HL)) (by omega)
   cases ev
   refine aV (dI aB bT O O (by omega)) ?_
   refine aV (fA (dn bg O) O (by first | exact fP.lW (hr _ (HL)) (by omega) | exact fP.wK (hr _ (HL)) (by omega) | exact fP.wH (hr _ (HL)) (by omega))) ?_
   refine bQ O (dS O func142 (lF HL hT) ?_)
   rintro _ w6 ⟨rfl, H6⟩
   refine gJ O (aY ?_)
   refine fF [(0, _), (2, _), (7, _)] (fun (z : Int) => [(1, .int .i64 z)]) (fun (z : Int) W => ((0 ≤ z ∧ z ≤ l.length) ∧ uw (fun r => bZ r big == bZ (l.getD (y - 1).toNat 0) big) l z = uw (fun r => bZ r big == bZ (l.getD (y - 1).toNat 0) big) l y) ∧ V w0 W F) (fun (z : Int) => z.toNat) (y) uM lI ⟨⟨⟨by omega, by omega⟩, O⟩, H6⟩ ?_
   rintro z w7 ⟨⟨⟨hz0, hzl⟩, hz⟩, HM⟩
   dsimp only [List.cons_append, List.nil_append]
   refine aP (bP O (aV (iV O O) (jP O (fun h7 => ?_) (fun h7 => ?_))))
   ·(try simp only [Z] at h7)
    refine bC (bQ O (bC (bQ O (bC (aV (kX O O (by omega)) (bC (aV (dI aB bT O O (by omega)) (bC ?_))))))))
    refine aV (fA (dn bg O) O (by first | exact fP.lW (hr _ (HM)) (by omega) | exact fP.wK (hr _ (HM)) (by omega) | exact fP.wH (hr _ (HM)) (by omega))) ?_
    refine bC (bQ O (bC (dS O func142 (lF HM hT) ?_)))
    rintro _ w8 ⟨rfl, H8⟩
    refine bC (bQ O (bC (aV (dV O O) (jF O O (jh O (fun h8 => ?_) (fun h8 => ?_))))))
    ·(try simp only [Z] at h8)
     have hQ : (bZ (l.getD (z - 1).toNat 0) big == bZ (l.getD (y - 1).toNat 0) big) = true := by rw [beq_iff_eq]; exact h8
     refine fZ (aY (aC (bQ O (aV (kX O O (by omega)) (fU O (bM (aJ ?_)))))))
     refine dL (z - 1) ?_ ?_ ?_ ?_
     ·exact lI
     ·exact uM
     ·(try dsimp only)
      first | done | exact ⟨⟨⟨by omega, by omega⟩, (Gt (by omega) hzl hQ).symm.trans hz⟩, H8⟩
     ·(try dsimp only); omega
    ·(try simp only [Z] at h8)
     have hQ : ¬ (bZ (l.getD (z - 1).toNat 0) big == bZ (l.getD (y - 1).toNat 0) big) = true := by rw [beq_iff_eq]; exact h8
     refine dB (aI (aI (aZ (aX (bP O (eY O (dG results96 O ?_)))))))
     exact ⟨by unfold zf; rw [e1]; first | (rw [if_neg (by omega)]; done) | (rw [if_pos (by omega), ← hz]; first | rw [tC (by omega)] | rw [wU (by omega) hzl hQ]), H8⟩
   ·(try simp only [Z] at h7)
    refine bI (bI (bI (bI (bI (bI (bI (bI (bI (iM O O (iJ (qy (dB (aI (aI (aZ (aX (bP O (eY O (dG results96 O ?_)))))))))))))))))))
    exact ⟨by unfold zf; rw [e1]; first | (rw [if_neg (by omega)]; done) | (rw [if_pos (by omega), ← hz]; first | rw [tC (by omega)] | rw [wU (by omega) hzl hQ]), HM⟩
  ·(try simp only [Z] at h6)
   refine fZ (bP O (eY O (dG results96 O ?_)))
   exact ⟨by unfold zf; rw [e1]; first | (rw [if_neg (by omega)]; done) | (rw [if_pos (by omega), ← hz]; first | rw [tC (by omega)] | rw [wU (by omega) hzl hQ]), HL⟩
theorem Vp (H : V w0 w F) (hr : jZ w0 F .i32 v l) (hT : yG w0) (hx0 : 0 ≤ x) (hx1 : x ≤ l.length) (hl8 : l.length ≤ 4611686018427387904) : gI prog 97 #[v, .int .i64 x, .bool big] w fun v' w' => v' = .int .i64 (ER l x big) ∧ V w0 w' F := by
 refine FM func97 ntmps97 ?_
 refine jg O (bP O (aV (gy O O (by omega)) (vk O (aY ?_))))
 refine fF [(0, _), (2, _)] (fun (y : Int) => [(1, .int .i64 y)]) (fun (y : Int) W => ((0 ≤ y ∧ y ≤ l.length + 1) ∧ jV (fun r => eF r == 0) l y = jV (fun r => eF r == 0) l (x + 1)) ∧ V w0 W F) (fun (y : Int) => (l.length + 1 - y).toNat) (x + 1) qB lI ⟨⟨⟨by omega, by omega⟩, O⟩, H⟩ ?_
 rintro y w1 ⟨⟨⟨hy0, hyl⟩, hy⟩, HL⟩
 dsimp only [List.cons_append, List.nil_append]
 refine aP (bP O (bQ O (aV (jk (hr _ (HL)) aB O) (aV (iL O O) (jP O (fun h1 => ?_) (fun h1 => ?_))))))
 ·(try simp only [Z] at h1)
  refine bC (bQ O (bC (bQ O (bC ?_))))
  obtain ⟨bv, ov, cv, ev⟩ := fP.pW (hr _ (HL)) (by omega)
  cases ev
  refine aV (dI aB bT O O (by omega)) (bC ?_)
  refine aV (fA (dn bg O) O (by first | exact fP.lW (hr _ (HL)) (by omega) | exact fP.wK (hr _ (HL)) (by omega) | exact fP.wH (hr _ (HL)) (by omega))) ?_
  refine bC (dS O func14 (nV HL hT) ?_)
  rintro _ w2 ⟨rfl, H2⟩
  refine bC (aV (dV O O) (jF O O (jh O (fun h2 => ?_) (fun h2 => ?_))))
  ·(try simp only [Z] at h2)
   have hP : (eF (l.getD y.toNat 0) == 0) = true := by rw [beq_iff_eq]; exact h2
   refine fZ (aY (aC (bQ O (aV (gy O O (by omega)) (fU O (bM (aJ ?_)))))))
   refine dL (y + 1) ?_ ?_ ?_ ?_
   ·exact lI
   ·exact qB
   ·(try dsimp only)
    first | done | exact ⟨⟨⟨by omega, by omega⟩, (qc hy0 (by omega) hP).symm.trans hy⟩, H2⟩
   ·(try dsimp only); omega
  ·(try simp only [Z] at h2)
   have hP : ¬ (eF (l.getD y.toNat 0) == 0) = true := by rw [beq_iff_eq]; exact h2
   refine dB (aI (aI (aZ (aX (aP (aP ?_))))))
   have e1 : jV (fun r => eF r == 0) l (x + 1) = y := hy.symm.trans (by first | exact jo (by omega) | exact kN hy0 (by omega) hP)
   refine aC (jJ O O (aV (ny aB O) (aV (lK O O) (jh O (fun h3 => ?_) (fun h3 => ?_)))))
   ·(try simp only [Z] at h3)
    refine bP O (aV (ny aB O) (aV (kX O O (by omega)) (eY O (aF (dG results97 O ?_)))))
    exact ⟨by unfold ER; rw [e1, if_pos (by omega)], H2⟩
   ·(try simp only [Z] at h3)
    refine fZ (bP O (bQ O (aV (dI aB bT O O (by omega)) ?_)))
    refine aV (fA (dn bg O) O (by first | exact fP.lW (hr _ (H2)) (by omega) | exact fP.wK (hr _ (H2)) (by omega) | exact fP.wH (hr _ (H2)) (by omega))) ?_
    refine bQ O (dS O func142 (lF H2 hT) ?_)
    rintro _ w3 ⟨rfl, H3⟩
    refine vk O (aY ?_)
    refine fF [(0, _), (2, _), (7, _)] (fun (z : Int) => [(1, .int .i64 z)]) (fun (z : Int) W => ((0 ≤ z ∧ z < l.length) ∧ jV (fun r => bZ r big == bZ (l.getD y.toNat 0) big) l (z + 1) = jV (fun r => bZ r big == bZ (l.getD y.toNat 0) big) l (y + 1)) ∧ V w0 W F) (fun (z : Int) => (l.length - z).toNat) (y) uM lI ⟨⟨⟨by omega, by omega⟩, O⟩, H3⟩ ?_
    rintro z w4 ⟨⟨⟨hz0, hzl⟩, hz⟩, HM⟩
    dsimp only [List.cons_append, List.nil_append]
    refine aP (bP O (aV (gy O O (by omega)) (bQ O (aV (ny aB O) (aV (iL O O) (jP O (fun h4 => ?_) (fun h4 => ?_)))))))
    ·(try simp only [Z] at h4)
     refine bC (bQ O (bC (bQ O (bC (aV (gy O O (by omega)) (bC (aV (dI aB bT O O (by omega)) (bC ?_))))))))
     refine aV (fA (dn bg O) O (by first | exact fP.lW (hr _ (HM)) (by omega) | exact fP.wK (hr _ (HM)) (by omega) | exact fP.wH (hr _ (HM)) (by omega))) ?_
     refine bC (bQ O (bC (dS O func142 (lF HM hT) ?_)))
     rintro _ w5 ⟨rfl, H5⟩
     refine bC (bQ O (bC (aV (dV O O) (jF O O (jh O (fun h5 => ?_) (fun h5 => ?_))))))
     ·(try simp only [Z] at h5)
      have hQ : (bZ (l.getD (z + 1).toNat 0) big == bZ (l.getD y.toNat 0) big) = true := by rw [beq_iff_eq]; exact h5
      refine fZ (aY (aC (bQ O (aV (gy O O (by omega)) (fU O (bM (aJ ?_)))))))
      refine dL (z + 1) ?_ ?_ ?_ ?_
      ·exact lI
      ·exact uM
      ·(try dsimp only)
       first | done | exact ⟨⟨⟨by omega, by omega⟩, (qc (by omega) (by omega) hQ).symm.trans hz⟩, H5⟩
      ·(try dsimp only); omega
     ·(try simp only [Z] at h5)
      have hQ : ¬ (bZ (l.getD (z + 1).toNat 0) big == bZ (l.getD y.toNat 0) big) = true := by rw [beq_iff_eq]; exact h5
      refine dB (aI (aI (aZ (aX (bP O (eY O (dG results97 O ?_)))))))
      exact ⟨by unfold ER; rw [e1, if_neg (by omega), ← hz]; first | (rw [jo (by omega)]; congr 1; omega) | (rw [kN (by omega) (by omega) hQ]; congr 1; omega), H5⟩
    ·(try simp only [Z] at h4)
     refine bI (bI (bI (bI (bI (bI (bI (bI (bI (iM O O (iJ (qy (dB (aI (aI (aZ (aX (bP O (eY O (dG results97 O ?_)))))))))))))))))))
     exact ⟨by unfold ER; rw [e1, if_neg (by omega), ← hz]; first | (rw [jo (by omega)]; congr 1; omega) | (rw [kN (by omega) (by omega) hQ]; congr 1; omega), HM⟩
 ·(try simp only [Z] at h1)
  refine bI (bI (bI (bI (bI (bI (iM O O (iJ (qy (dB (aI (aI (aZ (aX (aP (aP ?_)))))))))))))))
  have e1 : jV (fun r => eF r == 0) l (x + 1) = y := hy.symm.trans (by first | exact jo (by omega) | exact kN hy0 (by omega) hP)
  refine aC (jJ O O (aV (jk (hr _ (HL)) aB O) (aV (lK O O) (jh O (fun h6 => ?_) (fun h6 => ?_)))))
  ·(try simp only [Z] at h6)
   refine bP O (aV (jk (hr _ (HL)) aB O) (aV (kX O O (by omega)) (eY O (aF (dG results97 O ?_)))))
   exact ⟨by unfold ER; rw [e1, if_pos (by omega)], HL⟩
  ·(try simp only [Z] at h6)
   refine fZ (bP O (bQ O ?_))
   obtain ⟨bv, ov, cv, ev⟩ := fP.pW (hr _ (HL)) (by omega)
   cases ev
   refine aV (dI aB bT O O (by omega)) ?_
   refine aV (fA (dn bg O) O (by first | exact fP.lW (hr _ (HL)) (by omega) | exact fP.wK (hr _ (HL)) (by omega) | exact fP.wH (hr _ (HL)) (by omega))) ?_
   refine bQ O (dS O func142 (lF HL hT) ?_)
   rintro _ w6 ⟨rfl, H6⟩
   refine vk O (aY ?_)
   refine fF [(0, _), (2, _), (7, _)] (fun (z : Int) => [(1, .int .i64 z)]) (fun (z : Int) W => ((0 ≤ z ∧ z < l.length) ∧ jV (fun r => bZ r big == bZ (l.getD y.toNat 0) big) l (z + 1) = jV (fun r => bZ r big == bZ (l.getD y.toNat 0) big) l (y + 1)) ∧ V w0 W F) (fun (z : Int) => (l.length - z).toNat) (y) uM lI ⟨⟨⟨by omega, by omega⟩, O⟩, H6⟩ ?_
   rintro z w7 ⟨⟨⟨hz0, hzl⟩, hz⟩, HM⟩
   dsimp only [List.cons_append, List.nil_append]
   refine aP (bP O (aV (gy O O (by omega)) (bQ O (aV (ny aB O) (aV (iL O O) (jP O (fun h7 => ?_) (fun h7 => ?_)))))))
   ·(try simp only [Z] at h7)
    refine bC (bQ O (bC (bQ O (bC (aV (gy O O (by omega)) (bC (aV (dI aB bT O O (by omega)) (bC ?_))))))))
    refine aV (fA (dn bg O) O (by first | exact fP.lW (hr _ (HM)) (by omega) | exact fP.wK (hr _ (HM)) (by omega) | exact fP.wH (hr _ (HM)) (by omega))) ?_
    refine bC (bQ O (bC (dS O func142 (lF HM hT) ?_)))
    rintro _ w8 ⟨rfl, H8⟩
    refine bC (bQ O (bC (aV (dV O O) (jF O O (jh O (fun h8 => ?_) (fun h8 => ?_))))))
    ·(try simp only [Z] at h8)
     have hQ : (bZ (l.getD (z + 1).toNat 0) big == bZ (l.getD y.toNat 0) big) = true := by rw [beq_iff_eq]; exact h8
     refine fZ (aY (aC (bQ O (aV (gy O O (by omega)) (fU O (bM (aJ ?_)))))))
     refine dL (z + 1) ?_ ?_ ?_ ?_
     ·exact lI
     ·exact uM
     ·(try dsimp only)
      first | done | exact ⟨⟨⟨by omega, by omega⟩, (qc (by omega) (by omega) hQ).symm.trans hz⟩, H8⟩
     ·(try dsimp only); omega
    ·(try simp only [Z] at h8)
     have hQ : ¬ (bZ (l.getD (z + 1).toNat 0) big == bZ (l.getD y.toNat 0) big) = true := by rw [beq_iff_eq]; exact h8
     refine dB (aI (aI (aZ (aX (bP O (eY O (dG results97 O ?_)))))))
     exact ⟨by unfold ER; rw [e1, if_neg (by omega), ← hz]; first | (rw [jo (by omega)]; congr 1; omega) | (rw [kN (by omega) (by omega) hQ]; congr 1; omega), H8⟩
   ·(try simp only [Z] at h7)
    refine bI (bI (bI (bI (bI (bI (bI (bI (bI (iM O O (iJ (qy (dB (aI (aI (aZ (aX (bP O (eY O (dG results97 O ?_)))))))))))))))))))
    exact ⟨by unfold ER; rw [e1, if_neg (by omega), ← hz]; first | (rw [jo (by omega)]; congr 1; omega) | (rw [kN (by omega) (by omega) hQ]; congr 1; omega), HM⟩
end
end Go.Proofs.YtpdeedplgmbopaaGreatDoor
end
section
namespace Go.Proofs.YtpdeedplgmbopaaGreatDoor
open Go.RowKit
def Gv (f : Int → Int → Option Int) : Int → List Int → Option Int
  | _, [] => none
  | s, x :: l => match f s x with
    | none => some 0
    | some t => (Gv f t l).map (· + 1)
def uJ (st : Int) (f : Int → Int → Option Int) (l : List Int) (s i : Int) : Option Int :=
  if 0 ≤ i ∧ i < l.length then (if st = 1 then (Gv f s (l.drop i.toNat)).map (i + ·) else (Gv f s (l.take (i.toNat + 1)).reverse).map (i - ·)) else none
section
variable {st s t i : Int} {f : Int → Int → Option Int} {l : List Int}
theorem Ak (h : ¬ (0 ≤ i ∧ i < l.length)) : uJ st f l s i = none := if_neg h
theorem Jv (h0 : 0 ≤ i) (h1 : i < l.length) : (l.take (i.toNat + 1)).reverse = l.getD i.toNat 0 :: (l.take i.toNat).reverse := by
  rw [List.take_succ_eq_append_getElem (by omega), List.reverse_append, List.getD_eq_getElem?_getD, List.getElem?_eq_getElem (by omega)]
  rfl
theorem QX (h0 : 0 ≤ i) (h1 : i < l.length) : l.drop i.toNat = l.getD i.toNat 0 :: l.drop (i.toNat + 1) := by
  rw [List.drop_eq_getElem_cons (by omega), List.getD_eq_getElem?_getD, List.getElem?_eq_getElem (by omega)]
  rfl
theorem Am (h0 : 0 ≤ i) (h1 : i < l.length) (hf : f s (l.getD i.toNat 0) = none) : uJ st f l s i = some i := by
  unfold uJ
  rw [if_pos ⟨h0, h1⟩, QX h0 h1, Jv h0 h1, Gv, Gv, hf]
  split <;> simp
theorem Gw (hst : st = 1 ∨ st = -1) (h0 : 0 ≤ i) (h1 : i < l.length) (hf : f s (l.getD i.toNat 0) = some t) : uJ st f l s i = uJ st f l t (i + st) := by
  unfold uJ
  rw [if_pos ⟨h0, h1⟩, QX h0 h1, Jv h0 h1, Gv, Gv, hf]
  dsimp only
  rcases hst with rfl | rfl
  · rw [if_pos rfl, if_pos rfl]
    by_cases h2 : i + 1 < l.length
    · rw [if_pos ⟨by omega, h2⟩, show (i + 1).toNat = i.toNat + 1 from by omega, Option.map_map]
      congr 1
      funext x
      simp; omega
    · rw [if_neg (by omega), List.drop_of_length_le (by omega)]
      rfl
  · rw [if_neg (show ¬ ((-1 : Int) = 1) by decide), if_neg (show ¬ ((-1 : Int) = 1) by decide)]
    by_cases h2 : 0 < i
    · rw [if_pos ⟨by omega, by omega⟩, show (i + -1).toNat + 1 = i.toNat from by omega, Option.map_map]
      congr 1
      funext x
      simp; omega
    · rw [if_neg (by omega), show i.toNat = 0 from by omega]
      rfl
end
def A8 (c : Int) (n x : Int) : Option Int := if x = c then (if n ≤ 1 then none else some (n - 1)) else some n
def Gx (a b : Int) (d x : Int) : Option Int := if d + (if x = a then 1 else 0) - (if x = b then 1 else 0) = 0 then none else some (d + (if x = a then 1 else 0) - (if x = b then 1 else 0))
def yu (g : Int → Int) : Nat → Int → Int
  | 0, x => x
  | n + 1, x => if g x = x then x else yu g n (g x)
def abQ (g : Int → Int) : Nat → Int → Int
  | 0, x => x
  | n + 1, x => abQ g n (g x)
section
variable {g : Int → Int}
theorem Gy {n : Nat} {x : Int} (h : g x = x) : yu g n x = x := by cases n with
  | zero => rfl
  | succ n => rw [yu, if_pos h]
theorem PE {n : Nat} {x : Int} (hn : 0 < n) (h : ¬ g x = x) : yu g n x = yu g (n - 1) (g x) := by
  obtain ⟨m, rfl⟩ : ∃ m, n = m + 1 := ⟨n - 1, by omega⟩
  rw [yu, if_neg h]; rfl
end
section
variable {l : List Int} {x : Int} {big : Bool}
theorem Vq (l : List Int) {x : Int} (big : Bool) (h0 : 0 ≤ x) (h1 : x ≤ l.length) : x ≤ wV l x big ∧ wV l x big ≤ l.length := by
  unfold wV
  by_cases h2 : x < l.length
  · rw [if_pos h2]
    by_cases h3 : bZ (l.getD x.toNat 0) big = 0
    · rw [if_pos h3]; exact qF h0 h1
    · rw [if_neg h3]
      have h4 := qF (P := fun r => bZ r big == bZ (l.getD x.toNat 0) big) h0 h1
      have h5 := qF (P := fun r => eF r == 0) (l := l) (x := jV (fun r => bZ r big == bZ (l.getD x.toNat 0) big) l x) (by omega) h4.2
      omega
  · rw [if_neg h2]; exact qF h0 h1
theorem Vr (l : List Int) {x : Int} (big : Bool) (h0 : 0 ≤ x) (h1 : x ≤ l.length) : 0 ≤ zf l x big ∧ zf l x big ≤ x := by
  unfold zf
  have h2 := Gu (P := fun r => eF r == 0) h0 h1
  split
  · have h3 := Gu (P := fun r => bZ r big == bZ (l.getD (uw (fun r => eF r == 0) l x - 1).toNat 0) big) (l := l) (x := uw (fun r => eF r == 0) l x) h2.1 (by omega)
    omega
  · exact h2
theorem X0 (l : List Int) {x : Int} (big : Bool) (h0 : 0 ≤ x) (h1 : x < l.length) : x ≤ ER l x big ∧ ER l x big < l.length := by
  unfold ER
  by_cases h9 : (l.length : Int) ≤ x + 1
  · rw [jo h9, if_pos h9]; omega
  · have h2 := qF (P := fun r => eF r == 0) (l := l) (x := x + 1) (by omega) (by omega)
    split
    · omega
    · have h3 := qF (P := fun r => bZ r big == bZ (l.getD (jV (fun r => eF r == 0) l (x + 1)).toNat 0) big) (l := l) (x := jV (fun r => eF r == 0) l (x + 1) + 1) (by omega) (by omega)
      omega
end
def pK (key : Int) : Int := if key = 70 ∨ key = 84 then -1 else 1
def DZ (l : List Int) (x key c n : Int) : Int × Bool × Bool := match uJ (pK key) (A8 c) l n (x + pK key) with
  | none => (0, false, false)
  | some i => (if key = 116 ∨ key = 84 then i - pK key else i, decide (0 < pK key), true)
def uT (r : Int) : Bool := r == 40 || r == 91 || r == 123 || r == 41 || r == 93 || r == 125
def C9 (r : Int) : Int := if r = 40 ∨ r = 91 ∨ r = 123 then 1 else -1
def D5 (r : Int) : Int := if r = 40 then 41 else if r = 41 then 40 else if r = 91 then 93 else if r = 93 then 91 else if r = 123 then 125 else 123
def vZ (l : List Int) (x : Int) : Int × Bool × Bool :=
  if (l.length : Int) ≤ jV (fun r => !uT r) l x then (0, false, false) else
  match uJ (C9 (l.getD (jV (fun r => !uT r) l x).toNat 0)) (Gx (l.getD (jV (fun r => !uT r) l x).toNat 0) (D5 (l.getD (jV (fun r => !uT r) l x).toNat 0))) l 0 (jV (fun r => !uT r) l x) with
  | none => (0, false, false)
  | some j => (j, true, true)
def wo (l : List Int) (x key n : Int) : Int × Bool × Bool :=
  if key = 119 ∨ key = 87 then (if x < l.length then (yu (fun y => wV l y (key == 87)) n.toNat x, false, true) else (0, false, false))
  else if key = 98 ∨ key = 66 then (if 0 < x then (yu (fun y => zf l y (key == 66)) n.toNat x, false, true) else (0, false, false))
  else if key = 101 ∨ key = 69 then (if x < l.length - 1 then (yu (fun y => ER l y (key == 69)) n.toNat x, true, true) else (0, false, false))
  else (0, false, false)
def kP (l : List Int) (x key c n : Int) : Int × Bool × Bool :=
  if key = 104 then (if x = 0 then (0, false, false) else (x - min n x, false, true))
  else if key = 108 ∨ key = 32 then (if x = l.length then (0, false, false) else (x + min n (l.length - x), false, true))
  else if key = 48 then (0, false, true)
  else if key = 36 then (l.length, false, true)
  else if key = 94 then (jV (fun r => eF r == 0) l 0, false, true)
  else if key = 124 then (min (n - 1) l.length, false, true)
  else if key = 102 ∨ key = 70 ∨ key = 116 ∨ key = 84 then DZ l x key c n
  else if key = 37 then vZ l x
  else wo l x key n
def uU (l : List Int) (x key c n : Int) : Int × Bool × Bool := kP l (min (max x 0) l.length) key c (max n 1)
def SQ (q : Int × Bool × Bool) : Value := .tuple #[.int .i64 q.1, .bool q.2.1, .bool q.2.2]
section
variable {P : Program} {L : List (Nat × Value)} {w : World} {ty t t' : TypeId} {x y : Operand} {k k2 : IntKind} {m n : Int}
theorem X3 (o : BinOp) (hx : ev L x = some (.int k m)) (hy : ev L y = some (.int k n)) (ho : o = .and ∨ o = .or ∨ o = .xor ∨ o = .andNot) : Val P L (.binOp o t x y t') ty w (.int k (bits o k m n)) w :=
  ZH o hx hy ho (by rcases ho with rfl | rfl | rfl | rfl <;> rfl)
theorem Fe {n : Int} (h : -2147483648 ≤ n ∧ n < 2147483648) : IntKind.i32.wrap n = n := by rw [IntKind.wrap_i32]; omega
theorem QY {n : Int} (h : -9223372036854775808 ≤ n ∧ n < 9223372036854775808) : IntKind.i64.wrap n = n := by rw [IntKind.wrap_i64]; omega
theorem Jw {src dst : TypeId} (hx : ev L x = some (.int k m)) (hs : (P.underlying src).isSome = true) (hd : P.underlying dst = some (.int .u8)) : Val P L (.convert src dst x) ty w (.int .u8 (m % 256)) w := fun ρ hρ _ _ _ _ => by
  obtain ⟨ds, hs'⟩ := Option.isSome_iff_exists.1 hs
  simp only [execOp, hρ _ _ hx]
  simp [convert, run_underlying hs', run_underlying hd, Conv.intToInt, IntKind.wrap_u8]
end
end Go.Proofs.YtpdeedplgmbopaaGreatDoor
end
section
namespace Go.Proofs.YtpdeedplgmbopaaGreatDoor
open Go.RowKit
open _root_.Go.Proofs.Tryz
def Vs (k : Int) : Bool := decide (48 ≤ k) && decide (k ≤ 57)
def uV (l : List Int) : List Int := if l.getD 0 0 = 48 then [] else l.takeWhile Vs
def Gz (n k : Int) : Int := min (n * 10 + (k - 48)) 1000000
def abR (l : List Int) : Int := (uV l).foldl Gz 0
def kU (l : List Int) : List Int := l.drop (uV l).length
theorem abS {p : Int → Bool} {l : List Int} : ∀ {i : Nat}, i ≤ (l.takeWhile p).length → (i < (l.takeWhile p).length ↔ (i < l.length ∧ p (l.getD i 0) = true)) := by
  induction l with
  | nil => intro i h; simp
  | cons x l ih =>
    intro i h
    rw [List.takeWhile_cons] at h ⊢
    by_cases hx : p x = true
    · rw [if_pos hx] at h ⊢
      cases i with
      | zero => simp [hx]
      | succ i =>
        rw [List.length_cons] at h
        have := ih (i := i) (by omega)
        rw [List.length_cons, List.length_cons, List.getD_cons_succ, Nat.add_lt_add_iff_right, Nat.add_lt_add_iff_right]
        exact this
    · rw [if_neg hx] at h ⊢
      have : i = 0 := by simpa using h
      subst this
      simp [hx]
theorem aag {p : Int → Bool} {l : List Int} {i : Nat} (h : i < (l.takeWhile p).length) : (l.takeWhile p).getD i 0 = l.getD i 0 := by
  induction l generalizing i with
  | nil => simp at h
  | cons x l ih =>
    rw [List.takeWhile_cons] at h ⊢
    by_cases hx : p x = true
    · rw [if_pos hx] at h ⊢
      cases i with
      | zero => rfl
      | succ i => rw [List.length_cons] at h; rw [List.getD_cons_succ, List.getD_cons_succ]; exact ih (by omega)
    · rw [if_neg hx] at h; simp at h
section
variable {l : List Int} {i : Nat}
theorem aah (h : i ≤ (uV l).length) : i < (uV l).length ↔ ((i : Int) < l.length ∧ 48 ≤ l.getD i 0 ∧ l.getD i 0 ≤ 57 ∧ (0 < i ∨ ¬ l.getD i 0 = 48)) := by
  unfold uV at h ⊢
  by_cases h0 : l.getD 0 0 = 48
  · rw [if_pos h0] at h ⊢
    have : i = 0 := by simpa using h
    subst this
    constructor
    · intro h9; simp at h9
    · rintro ⟨_, _, _, h9 | h9⟩
      · omega
      · exact absurd h0 h9
  · rw [if_neg h0] at h ⊢
    rw [abS h]
    unfold Vs
    rw [Bool.and_eq_true, decide_eq_true_iff, decide_eq_true_iff]
    have h1 : 0 < i ∨ ¬ l.getD i 0 = 48 := by
      cases i with
      | zero => exact .inr h0
      | succ i => exact .inl (by omega)
    omega
theorem X5 (h : i < (uV l).length) : (uV l).getD i 0 = l.getD i 0 := by
  unfold uV at h ⊢
  by_cases h0 : l.getD 0 0 = 48
  · rw [if_pos h0] at h; simp at h
  · rw [if_neg h0] at h ⊢; exact aag h
theorem Nc (h : i < (uV l).length) : ((uV l).take (i + 1)).foldl Gz 0 = Gz (((uV l).take i).foldl Gz 0) (l.getD i 0) := by
  rw [List.take_succ_eq_append_getElem h, List.foldl_append, ← X5 h, List.getD_eq_getElem?_getD, List.getElem?_eq_getElem h]
  rfl
theorem Fg : ((uV l).take (uV l).length).foldl Gz 0 = abR l := by rw [List.take_length]; rfl
theorem QZ {n k : Int} (h : 0 ≤ n ∧ n ≤ 1000000) (hk : 48 ≤ k ∧ k ≤ 57) : 0 ≤ Gz n k ∧ Gz n k ≤ 1000000 := by unfold Gz; omega
theorem aai : (uV l).length ≤ l.length := by
  unfold uV; split
  · simp
  · exact (List.takeWhile_sublist Vs).length_le
end
section
variable {w0 w : World} {F : HP} {v : Value} {l : List Int}
theorem KI (H : V w0 w F) (hr : jZ w0 F .i32 v l) : gI prog 51 #[v] w fun u w' => ∃ kv, u = .tuple #[kv, .int .i64 (abR l)] ∧ jZ w0 F .i32 kv (kU l) ∧ V w0 w' F := by
 have Xi : l.length ≤ 9223372036854775807 := by have := (hr _ H).open; obtain ⟨a, c, e, h3, h4, _⟩ := this; omega
 have hcl := aai (l := l)
 refine gG func51 ntmps51 ?_
 refine iE (fU O (gJ O (iE (fU O (vk O (aY ?_))))))
 refine fF [(0, _)] (fun (⟨i, n⟩ : Nat × Int) => [(4, .int .i64 n), (5, .int .i64 (i : Int))]) (fun (⟨i, n⟩ : Nat × Int) W => (i ≤ (uV l).length ∧ (0 ≤ n ∧ n ≤ 1000000) ∧ n = ((uV l).take i).foldl Gz 0) ∧ V w0 W F) (fun (⟨i, n⟩ : Nat × Int) => (uV l).length - i) ((0, 0)) lI qB ⟨⟨by omega, by omega, O⟩, H⟩ ?_
 rintro ⟨i, n⟩ w1 ⟨⟨hi, hn, hE⟩, HL⟩
 dsimp only [List.cons_append, List.nil_append]
 have hca := aah (l := l) hi
 refine aP (bP O (bQ O (aV (jk (hr _ (HL)) aB O) (aV (iL O O) (jP O (fun h1 => ?_) (fun h1 => ?_))))))
 ·(try simp only [Z] at h1)
  refine bC (bQ O (bC (bQ O (bC ?_))))
  obtain ⟨bv, ov, cv, ev⟩ := fP.pW (hr _ (HL)) (by omega)
  cases ev
  refine aV (dI aB bT O O (by omega)) (bC ?_)
  refine aV (fA (dn bg O) O (by first | exact fP.lW (hr _ (HL)) (by omega) | exact fP.wK (hr _ (HL)) (by omega) | exact fP.wH (hr _ (HL)) (by omega))) ?_
  refine bC (aV (lK O O) (jF O O (jP O (fun h2 => ?_) (fun h2 => ?_))))
  ·(try simp only [Z] at h2)
   refine bC (bQ O (bC (bQ O (bC (aV (dI aB bT O O (by omega)) (bC ?_))))))
   refine aV (fA (dn bg O) O (by first | exact fP.lW (hr _ (HL)) (by omega) | exact fP.wK (hr _ (HL)) (by omega) | exact fP.wH (hr _ (HL)) (by omega))) ?_
   refine bC (aV (pI O O) (jF O O (jP O (fun h3 => ?_) (fun h3 => ?_))))
   ·(try simp only [Z] at h3)
    refine bC (bQ O (bC (aV (iV O O) (bC (jP O (fun h4 => ?_) (fun h4 => ?_))))))
    ·(try simp only [Z] at h4)
     refine bI (bI (bI (bI (bI (bC (jF O O (jF O O (iJ (EK (fZ (aY (aP ?_))))))))))))
     have hlt : i < (uV l).length := by omega
     refine aC (bQ O (aV (YQ O O (by omega)) (jJ O O (aV (dI aB bT O O (by omega)) ?_))))
     refine aV (fA (dn bg O) O (by first | exact fP.lW (hr _ (HL)) (by omega) | exact fP.wK (hr _ (HL)) (by omega) | exact fP.wH (hr _ (HL)) (by omega))) ?_
     refine aV (Ls (Uh O O) (congrArg (Value.int .i32) (Fe (by omega)))) ?_
     refine aV (yD O (by rw [underlying21]; rfl) aK (QY (by omega))) ?_
     refine aV (gy O O (by omega)) (aV (Cc O O) (gJ O (aC (bQ O (aV (gy O O (by omega)) (fU O (bM (aJ ?_))))))))
     refine dL ((i + 1, Gz n (l.getD i 0))) ?_ ?_ ?_ ?_
     ·exact qB
     ·exact lI
     ·(try dsimp only)
      first | done | exact ⟨⟨by omega, QZ hn (by omega), by rw [Nc hlt, ← hE]⟩, HL⟩
     ·(try dsimp only); omega
    ·(try simp only [Z] at h4)
     refine bC (bQ O (bC (bQ O (bC (aV (dI aB bT O O (by omega)) (bC ?_))))))
     refine aV (fA (dn bg O) O (by first | exact fP.lW (hr _ (HL)) (by omega) | exact fP.wK (hr _ (HL)) (by omega) | exact fP.wH (hr _ (HL)) (by omega))) ?_
     refine bC (aV (iO O O) (bC (iM O O (jF O O (jh O (fun h5 => ?_) (fun h5 => ?_))))))
     ·(try simp only [Z] at h5)
      refine fZ (aY (aP ?_))
      have hlt : i < (uV l).length := by omega
      refine aC (bQ O (aV (YQ O O (by omega)) (jJ O O (aV (dI aB bT O O (by omega)) ?_))))
      refine aV (fA (dn bg O) O (by first | exact fP.lW (hr _ (HL)) (by omega) | exact fP.wK (hr _ (HL)) (by omega) | exact fP.wH (hr _ (HL)) (by omega))) ?_
      refine aV (Ls (Uh O O) (congrArg (Value.int .i32) (Fe (by omega)))) ?_
      refine aV (yD O (by rw [underlying21]; rfl) aK (QY (by omega))) ?_
      refine aV (gy O O (by omega)) (aV (Cc O O) (gJ O (aC (bQ O (aV (gy O O (by omega)) (fU O (bM (aJ ?_))))))))
      refine dL ((i + 1, Gz n (l.getD i 0))) ?_ ?_ ?_ ?_
      ·exact qB
      ·exact lI
      ·(try dsimp only)
       first | done | exact ⟨⟨by omega, QZ hn (by omega), by rw [Nc hlt, ← hE]⟩, HL⟩
      ·(try dsimp only); omega
     ·(try simp only [Z] at h5)
      refine dB (aI (aI (aZ (aX (aP ?_)))))
      have hlt : i = (uV l).length := by omega
      refine aC (jJ O O (aV (xX (hr _ (HL)) aB bT O O O (by omega)) ?_))
      refine bQ O (fU O (eY O (Jl results51 O O ?_)))
      exact ⟨_, by rw [hE, hlt, Fg], fun W HW => by unfold kU; rw [← hlt]; exact (hr W HW).from (by omega), HL⟩
   ·(try simp only [Z] at h3)
    refine bI (bI (bI (mV (mV (mV (mV (mV (bI (iM O O (iJ (qy (dB (aI (aI (aZ (aX (aP ?_)))))))))))))))))
    have hlt : i = (uV l).length := by omega
    refine aC (jJ O O (aV (xX (hr _ (HL)) aB bT O O O (by omega)) ?_))
    refine bQ O (fU O (eY O (Jl results51 O O ?_)))
    exact ⟨_, by rw [hE, hlt, Fg], fun W HW => by unfold kU; rw [← hlt]; exact (hr W HW).from (by omega), HL⟩
  ·(try simp only [Z] at h2)
   refine bI (bI (bI (bI (bI (iM O O (bQ O (bI (bI (bI (mV (mV (mV (mV (mV (bI (iM O O (iJ (qy (dB (aI (aI (aZ (aX (aP ?_))))))))))))))))))))))))
   have hlt : i = (uV l).length := by omega
   refine aC (jJ O O (aV (xX (hr _ (HL)) aB bT O O O (by omega)) ?_))
   refine bQ O (fU O (eY O (Jl results51 O O ?_)))
   exact ⟨_, by rw [hE, hlt, Fg], fun W HW => by unfold kU; rw [← hlt]; exact (hr W HW).from (by omega), HL⟩
 ·(try simp only [Z] at h1)
  refine bI (bI (bI (bI (bI (iM O O (bQ O (bI (bI (bI (bI (bI (iM O O (bQ O (bI (bI (bI (mV (mV (mV (mV (mV (bI (iM O O (iJ (qy (dB (aI (aI (aZ (aX (aP ?_)))))))))))))))))))))))))))))))
  have hlt : i = (uV l).length := by omega
  refine aC (jJ O O (aV (xX (hr _ (HL)) aB bT O O O (by omega)) ?_))
  refine bQ O (fU O (eY O (Jl results51 O O ?_)))
  exact ⟨_, by rw [hE, hlt, Fg], fun W HW => by unfold kU; rw [← hlt]; exact (hr W HW).from (by omega), HL⟩
end
end Go.Proofs.YtpdeedplgmbopaaGreatDoor
end
section
namespace Go.Proofs.YtpdeedplgmbopaaGreatDoor
open Go.RowKit Go.Lib
section
variable {P : Program} {N : Sh} {Q : Exit → Act → World → Prop} {L : List (Nat × Value)} {w : World}
end
def sb (s : ByteArray) (i : Nat) : Int := ((s.data.toList.getD i 0).toNat : Nat)
theorem aaj {s : ByteArray} {i : Nat} (h : i < s.size) : ((s[i]'h).toNat : Int) = sb s i := by
  unfold sb
  rw [List.getD_eq_getElem?_getD, List.getElem?_eq_getElem (by rw [Array.length_toList]; exact h)]
  rfl
section
variable {P : Program} {L : List (Nat × Value)} {w w0 : World} {ty : TypeId} {x y : Operand} {F : HP}
theorem Ey {t : TypeId} {s : ByteArray} {k : IntKind} {i : Int} (ht : P.underlying t = some .string) (hx : ev L x = some (.string s)) (hy : ev L y = some (.int k i)) (h : 0 ≤ i ∧ i < s.size) :
    Val P L (.index t x y) ty w (.int .u8 (sb s i.toNat)) w := fun ρ hρ _ _ _ _ => by
  simp only [execOp, hρ _ _ hx, hρ _ _ hy, Sem.run_bind]
  rw [run_index_string (w := w) t s k i ht, dif_pos h, aaj]
  rfl
theorem abT {f : FuncId} {args : List Operand} {ts : Array TypeId} {vs : List Value} {fn : Func} {e : Array Value → Sem Value} {v : Value} (ha : Dz L args = some vs)
    (hf : P.funcs[f]? = some fn) (hname : (fn.name == "runtime.NumGoroutine") = false) (hb : fn.body.isNone = true) (hn : Extern.findNext fn = none) (he : Extern.find fn = some e) (hr : (e vs.toArray).run P w = .ok v w) :
    Val P L (.call ⟨.value (.func f), args.toArray, ts⟩) ty w v w := fun ρ hρ _ _ _ _ => by
  have hg : ρ (.func f) = .func (.func f) #[] #[] := hρ _ _ rfl
  have hc := run_callFunc_extern hf hname hb hn he vs.toArray w
  rw [hr] at hc
  simp [execOp, resolve, invoke, ZE hρ _ _ ha, hg, Deferred.ofValue]
  exact hc
def aew (s : ByteArray) (k : Nat) : Value := if k < s.size then .tuple #[.bool true, .int .i64 k, .int .i32 (sb s k)] else .tuple #[.bool false]
end
theorem Zd {s : ByteArray} (hs : ∀ c ∈ s.data.toList, c.toNat < 128) (i : Nat) : 0 ≤ sb s i ∧ sb s i < 128 := by
  unfold sb
  rw [List.getD_eq_getElem?_getD]
  by_cases h : i < s.data.toList.length
  · rw [List.getElem?_eq_getElem h]
    have := hs _ (List.getElem_mem h)
    show 0 ≤ ((s.data.toList[i].toNat : Nat) : Int) ∧ ((s.data.toList[i].toNat : Nat) : Int) < 128
    omega
  · rw [List.getElem?_eq_none (by omega)]; decide
section
variable {w0 w : World} {F : HP} {s : ByteArray} {r c : Int}
theorem Iy : gI Tryz.prog 143 #[.string s, .int .u8 c] w fun v w' => v = .int .i64 (indexByte s.data.toList c.toNat.toUInt8) ∧ w = w' := by
  refine oq Tryz.func143 Tryz.ntmps143 ?_
  refine jg O (bP O (bQ O (aV (abT O Tryz.func180 O O (by kernel_rfl) (by kernel_rfl) (run_indexByteString _ _ _)) (eY O (dG Tryz.results143 O ?_)))))
  exact ⟨O, O⟩
theorem Dc : gI Tryz.prog 98 #[.string s, .int .u8 c] w fun v w' => v = .int .i64 (indexByte s.data.toList c.toNat.toUInt8) ∧ w = w' := by
  refine oq Tryz.func98 Tryz.ntmps98 ?_
  refine jg O (bP O (bQ O (dS O Tryz.func143 (Iy) ?_)))
  rintro _ _ ⟨rfl, rfl⟩
  refine eY O (dG Tryz.results98 O ?_)
  exact ⟨O, O⟩
def aeT (s : ByteArray) (r : Int) : Int := if 0 ≤ r ∧ r < 128 then indexByte s.data.toList r.toNat.toUInt8 else -1
end
theorem X6 {l : List UInt8} {c : UInt8} : 0 ≤ indexByte l c ↔ c ∈ l := by
  induction l with
  | nil => simp [indexByte]
  | cons b l ih =>
    have h1 := indexByte_ge l c
    unfold indexByte
    by_cases hb : b = c
    · simp [hb]
    · rw [if_neg (by simpa using hb)]
      by_cases h2 : indexByte l c = -1
      · rw [if_pos (by simpa using h2)]
        have : c ∉ l := fun h => by have := ih.2 h; omega
        simp [this, Ne.symm hb]
      · rw [if_neg (by simpa using h2)]
        have : c ∈ l := ih.1 (by omega)
        simp [this]; omega
def D6 (s : ByteArray) : List Int := s.data.toList.map fun b => (b.toNat : Int)
def Asc (s : ByteArray) : Prop := ∀ x ∈ s.data.toList, 0 < x.toNat ∧ x.toNat < 128
instance (s : ByteArray) : Decidable (Asc s) := by unfold Asc; infer_instance
theorem xE {s : ByteArray} (hs : Asc s) {r : Int} : (0 < r ∧ r < 128 ∧ 0 ≤ indexByte s.data.toList r.toNat.toUInt8) ↔ r ∈ D6 s := by
  rw [X6]
  unfold D6
  rw [List.mem_map]
  constructor
  · rintro ⟨h1, h2, h3⟩
    refine ⟨_, h3, ?_⟩
    rw [show r.toNat.toUInt8.toNat = r.toNat % 256 from by simp [Nat.toUInt8]]
    omega
  · rintro ⟨b, hb, rfl⟩
    have := hs b hb
    refine ⟨by omega, by omega, ?_⟩
    rw [show ((b.toNat : Int)).toNat.toUInt8 = b from by rw [Int.toNat_natCast]; simp [Nat.toUInt8]]
    exact hb
section
variable {w0 w : World} {F : HP} {r : Int} {s : ByteArray}
theorem Df (hs : Asc s) : gI Tryz.prog 50 #[.int .i32 r, .string s] w fun v w' => v = .bool (decide (r ∈ D6 s)) ∧ w = w' := by
  have hi := xE hs (r := r)
  refine oq Tryz.func50 Tryz.ntmps50 ?_
  refine jg O (bP O (aV (iV O O) (jP O (fun h1 => ?_) (fun h1 => ?_))))
  · (try simp only [Z] at h1)
    try (exfalso; first | contradiction | omega)
    all_goals
      refine bC (bQ O (bC (aV (iL O O) (jF O O (jP O (fun h2 => ?_) (fun h2 => ?_))))))
      · (try simp only [Z] at h2)
        try (exfalso; first | contradiction | omega)
        all_goals
          refine bC (bQ O (bC (bQ O (bC ?_))))
          refine aV (Jw O (by rw [Tryz.underlying21]; rfl) Tryz.underlying5) ?_
          refine bC (dS O Tryz.func98 (Dc) ?_)
          rintro _ _ ⟨rfl, rfl⟩
          refine bC (aV (lK O O) (jF O O (eY O (dG Tryz.results50 O ?_))))
          refine ⟨congrArg Value.bool ?_, O⟩; first | exact (decide_eq_false (fun c => by have := (xE hs).2 c; omega)).symm | (rw [show r % 256 = r from by omega]; exact decide_eq_decide.2 ⟨fun c => (xE hs).1 ⟨by omega, by omega, c⟩, fun c => ((xE hs).2 c).2.2⟩)
      · (try simp only [Z] at h2)
        try (exfalso; first | contradiction | omega)
        all_goals
          refine bI (bI (bI (bI (bI (iM O O (eY O (dG Tryz.results50 O ?_)))))))
          refine ⟨congrArg Value.bool ?_, O⟩; first | exact (decide_eq_false (fun c => by have := (xE hs).2 c; omega)).symm | (rw [show r % 256 = r from by omega]; exact decide_eq_decide.2 ⟨fun c => (xE hs).1 ⟨by omega, by omega, c⟩, fun c => ((xE hs).2 c).2.2⟩)
  · (try simp only [Z] at h1)
    try (exfalso; first | contradiction | omega)
    all_goals
      refine bI (bI (iM O O (bQ O (bI (bI (bI (bI (bI (iM O O (eY O (dG Tryz.results50 O ?_)))))))))))
      refine ⟨congrArg Value.bool ?_, O⟩; first | exact (decide_eq_false (fun c => by have := (xE hs).2 c; omega)).symm | (rw [show r % 256 = r from by omega]; exact decide_eq_decide.2 ⟨fun c => (xE hs).1 ⟨by omega, by omega, c⟩, fun c => ((xE hs).2 c).2.2⟩)
end
end Go.Proofs.YtpdeedplgmbopaaGreatDoor
end
section
namespace Go.Proofs.YtpdeedplgmbopaaGreatDoor
open Go.RowKit
open _root_.Go.Proofs.Tryz
def Ba (st : Int) (n i : Int) : Int := if st = 1 then n - i else i + 1
theorem GH {st n i : Int} (h : st = 1 ∨ st = -1) : Ba st n (i + st) + 1 = Ba st n i := by
  unfold Ba; rcases h with rfl | rfl
  · rw [if_pos rfl, if_pos rfl]; omega
  · rw [if_neg (by decide), if_neg (by decide)]; omega
theorem D7 {st n i : Int} (h : st = 1 ∨ st = -1) (h0 : 0 ≤ i) (h1 : i < n) : 0 < Ba st n i ∧ Ba st n i ≤ n := by
  unfold Ba; rcases h with rfl | rfl
  · rw [if_pos rfl]; omega
  · rw [if_neg (by decide)]; omega
theorem Vt (key : Int) : pK key = 1 ∨ pK key = -1 := by unfold pK; split <;> simp
theorem PG {c m x : Int} (h : ¬ x = c) : A8 c m x = some m := if_neg h
theorem PI {c m x : Int} (h : x = c) (h2 : 0 < m - 1) : A8 c m x = some (m - 1) := by unfold A8; rw [if_pos h, if_neg (by omega)]
theorem SS {c m x : Int} (h : x = c) (h2 : m - 1 ≤ 0) : A8 c m x = none := by unfold A8; rw [if_pos h, if_pos (by omega)]
theorem zQ {l : List Int} {x n key c i : Int} (h : uJ (pK key) (A8 c) l n (x + pK key) = some i) : DZ l x key c n = (if key = 116 ∨ key = 84 then i - pK key else i, decide (0 < pK key), true) := by unfold DZ; rw [h]
theorem Ez {l : List Int} {x n key c : Int} (h : uJ (pK key) (A8 c) l n (x + pK key) = none) : DZ l x key c n = (0, false, false) := by unfold DZ; rw [h]
section
variable {w0 w : World} {F : HP} {v : Value} {l : List Int} {x n key c r : Int} {s : ByteArray}
theorem PK (H : V w0 w F) (hr : jZ w0 F .i32 v l) (hx : 0 ≤ x ∧ x ≤ l.length) (hn : 1 ≤ n) (hn2 : n ≤ 9223372036854775807) (Xi : l.length ≤ 4611686018427387904) : gI prog 42 #[v, .int .i64 x, .int .i32 key, .int .i32 c, .int .i64 n] w fun u w' => u = SQ (DZ l x key c n) ∧ V w0 w' F := by
 have hst := Vt key
 refine acP func42 ntmps42 ?_
 refine iE (fU O (fU O (gJ O (jg O ?_))))
 refine kM [(0, _), (1, _), (2, _), (3, _), (4, _)] (fun (_ : Unit) => [(13, .int .i64 (pK key))]) (fun (_ : Unit) W => V w0 W F) sb5 ?_ ?_
 ·rintro _ w1 HL
  dsimp only [List.cons_append, List.nil_append]
  refine aP (bP O (bQ O (aV (gy O O (by omega)) (gJ O (aY ?_)))))
  refine fF [(0, _), (2, _), (3, _), (13, _)] (fun (⟨i, m⟩ : Int × Int) => [(4, .int .i64 m), (14, .int .i64 i)]) (fun (⟨i, m⟩ : Int × Int) W => ((-1 ≤ i ∧ i ≤ l.length + 1) ∧ (1 ≤ m ∧ m ≤ n) ∧ uJ (pK key) (A8 c) l n (x + pK key) = uJ (pK key) (A8 c) l m i) ∧ V w0 W F) (fun (⟨i, m⟩ : Int × Int) => (Ba (pK key) l.length i).toNat) ((x + pK key, n)) J3 qB ⟨⟨by omega, by omega, O⟩, HL⟩ ?_
  rintro ⟨i, m⟩ w2 ⟨⟨hi, hm, hE⟩, HL⟩
  dsimp only [List.cons_append, List.nil_append]
  have hms := GH (n := l.length) (i := i) hst
  have hmp := fun h0 h1 => D7 (n := l.length) (i := i) hst h0 h1
  refine aP (bP O (aV (lK O O) (jP O (fun h1 => ?_) (fun h1 => ?_))))
  ·(try simp only [Z] at h1)
   refine bC (bQ O (bC (bQ O (bC (aV (jk (hr _ (HL)) aB O) (bC (aV (iL O O) (jF O O (jh O (fun h2 => ?_) (fun h2 => ?_))))))))))
   ·(try simp only [Z] at h2)
    refine fZ (aP (aY (aP (bP O (bQ O ?_)))))
    obtain ⟨bv, ov, cv, ev⟩ := fP.pW (hr _ (HL)) (by omega)
    cases ev
    refine aV (dI aB bT O O (by omega)) ?_
    refine aV (fA (dn bg O) O (by first | exact fP.lW (hr _ (HL)) (by omega) | exact fP.wK (hr _ (HL)) (by omega) | exact fP.wH (hr _ (HL)) (by omega))) ?_
    refine bQ O (aV (iO O O) (jh O (fun h3 => ?_) (fun h3 => ?_)))
    ·(try simp only [Z] at h3)
     have hf := PG (m := m) h3
     refine dB (aI (aZ (aX (aC (jJ O O (aV (gy O O (by omega)) (fU O (bM ?_))))))))
     refine dL (_, _) qB J3 (by (try dsimp only); exact ⟨⟨by omega, by omega, hE.trans (Gw hst (by omega) (by omega) hf)⟩, HL⟩) ?_
     ·(try dsimp only); have := hmp (by omega) (by omega); omega
    ·(try simp only [Z] at h3)
     have heq : l.getD i.toNat 0 = c := by have h9 := h3; omega
     refine fZ (aP (bP O (aV (kX O O (by omega)) (gJ O (bP O (aV (iV O O) (jh O (fun h4 => ?_) (fun h4 => ?_))))))))
     ·(try simp only [Z] at h4)
      have hf := PI heq h4
      refine dB (aI (aZ (aX (aC (jJ O O (aV (gy O O (by omega)) (fU O (bM ?_))))))))
      refine dL (_, _) qB J3 (by (try dsimp only); exact ⟨⟨by omega, by omega, hE.trans (Gw hst (by omega) (by omega) hf)⟩, HL⟩) ?_
      ·(try dsimp only); have := hmp (by omega) (by omega); omega
     ·(try simp only [Z] at h4)
      have hf := SS heq h4
      refine fZ (aP (bP O (aV (dV O O) (jP O (fun h5 => ?_) (fun h5 => ?_)))))
      ·(try simp only [Z] at h5)
       refine bI (bI (jF O O (iJ (EK (aC (jJ O O (aV (kX O O (by omega)) (gJ O (bP O (bQ O (aV (iV O O) (fU O (fU O (eY O (aT (aF (aF (aT (aF ?_)))))))))))))))))))
       refine gY (.inl O) results42 O O O ?_
       refine ⟨?_, HL⟩
       rw [zQ (hE.trans (Am (by omega) (by omega) hf))]
       first | (rw [if_pos (by omega)]; rfl) | (rw [if_neg (by omega)]; rfl)
      ·(try simp only [Z] at h5)
       refine bC (bQ O (bC (aV (dV O O) (iM O O (jh O (fun h6 => ?_) (fun h6 => ?_))))))
       ·(try simp only [Z] at h6)
        refine aC (jJ O O (aV (kX O O (by omega)) (gJ O (bP O (bQ O (aV (iV O O) (fU O (fU O (eY O (aT (aF (aF (aT (aF ?_))))))))))))))
        refine gY (.inl O) results42 O O O ?_
        refine ⟨?_, HL⟩
        rw [zQ (hE.trans (Am (by omega) (by omega) hf))]
        first | (rw [if_pos (by omega)]; rfl) | (rw [if_neg (by omega)]; rfl)
       ·(try simp only [Z] at h6)
        refine fZ (bP O (bQ O (aV (iV O O) (fU O (fU O (eY O (aT (aF (aF (aT (aF ?_)))))))))))
        refine gY (.inl O) results42 O O O ?_
        refine ⟨?_, HL⟩
        rw [zQ (hE.trans (Am (by omega) (by omega) hf))]
        first | (rw [if_pos (by omega)]; rfl) | (rw [if_neg (by omega)]; rfl)
   ·(try simp only [Z] at h2)
    refine dB (aI (aI (aZ (aX (iE (fU O (fU O (eY O ?_))))))))
    refine gY (.inl O) results42 O O O ?_
    exact ⟨by rw [Ez (hE.trans (Ak (by omega)))]; rfl, HL⟩
  ·(try simp only [Z] at h1)
   refine bI (bI (bI (bI (iM O O (iJ (qy (dB (aI (aI (aZ (aX (iE (fU O (fU O (eY O ?_)))))))))))))))
   refine gY (.inl O) results42 O O O ?_
   exact ⟨by rw [Ez (hE.trans (Ak (by omega)))]; rfl, HL⟩
 ·skip
  refine bP O (aV (dV O O) (jP O (fun h7 => ?_) (fun h7 => ?_)))
  ·(try simp only [Z] at h7)
   refine bI (bI (jF O O (iJ (EK (aC (fU O (bM ?_)))))))
   refine dh (()) ?_ ?_ ?_
   ·exact (Sub.jE O (by congr 1; unfold pK; first | rw [if_pos (by omega)] | rw [if_neg (by omega)]) (Sub.nil _))
   ·exact sb5
   ·(try dsimp only)
    first | done | exact H
  ·(try simp only [Z] at h7)
   refine bC (bQ O (bC (aV (dV O O) (iM O O (jh O (fun h8 => ?_) (fun h8 => ?_))))))
   ·(try simp only [Z] at h8)
    refine aC (fU O (bM ?_))
    refine dh (()) ?_ ?_ ?_
    ·exact (Sub.jE O (by congr 1; unfold pK; first | rw [if_pos (by omega)] | rw [if_neg (by omega)]) (Sub.nil _))
    ·exact sb5
    ·(try dsimp only)
     first | done | exact H
   ·(try simp only [Z] at h8)
    refine bY ?_
    refine dh (()) ?_ ?_ ?_
    ·exact (Sub.jE O (by congr 1; unfold pK; first | rw [if_pos (by omega)] | rw [if_neg (by omega)]) (Sub.nil _))
    ·exact sb5
    ·(try dsimp only)
     first | done | exact H
end
end Go.Proofs.YtpdeedplgmbopaaGreatDoor
end
section
namespace Go.Proofs.YtpdeedplgmbopaaGreatDoor
open Go.RowKit
def abU (l : List pz) : Int := if l.any (fun x => decide (16384 < x.1.size)) then 3 else if l.any (fun x => decide (x.2 < 0)) then 1 else 0
section
variable {P : Program} {L : List (Nat × Value)} {w0 w : World} {F : HP} {p : Nat} {hl l : List pz} {base most : Int} {v : Value}
def Ze (hl : List pz) (most : Int) : Nat := hl.length - most.toNat
def ado (hl : List pz) (most : Int) (l : List pz) : List pz := if abU l = 0 then (hl ++ l).drop (Ze (hl ++ l) most) else hl
def adp (hl : List pz) (base most : Int) (l : List pz) : Int := if abU l = 0 then base + Ze (hl ++ l) most else base
end
def aex (l : List pz) : List pz := ado [] 4096 l
def aey (l : List pz) : Int := adp [] 1 4096 l
end Go.Proofs.YtpdeedplgmbopaaGreatDoor
end
section
namespace Go.Proofs.YtpdeedplgmbopaaGreatDoor
open Go.RowKit
open _root_.Go.Proofs.Tryz
theorem Aw.cut {I : Hp} {v : Value} {sz n : Nat} {xs : List Value} (hr : Aw I sz v n xs) {l h : Nat} (h1 : l ≤ h) (h2 : h ≤ n) : Aw I sz (wJ sz l h v) (h - l) ((xs.drop (l * sz)).take ((h - l) * sz)) := by
  obtain ⟨hl, a, c, rfl, hc1, hc2, hc⟩ := hr
  refine ⟨?_, FK a l c sz, c - l, rfl, by omega, by omega, fun hp => ?_⟩
  · rw [List.length_take, List.length_drop, hl, ← Nat.sub_mul]
    exact Nat.min_eq_left (Nat.mul_le_mul_right _ (by omega))
  · obtain ⟨b, o, cs, e, fr, rfl, hI, hcell⟩ := hc (by omega)
    have : ¬ c = l := by omega
    refine ⟨b, o + l * sz, cs, e, fr, by simp [FK, this, vI], hI, fun j hj => ?_⟩
    have e1 : l * sz + (h - l) * sz = h * sz := by rw [← Nat.add_mul]; congr 1; omega
    have e2 : h * sz ≤ n * sz := Nat.mul_le_mul_right _ h2
    have := hcell (l * sz + j) (by omega)
    rw [Nat.add_assoc, this, List.getD_eq_getElem?_getD, List.getD_eq_getElem?_getD, List.getElem?_take, if_pos hj, List.getElem?_drop]
def hlK (v : Value) (l : List pz) : HP := know (fun I => Aw I 2 v l.length (l.flatMap y8)) fun _ _ hl h => h.mono hl
def iZ (p : Nat) (hl : List pz) (base most : Int) : HP := rH fun (v : Value) => fact (HOk hl base most) • dK p (.cells #[v, .int .i64 base, .int .i64 most] 155 (0, 0)) • hlK v hl
section
variable {P : Program} {L : List (Nat × Value)} {w0 w : World} {F : HP} {p : Nat} {hl l : List pz} {base most : Int} {v : Value}
theorem V.GI (H : V w0 w (hlK v l • F)) : Rd w 2 v l.length (l.flatMap y8) := let ⟨I, h, hI⟩ := H.ql; h.rd hI
theorem V.Jy (H : V w0 w (Row 218 2 v l.length (l.flatMap y8) • F)) : V w0 w (hlK v l • F) := by
  have hl := H.wQ
  rcases H.sW with ⟨a, rfl, h1, h2, H1⟩ | ⟨g, o, c, cur, rfl, h2, h3, h4, h5, H1⟩
  · exact H1.uN fun I => ⟨hl, a, 0, by rw [h1], by omega, by decide, fun h => by omega⟩
  · exact H1.freeze.DC (oz (fun I hI => ⟨hl, _, c, rfl, h2, h3, fun _ => ⟨g, o, cur, _, (0, 0), rfl, hI, h5⟩⟩) F)
theorem V.Q5 (H : V w0 w (iZ p hl base most • F)) : ∃ v, HOk hl base most ∧ V w0 w (dK p (.cells #[v, .int .i64 base, .int .i64 most] 155 (0, 0)) • hlK v hl • F) := by
  obtain ⟨v, H⟩ := H.lJ
  obtain ⟨h, H⟩ := H.flat.fact
  exact ⟨v, h, H.flat⟩
theorem V.Dh (h : HOk hl base most) (H : V w0 w (dK p (.cells #[v, .int .i64 base, .int .i64 most] 155 (0, 0)) • hlK v hl • F)) : V w0 w (iZ p hl base most • F) :=
  V.iy v (V.deep (V.jY h H.deep))
theorem aak {l : List pz} {k : Nat} (hk : k < l.length) : (l.flatMap y8).getD (k * 2 + 0) undef = .string (l.getD k default).1 := by
  have h := congrArg (fun x => x.getD 0 undef) (rQ Jr hk default)
  simp only [List.getD_eq_getElem?_getD, List.getElem?_take, List.getElem?_drop] at h ⊢
  exact h
theorem Iz {n : Int} (H : V w0 w F) (hn : 0 ≤ n ∧ n ≤ 4096) : gI prog 56 #[.int .i64 n] w fun v w' => ∃ p, v = .tuple #[.pointer (some ⟨p, 0, none⟩), .int .i64 0] ∧ V w0 w' (iZ p [] 1 n • F) := by
  refine gG func56 ntmps56 ?_
  refine iE (fU O (vk O (bP O (aV (iL O O) (jP O (fun h1 => ?_) (fun h1 => ?_))))))
  · (try simp only [Z] at h1)
    exfalso; first | contradiction | omega
  · (try simp only [Z] at h1)
    refine bC (bQ O (bC (aV (iV O O) (iM O O (jh O (fun h2 => ?_) (fun h2 => ?_))))))
    · (try simp only [Z] at h2)
      exfalso; first | contradiction | omega
    · (try simp only [Z] at h2)
      refine fZ (bP O ?_)
      refine aV (dP (zl := [.slice none 0 0, .int .i64 0, .int .i64 0]) (pl := [(0, 1), (1, 1), (2, 1)]) [_, _, _] kH zeroValue155 O (fun w => by kernel_rfl) O (.zero (zs := [.slice none 0 0]) O (.on (.on .nil))) O) ?_
      refine jr (iD (l := [_, _, _]) H O O) ?_
      rintro _ w1 ⟨b1, rfl, H1⟩
      refine fU O (eY O (Jl results56 O O ?_))
      exact ⟨_, O, V.Dh (v := .slice none 0 0) (hl := []) ⟨by simp, by decide, by decide, by simp; omega, by omega, by simp⟩ ((H1.iP none).Jy (l := [])).swap⟩
theorem ES (H : V w0 w (iZ p hl base most • F)) : gI prog 113 #[.pointer (some ⟨p, 0, none⟩)] w fun v w' => ∃ q, v = .pointer (some ⟨q, 0, none⟩) ∧ V w0 w' (iZ q hl base most • iZ p hl base most • F) := by
 refine gG func113 ntmps113 ?_
 refine jg O (aP ?_)
 obtain ⟨Pq, AB, zn⟩ := (H).Q5
 have hkl := AB.1
 have Nh := @QN hl
 have Pm := zn.drew
 have nT := V.kp (Pm.f2.f2)
 refine yC [3, 8, 12] nT O (jG 0 O nT O (kD 1 O nT O (gV 2 O nT 0 kH O sizeOf149 O (jS 3 O nT (fun W hW => jX fB O ((Kp.h hW)).get.2 O) (jG 5 O nT O (kD 6 O nT O (gV 7 O nT 1 kH O sizeOf2 O (jS 8 O nT (fun W hW => jX underlying2 O ((Kp.h hW)).get.2 O) (jG 9 O nT O (kD 10 O nT O (gV 11 O nT 2 kH O aj O (jS 12 O nT (fun W hW => jX aK O ((Kp.h hW)).get.2 O) (og 4 O (fQ (Pm.iP none) fB aal O O O ((Pm.f2).GI) (by assumption) (by omega) (by omega)) ?_)))))))))))))
 rintro l2 w2 H2
 have xw := V.kp (H2.f3.f3.f3)
 refine dU xw (fun W hW => (Kp.h hW).right.f2.f2) ?_
 refine jB 13 O xw (fun _ => dP (zl := [.slice none 0 0, .int .i64 0, .int .i64 0]) (pl := [(0, 1), (1, 1), (2, 1)]) [_, _, _] kH zeroValue155 O (fun w => by kernel_rfl) O (.one (Rd.one ((H2).aS)) (.on (.on .nil))) O) ?_
 refine og 14 O (iD (l := [_, _, _]) H2 O O) ?_
 rintro _ w3 ⟨b3, rfl, H3⟩
 have yJ := V.kp (H3.f4.f4.f4.f4)
 refine gW yJ (by kernel_rfl) ?_
 refine jB 15 O yJ (fun _ => dN O) (qR (aX (mD (dG results113 O ?_))))
 have ZQ := H3.f4.f4
 have ZR := V.Dh AB ZQ
 have HQ := ZR.f2.f3
 rw [List.nil_append, Nat.zero_add] at HQ
 exact ⟨_, O, V.Dh AB HQ.Jy.swap⟩
end
end Go.Proofs.YtpdeedplgmbopaaGreatDoor
end
