import Derived.Test.YtpdeedplgmbopaaGreatDoorZ4
import Derived.Test.YtpdeedplgmbopaaGreatDoorZ5
import Derived.Test.YtpdeedplgmbopaaGreatDoorZ9
import Derived.Test.YtpdeedplgmbopaaGreatDoorZ2
import Derived.Test.YtpdeedplgmbopaaGreatDoorZ3
import Derived.Laws.BitsLemmas
import Derived.Lib.RuneBytes
import Derived.Scope
import Derived.Laws.RangeString
import Derived.Lib.OthersKept
import Derived.Lib.Bytealg
set_option linter.unusedSimpArgs false
set_option linter.unusedVariables false
/- Texts of mine, joined, their names in short: VW VW2 VW3 VW4 VS Bits VN Str. -/
section
namespace Go.Proofs.YtpdeedplgmbopaaGreatDoor
open Go.RowKit
def iU (P : Int → Bool) (l : List Int) (x : Int) : Int := x + (((l.drop x.toNat).takeWhile P).length : Nat)
def ru (P : Int → Bool) (l : List Int) (x : Int) : Int := x - (((l.take x.toNat).reverse.takeWhile P).length : Nat)
section
variable {P : Int → Bool} {l : List Int} {x : Int}
theorem dZ (h : (l.length : Int) ≤ x) : iU P l x = x := by
  unfold iU
  rw [List.drop_of_length_le (by omega)]
  simp
theorem jY (h0 : 0 ≤ x) (h1 : x < l.length) (h : P (l.getD x.toNat 0) = true) : iU P l x = iU P l (x + 1) := by
  unfold iU
  rw [List.getD_eq_getElem?_getD, List.getElem?_eq_getElem (by omega), Option.getD_some] at h
  rw [List.drop_eq_getElem_cons (by omega), List.takeWhile_cons, if_pos h, show (x + 1).toNat = x.toNat + 1 from by omega, List.length_cons]
  omega
theorem fM (h0 : 0 ≤ x) (h1 : x < l.length) (h : ¬ P (l.getD x.toNat 0) = true) : iU P l x = x := by
  unfold iU
  rw [List.getD_eq_getElem?_getD, List.getElem?_eq_getElem (by omega), Option.getD_some] at h
  rw [List.drop_eq_getElem_cons (by omega), List.takeWhile_cons, if_neg h]
  simp
theorem rU (h0 : 0 ≤ x) (h1 : x ≤ l.length) : x ≤ iU P l x ∧ iU P l x ≤ l.length := by
  unfold iU
  have h2 := (List.takeWhile_sublist P (l := l.drop x.toNat)).length_le
  rw [List.length_drop] at h2
  omega
theorem lQ (h : x ≤ 0) : ru P l x = x := by
  unfold ru
  rw [show x.toNat = 0 from by omega]
  simp
theorem Oy (h0 : 0 < x) (h1 : x ≤ l.length) : (l.take x.toNat).reverse = l.getD (x - 1).toNat 0 :: (l.take (x - 1).toNat).reverse := by
  rw [show x.toNat = (x - 1).toNat + 1 from by omega, List.take_succ_eq_append_getElem (by omega), List.reverse_append, List.getD_eq_getElem?_getD, List.getElem?_eq_getElem (by omega)]
  rfl
theorem zk (h0 : 0 < x) (h1 : x ≤ l.length) (h : P (l.getD (x - 1).toNat 0) = true) : ru P l x = ru P l (x - 1) := by
  unfold ru
  rw [Oy h0 h1, List.takeWhile_cons, if_pos h, List.length_cons]
  omega
theorem oh (h0 : 0 < x) (h1 : x ≤ l.length) (h : ¬ P (l.getD (x - 1).toNat 0) = true) : ru P l x = x := by
  unfold ru
  rw [Oy h0 h1, List.takeWhile_cons, if_neg h]
  simp
theorem Ir (h0 : 0 ≤ x) (h1 : x ≤ l.length) : 0 ≤ ru P l x ∧ ru P l x ≤ x := by
  unfold ru
  have h2 := (List.takeWhile_sublist P (l := (l.take x.toNat).reverse)).length_le
  rw [List.length_reverse, List.length_take] at h2
  omega
end
end Go.Proofs.YtpdeedplgmbopaaGreatDoor
end
section
namespace Go.Proofs.YtpdeedplgmbopaaGreatDoor
open Go.RowKit
open _root_.Go.Proofs.Tryz
def dn (r : Int) : Int := if r = 32 ∨ r = 9 ∨ r = 10 then 0 else if r = 95 ∨ dO r = true then 1 else 2
def bC (r : Int) (big : Bool) : Int := if big then min (dn r) 1 else dn r
def nX (l : List Int) (x : Int) (big : Bool) : Int :=
  iU (fun r => dn r == 0) l (if x < l.length then (if bC (l.getD x.toNat 0) big = 0 then x else iU (fun r => bC r big == bC (l.getD x.toNat 0) big) l x) else x)
section
variable {w0 w : World} {F : HP} {r x : Int} {big : Bool} {l : List Int} {v : Value}
theorem nO (H : V w0 w F) (hT : zA w0) : ig prog 14 #[.int .i32 r] w fun v' w' => v' = .int .i64 (dn r) ∧ V w0 w' F := by
  refine iK func14 ntmps14 ?_
  refine jy O (aK (aV (bM O (Z (cZ O O) (iZ O (fun h1 => ?_) (fun h1 => ?_))))))
  · (try simp only [aC] at h1)
    refine bn (bn (iM O O (bG O (bn (bn (iM O O (fV O (DC (jB O (aN (ay (dF results14 O ?_))))))))))))
    exact ⟨by unfold dn; rw [if_pos (by omega)], H⟩
  · (try simp only [aC] at h1)
    refine bg (bG O (bg (Z (cZ O O) (gI O O (iZ O (fun h2 => ?_) (fun h2 => ?_))))))
    · (try simp only [aC] at h2)
      refine bn (bn (iM O O (fV O (DC (jB O (aN (ay (dF results14 O ?_))))))))
      exact ⟨by unfold dn; rw [if_pos (by omega)], H⟩
    · (try simp only [aC] at h2)
      refine bg (bG O (bg (Z (cZ O O) (gI O O (fV O (bI O (fun h3 => ?_) (fun h3 => ?_)))))))
      · (try simp only [aC] at h3)
        refine jB O (aN (ay (dF results14 O ?_)))
        exact ⟨by unfold dn; rw [if_pos (by omega)], H⟩
      · (try simp only [aC] at h3)
        refine bM O (Z (cZ O O) (iZ O (fun h4 => ?_) (fun h4 => ?_)))
        · (try simp only [aC] at h4)
          refine bn (bn (iM O O (fV O (DC (jB O (aN (ay (dF results14 O ?_))))))))
          exact ⟨by unfold dn; rw [if_neg (by omega), if_pos (by first | (left; omega) | (right; assumption))], H⟩
        · (try simp only [aC] at h4)
          refine bg (bG O (bg (dX O func47 (Qc H hT) ?_)))
          rintro _ w1 ⟨rfl, H1⟩
          refine gI O O (fV O (bI O (fun h5 => ?_) (fun h5 => ?_)))
          · (try simp only [aC] at h5)
            refine jB O (aN (ay (dF results14 O ?_)))
            exact ⟨by unfold dn; rw [if_neg (by omega), if_pos (by first | (left; omega) | (right; assumption))], H1⟩
          · (try simp only [aC] at h5)
            refine bY (aG (aW (jB O (dF results14 O ?_))))
            exact ⟨by unfold dn; rw [if_neg (by omega), if_neg (by intro c; rcases c with c | c; omega; simp_all)], H1⟩
theorem lW (H : V w0 w F) (hT : zA w0) : ig prog 142 #[.int .i32 r, .bool big] w fun v' w' => v' = .int .i64 (bC r big) ∧ V w0 w' F := by
  refine nC func142 ntmps142 ?_
  refine jy O (aK (bM O (gQ O (fun h1 => ?_) (fun h1 => ?_))))
  · (try simp only [aC] at h1)
    have hb : big = true := h1
    refine bM O (dX O func14 (nO H hT) ?_)
    rintro _ w1 ⟨rfl, H1⟩
    refine Z (xY O O) (dU O (ay (dF results142 O ?_)))
    exact ⟨by unfold bC; rw [if_pos hb], H1⟩
  · (try simp only [aC] at h1)
    have hb : big = false := h1
    refine fG (bM O (dX O func14 (nO H hT) ?_))
    rintro _ w2 ⟨rfl, H2⟩
    refine dU O (dF results142 O ?_)
    exact ⟨by unfold bC; rw [if_neg (by rw [hb]; decide)], H2⟩
theorem oZ (H : V w0 w F) : ig prog 15 #[.int .i32 r] w fun v' w' => v' = .int .i64 (dn r) ∧ V w0 w' F := by
  refine iK func15 ntmps15 ?_
  refine jy O (aK (aV (bM O (Z (cZ O O) (iZ O (fun h1 => ?_) (fun h1 => ?_))))))
  · (try simp only [aC] at h1)
    refine bn (bn (iM O O (bG O (bn (bn (iM O O (fV O (DC (jB O (aN (ay (dF results15 O ?_))))))))))))
    exact ⟨by unfold dn; rw [if_pos (by omega)], H⟩
  · (try simp only [aC] at h1)
    refine bg (bG O (bg (Z (cZ O O) (gI O O (iZ O (fun h2 => ?_) (fun h2 => ?_))))))
    · (try simp only [aC] at h2)
      refine bn (bn (iM O O (fV O (DC (jB O (aN (ay (dF results15 O ?_))))))))
      exact ⟨by unfold dn; rw [if_pos (by omega)], H⟩
    · (try simp only [aC] at h2)
      refine bg (bG O (bg (Z (cZ O O) (gI O O (fV O (bI O (fun h3 => ?_) (fun h3 => ?_)))))))
      · (try simp only [aC] at h3)
        refine jB O (aN (ay (dF results15 O ?_)))
        exact ⟨by unfold dn; rw [if_pos (by omega)], H⟩
      · (try simp only [aC] at h3)
        refine bM O (dX O func48 (Iq H) ?_)
        rintro _ w1 ⟨rfl, H1⟩
        refine iZ O (fun h4 => ?_) (fun h4 => ?_)
        · (try simp only [aC] at h4)
          refine bn (bn (iM O O (fV O (DC (jB O (aN (ay (dF results15 O ?_))))))))
          exact ⟨by unfold dn; rw [if_neg (by omega), if_pos (by first | (left; omega) | (right; assumption))], H1⟩
        · (try simp only [aC] at h4)
          refine bg (bG O (bg (Z (cZ O O) (gI O O (fV O (bI O (fun h5 => ?_) (fun h5 => ?_)))))))
          · (try simp only [aC] at h5)
            refine jB O (aN (ay (dF results15 O ?_)))
            exact ⟨by unfold dn; rw [if_neg (by omega), if_pos (by first | (left; omega) | (right; assumption))], H1⟩
          · (try simp only [aC] at h5)
            refine bY (aG (aW (jB O (dF results15 O ?_))))
            exact ⟨by unfold dn; rw [if_neg (by omega), if_neg (by intro c; rcases c with c | c; omega; simp_all)], H1⟩
end
section
variable {w0 w : World} {F : HP} {r x : Int} {big : Bool} {l : List Int} {v : Value}
theorem Ui (H : V w0 w F) (hr : jE w0 F .i32 v l) (hT : zA w0) (hx0 : 0 ≤ x) (hx1 : x ≤ l.length) : ig prog 95 #[v, .int .i64 x, .bool big] w fun v' w' => v' = .int .i64 (nX l x big) ∧ V w0 w' F := by
 have SC : l.length ≤ 9223372036854775807 := by have := (hr _ H).open; obtain ⟨a, c, e, h3, h4, _⟩ := this; omega
 refine DL func95 ntmps95 ?_
 refine jy O (aK (bM O (bG O (Z (fO (hr _ (H)) aj O) (Z (fF O O) (gQ O (fun h1 => ?_) (fun h1 => ?_)))))))
 ·(try simp only [aC] at h1)
  refine bM O (bG O ?_)
  obtain ⟨bv, ov, cv, ev⟩ := dR.nJ (hr _ (H)) (by omega)
  cases ev
  refine Z (dh aj bF O O (by omega)) ?_
  refine Z (dH (bT aQ O) O (by first | exact dR.jo (hr _ (H)) (by omega) | exact dR.qB (hr _ (H)) (by omega) | exact dR.qx (hr _ (H)) (by omega))) ?_
  refine bG O (dX O func142 (lW H hT) ?_)
  rintro _ w1 ⟨rfl, H1⟩
  refine fV O (bM O (Z (jv O O) (gQ O (fun h2 => ?_) (fun h2 => ?_))))
  ·(try simp only [aC] at h2)
   have hk : ¬ bC (l.getD x.toNat 0) big = 0 := h2
   refine aV ?_
   refine dJ [(0, _), (2, _), (7, _)] (fun (y : Int) => [(1, .int .i64 y)]) (fun (y : Int) W => ((0 ≤ y ∧ y ≤ l.length) ∧ iU (fun r => bC r big == bC (l.getD x.toNat 0) big) l y = iU (fun r => bC r big == bC (l.getD x.toNat 0) big) l x) ∧ V w0 W F) (fun (y : Int) => (l.length - y).toNat) (x) qC ji ⟨⟨⟨hx0, hx1⟩, O⟩, H1⟩ ?_
   rintro y w2 ⟨⟨⟨hy0, hyl⟩, hy⟩, HL⟩
   dsimp only [List.cons_append, List.nil_append]
   refine aK (bM O (bG O (Z (jZ aj O) (Z (fF O O) (iZ O (fun h3 => ?_) (fun h3 => ?_))))))
   ·(try simp only [aC] at h3)
    refine bg (bG O (bg (bG O (bg (Z (dh aj bF O O (by omega)) (bg ?_))))))
    refine Z (dH (bT aQ O) O (by first | exact dR.jo (hr _ (HL)) (by omega) | exact dR.qB (hr _ (HL)) (by omega) | exact dR.qx (hr _ (HL)) (by omega))) ?_
    refine bg (bG O (bg (dX O func142 (lW HL hT) ?_)))
    rintro _ w3 ⟨rfl, H3⟩
    refine bg (bG O (bg (Z (cZ O O) (iM O O (gQ O (fun h4 => ?_) (fun h4 => ?_))))))
    ·(try simp only [aC] at h4)
     have hP : (bC (l.getD y.toNat 0) big == bC (l.getD x.toNat 0) big) = true := by rw [beq_iff_eq]; exact h4
     refine fG (aV (aA (bG O (Z (dP O O (by omega)) (dL O (bD (aG ?_)))))))
     refine bZ (y + 1) ?_ ?_ ?_ ?_
     ·exact ji
     ·exact qC
     ·(try dsimp only)
      first | done | exact ⟨⟨⟨by omega, by omega⟩, (jY hy0 (by omega) hP).symm.trans hy⟩, H3⟩
     ·(try dsimp only); omega
    ·(try simp only [aC] at h4)
     have hP : ¬ (bC (l.getD y.toNat 0) big == bC (l.getD x.toNat 0) big) = true := by rw [beq_iff_eq]; exact h4
     refine bQ (aB (aB (aU (aW (aK (aV ?_))))))
     try have e1 : iU (fun r => bC r big == bC (l.getD x.toNat 0) big) l x = y := hy.symm.trans (by first | exact dZ (by omega) | exact fM hy0 (by omega) hP)
     refine dJ [(0, _)] (fun (z : Int) => [(1, .int .i64 z)]) (fun (z : Int) W => ((0 ≤ z ∧ z ≤ l.length) ∧ nX l x big = iU (fun r => dn r == 0) l z) ∧ V w0 W F) (fun (z : Int) => (l.length - z).toNat) (_) ji ji ⟨⟨⟨by omega, by omega⟩, by unfold nX; first | (rw [if_neg (by omega)]; done) | (rw [if_pos (by omega), if_pos hk]; done) | (rw [if_pos (by omega), if_neg hk, e1]; done)⟩, H3⟩ ?_
     rintro z w4 ⟨⟨⟨hz0, hzl⟩, hz⟩, HM⟩
     dsimp only [List.cons_append, List.nil_append]
     refine aK (bM O (bG O (Z (jZ aj O) (Z (fF O O) (iZ O (fun h5 => ?_) (fun h5 => ?_))))))
     ·(try simp only [aC] at h5)
      refine bg (bG O (bg (bG O (bg (Z (dh aj bF O O (by omega)) (bg ?_))))))
      refine Z (dH (bT aQ O) O (by first | exact dR.jo (hr _ (HM)) (by omega) | exact dR.qB (hr _ (HM)) (by omega) | exact dR.qx (hr _ (HM)) (by omega))) ?_
      refine bg (dX O func14 (nO HM hT) ?_)
      rintro _ w5 ⟨rfl, H5⟩
      refine bg (Z (cZ O O) (iM O O (gQ O (fun h6 => ?_) (fun h6 => ?_))))
      ·(try simp only [aC] at h6)
       have hQ : (dn (l.getD z.toNat 0) == 0) = true := by rw [beq_iff_eq]; exact h6
       refine fG (aV (aA (bG O (Z (dP O O (by omega)) (dL O (bD (aG ?_)))))))
       refine bZ (z + 1) ?_ ?_ ?_ ?_
       ·exact ji
       ·exact ji
       ·(try dsimp only)
        first | done | exact ⟨⟨⟨by omega, by omega⟩, hz.trans (jY hz0 (by omega) hQ)⟩, H5⟩
       ·(try dsimp only); omega
      ·(try simp only [aC] at h6)
       have hQ : ¬ (dn (l.getD z.toNat 0) == 0) = true := by rw [beq_iff_eq]; exact h6
       refine bQ (aB (aB (aU (aW (bM O (dU O (dF results95 O ?_)))))))
       exact ⟨by rw [hz]; first | rw [dZ (by omega)] | rw [fM hz0 (by omega) hQ], H5⟩
     ·(try simp only [aC] at h5)
      refine bn (bn (bn (bn (bn (bn (gI O O (iy (oD (bQ (aB (aB (aU (aW (bM O (dU O (dF results95 O ?_))))))))))))))))
      exact ⟨by rw [hz]; first | rw [dZ (by omega)] | rw [fM hz0 (by omega) hQ], HM⟩
   ·(try simp only [aC] at h3)
    refine bn (bn (bn (bn (bn (bn (bn (bn (gI O O (iy (oD (bQ (aB (aB (aU (aW (aK (aV ?_)))))))))))))))))
    try have e1 : iU (fun r => bC r big == bC (l.getD x.toNat 0) big) l x = y := hy.symm.trans (by first | exact dZ (by omega) | exact fM hy0 (by omega) hP)
    refine dJ [(0, _)] (fun (z : Int) => [(1, .int .i64 z)]) (fun (z : Int) W => ((0 ≤ z ∧ z ≤ l.length) ∧ nX l x big = iU (fun r => dn r == 0) l z) ∧ V w0 W F) (fun (z : Int) => (l.length - z).toNat) (_) ji ji ⟨⟨⟨by omega, by omega⟩, by unfold nX; first | (rw [if_neg (by omega)]; done) | (rw [if_pos (by omega), if_pos hk]; done) | (rw [if_pos (by omega), if_neg hk, e1]; done)⟩, HL⟩ ?_
    rintro z w6 ⟨⟨⟨hz0, hzl⟩, hz⟩, HM⟩
    dsimp only [List.cons_append, List.nil_append]
    refine aK (bM O (bG O (Z (jZ aj O) (Z (fF O O) (iZ O (fun h7 => ?_) (fun h7 => ?_))))))
    ·(try simp only [aC] at h7)
     refine bg (bG O (bg (bG O (bg (Z (dh aj bF O O (by omega)) (bg ?_))))))
     refine Z (dH (bT aQ O) O (by first | exact dR.jo (hr _ (HM)) (by omega) | exact dR.qB (hr _ (HM)) (by omega) | exact dR.qx (hr _ (HM)) (by omega))) ?_
     refine bg (dX O func14 (nO HM hT) ?_)
     rintro _ w7 ⟨rfl, H7⟩
     refine bg (Z (cZ O O) (iM O O (gQ O (fun h8 => ?_) (fun h8 => ?_))))
     ·(try simp only [aC] at h8)
      have hQ : (dn (l.getD z.toNat 0) == 0) = true := by rw [beq_iff_eq]; exact h8
      refine fG (aV (aA (bG O (Z (dP O O (by omega)) (dL O (bD (aG ?_)))))))
      refine bZ (z + 1) ?_ ?_ ?_ ?_
      ·exact ji
      ·exact ji
      ·(try dsimp only)
       first | done | exact ⟨⟨⟨by omega, by omega⟩, hz.trans (jY hz0 (by omega) hQ)⟩, H7⟩
      ·(try dsimp only); omega
     ·(try simp only [aC] at h8)
      have hQ : ¬ (dn (l.getD z.toNat 0) == 0) = true := by rw [beq_iff_eq]; exact h8
      refine bQ (aB (aB (aU (aW (bM O (dU O (dF results95 O ?_)))))))
      exact ⟨by rw [hz]; first | rw [dZ (by omega)] | rw [fM hz0 (by omega) hQ], H7⟩
    ·(try simp only [aC] at h7)
     refine bn (bn (bn (bn (bn (bn (gI O O (iy (oD (bQ (aB (aB (aU (aW (bM O (dU O (dF results95 O ?_))))))))))))))))
     exact ⟨by rw [hz]; first | rw [dZ (by omega)] | rw [fM hz0 (by omega) hQ], HM⟩
  ·(try simp only [aC] at h2)
   have hk : bC (l.getD x.toNat 0) big = 0 := by have h9 := h2; omega
   refine fG (aK (aV ?_))
   try have e1 : iU (fun r => bC r big == bC (l.getD x.toNat 0) big) l x = y := hy.symm.trans (by first | exact dZ (by omega) | exact fM hy0 (by omega) hP)
   refine dJ [(0, _)] (fun (z : Int) => [(1, .int .i64 z)]) (fun (z : Int) W => ((0 ≤ z ∧ z ≤ l.length) ∧ nX l x big = iU (fun r => dn r == 0) l z) ∧ V w0 W F) (fun (z : Int) => (l.length - z).toNat) (_) ji ji ⟨⟨⟨by omega, by omega⟩, by unfold nX; first | (rw [if_neg (by omega)]; done) | (rw [if_pos (by omega), if_pos hk]; done) | (rw [if_pos (by omega), if_neg hk, e1]; done)⟩, H1⟩ ?_
   rintro z w8 ⟨⟨⟨hz0, hzl⟩, hz⟩, HM⟩
   dsimp only [List.cons_append, List.nil_append]
   refine aK (bM O (bG O (Z (jZ aj O) (Z (fF O O) (iZ O (fun h9 => ?_) (fun h9 => ?_))))))
   ·(try simp only [aC] at h9)
    refine bg (bG O (bg (bG O (bg (Z (dh aj bF O O (by omega)) (bg ?_))))))
    refine Z (dH (bT aQ O) O (by first | exact dR.jo (hr _ (HM)) (by omega) | exact dR.qB (hr _ (HM)) (by omega) | exact dR.qx (hr _ (HM)) (by omega))) ?_
    refine bg (dX O func14 (nO HM hT) ?_)
    rintro _ w9 ⟨rfl, H9⟩
    refine bg (Z (cZ O O) (iM O O (gQ O (fun h10 => ?_) (fun h10 => ?_))))
    ·(try simp only [aC] at h10)
     have hQ : (dn (l.getD z.toNat 0) == 0) = true := by rw [beq_iff_eq]; exact h10
     refine fG (aV (aA (bG O (Z (dP O O (by omega)) (dL O (bD (aG ?_)))))))
     refine bZ (z + 1) ?_ ?_ ?_ ?_
     ·exact ji
     ·exact ji
     ·(try dsimp only)
      first | done | exact ⟨⟨⟨by omega, by omega⟩, hz.trans (jY hz0 (by omega) hQ)⟩, H9⟩
     ·(try dsimp only); omega
    ·(try simp only [aC] at h10)
     have hQ : ¬ (dn (l.getD z.toNat 0) == 0) = true := by rw [beq_iff_eq]; exact h10
     refine bQ (aB (aB (aU (aW (bM O (dU O (dF results95 O ?_)))))))
     exact ⟨by rw [hz]; first | rw [dZ (by omega)] | rw [fM hz0 (by omega) hQ], H9⟩
   ·(try simp only [aC] at h9)
    refine bn (bn (bn (bn (bn (bn (gI O O (iy (oD (bQ (aB (aB (aU (aW (bM O (dU O (dF results95 O ?_))))))))))))))))
    exact ⟨by rw [hz]; first | rw [dZ (by omega)] | rw [fM hz0 (by omega) hQ], HM⟩
 ·(try simp only [aC] at h1)
  refine fG (aK (aV ?_))
  try have e1 : iU (fun r => bC r big == bC (l.getD x.toNat 0) big) l x = y := hy.symm.trans (by first | exact dZ (by omega) | exact fM hy0 (by omega) hP)
  refine dJ [(0, _)] (fun (z : Int) => [(1, .int .i64 z)]) (fun (z : Int) W => ((0 ≤ z ∧ z ≤ l.length) ∧ nX l x big = iU (fun r => dn r == 0) l z) ∧ V w0 W F) (fun (z : Int) => (l.length - z).toNat) (_) ji ji ⟨⟨⟨by omega, by omega⟩, by unfold nX; first | (rw [if_neg (by omega)]; done) | (rw [if_pos (by omega), if_pos hk]; done) | (rw [if_pos (by omega), if_neg hk, e1]; done)⟩, H⟩ ?_
  rintro z w10 ⟨⟨⟨hz0, hzl⟩, hz⟩, HM⟩
  dsimp only [List.cons_append, List.nil_append]
  refine aK (bM O (bG O (Z (fO (hr _ (HM)) aj O) (Z (fF O O) (iZ O (fun h11 => ?_) (fun h11 => ?_))))))
  ·(try simp only [aC] at h11)
   refine bg (bG O (bg (bG O (bg ?_))))
   obtain ⟨bv, ov, cv, ev⟩ := dR.nJ (hr _ (HM)) (by omega)
   cases ev
   refine Z (dh aj bF O O (by omega)) (bg ?_)
   refine Z (dH (bT aQ O) O (by first | exact dR.jo (hr _ (HM)) (by omega) | exact dR.qB (hr _ (HM)) (by omega) | exact dR.qx (hr _ (HM)) (by omega))) ?_
   refine bg (dX O func14 (nO HM hT) ?_)
   rintro _ ED ⟨rfl, rM⟩
   refine bg (Z (cZ O O) (iM O O (gQ O (fun h12 => ?_) (fun h12 => ?_))))
   ·(try simp only [aC] at h12)
    have hQ : (dn (l.getD z.toNat 0) == 0) = true := by rw [beq_iff_eq]; exact h12
    refine fG (aV (aA (bG O (Z (dP O O (by omega)) (dL O (bD (aG ?_)))))))
    refine bZ (z + 1) ?_ ?_ ?_ ?_
    ·exact ji
    ·exact ji
    ·(try dsimp only)
     first | done | exact ⟨⟨⟨by omega, by omega⟩, hz.trans (jY hz0 (by omega) hQ)⟩, rM⟩
    ·(try dsimp only); omega
   ·(try simp only [aC] at h12)
    have hQ : ¬ (dn (l.getD z.toNat 0) == 0) = true := by rw [beq_iff_eq]; exact h12
    refine bQ (aB (aB (aU (aW (bM O (dU O (dF results95 O ?_)))))))
    exact ⟨by rw [hz]; first | rw [dZ (by omega)] | rw [fM hz0 (by omega) hQ], rM⟩
  ·(try simp only [aC] at h11)
   refine bn (bn (bn (bn (bn (bn (gI O O (iy (oD (bQ (aB (aB (aU (aW (bM O (dU O (dF results95 O ?_))))))))))))))))
   exact ⟨by rw [hz]; first | rw [dZ (by omega)] | rw [fM hz0 (by omega) hQ], HM⟩
end
def ql (l : List Int) (x : Int) (big : Bool) : Int :=
  if 0 < ru (fun r => dn r == 0) l x then ru (fun r => bC r big == bC (l.getD (ru (fun r => dn r == 0) l x - 1).toNat 0) big) l (ru (fun r => dn r == 0) l x) else ru (fun r => dn r == 0) l x
def uD (l : List Int) (x : Int) (big : Bool) : Int :=
  if (l.length : Int) ≤ iU (fun r => dn r == 0) l (x + 1) then (l.length : Int) - 1 else iU (fun r => bC r big == bC (l.getD (iU (fun r => dn r == 0) l (x + 1)).toNat 0) big) l (iU (fun r => dn r == 0) l (x + 1) + 1) - 1
section
variable {w0 w : World} {F : HP} {r x : Int} {big : Bool} {l : List Int} {v : Value}
theorem Uj (H : V w0 w F) (hr : jE w0 F .i32 v l) (hT : zA w0) (hx0 : 0 ≤ x) (hx1 : x ≤ l.length) : ig prog 96 #[v, .int .i64 x, .bool big] w fun v' w' => v' = .int .i64 (ql l x big) ∧ V w0 w' F := by
 have SC : l.length ≤ 9223372036854775807 := by have := (hr _ H).open; obtain ⟨a, c, e, h3, h4, _⟩ := this; omega
 refine DL func96 ntmps96 ?_
 refine jy O (aK (aV ?_))
 refine dJ [(0, _), (2, _)] (fun (y : Int) => [(1, .int .i64 y)]) (fun (y : Int) W => ((0 ≤ y ∧ y ≤ l.length) ∧ ru (fun r => dn r == 0) l y = ru (fun r => dn r == 0) l x) ∧ V w0 W F) (fun (y : Int) => y.toNat) (x) mW ji ⟨⟨⟨hx0, hx1⟩, O⟩, H⟩ ?_
 rintro y w1 ⟨⟨⟨hy0, hyl⟩, hy⟩, HL⟩
 dsimp only [List.cons_append, List.nil_append]
 refine aK (bM O (Z (iw O O) (iZ O (fun h1 => ?_) (fun h1 => ?_))))
 ·(try simp only [aC] at h1)
  refine bg (bG O (bg (bG O (bg (Z (iG O O (by omega)) (bg ?_))))))
  obtain ⟨bv, ov, cv, ev⟩ := dR.nJ (hr _ (HL)) (by omega)
  cases ev
  refine Z (dh aj bF O O (by omega)) (bg ?_)
  refine Z (dH (bT aQ O) O (by first | exact dR.jo (hr _ (HL)) (by omega) | exact dR.qB (hr _ (HL)) (by omega) | exact dR.qx (hr _ (HL)) (by omega))) ?_
  refine bg (dX O func14 (nO HL hT) ?_)
  rintro _ w2 ⟨rfl, H2⟩
  refine bg (Z (cZ O O) (iM O O (gQ O (fun h2 => ?_) (fun h2 => ?_))))
  ·(try simp only [aC] at h2)
   have hP : (dn (l.getD (y - 1).toNat 0) == 0) = true := by rw [beq_iff_eq]; exact h2
   refine fG (aV (aA (bG O (Z (iG O O (by omega)) (dL O (bD (aG ?_)))))))
   refine bZ (y - 1) ?_ ?_ ?_ ?_
   ·exact ji
   ·exact mW
   ·(try dsimp only)
    first | done | exact ⟨⟨⟨by omega, by omega⟩, (zk (by omega) hyl hP).symm.trans hy⟩, H2⟩
   ·(try dsimp only); omega
  ·(try simp only [aC] at h2)
   have hP : ¬ (dn (l.getD (y - 1).toNat 0) == 0) = true := by rw [beq_iff_eq]; exact h2
   refine bQ (aB (aB (aU (aW (aK (aK ?_))))))
   have e1 : ru (fun r => dn r == 0) l x = y := hy.symm.trans (by first | exact lQ (by omega) | exact oh (by omega) hyl hP)
   refine aA (bG O (Z (iw O O) (gQ O (fun h3 => ?_) (fun h3 => ?_))))
   ·(try simp only [aC] at h3)
    refine bM O (bG O (Z (iG O O (by omega)) (Z (dh aj bF O O (by omega)) ?_)))
    refine Z (dH (bT aQ O) O (by first | exact dR.jo (hr _ (H2)) (by omega) | exact dR.qB (hr _ (H2)) (by omega) | exact dR.qx (hr _ (H2)) (by omega))) ?_
    refine bG O (dX O func142 (lW H2 hT) ?_)
    rintro _ w3 ⟨rfl, H3⟩
    refine fV O (aV ?_)
    refine dJ [(0, _), (2, _), (7, _)] (fun (z : Int) => [(1, .int .i64 z)]) (fun (z : Int) W => ((0 ≤ z ∧ z ≤ l.length) ∧ ru (fun r => bC r big == bC (l.getD (y - 1).toNat 0) big) l z = ru (fun r => bC r big == bC (l.getD (y - 1).toNat 0) big) l y) ∧ V w0 W F) (fun (z : Int) => z.toNat) (y) qC ji ⟨⟨⟨by omega, by omega⟩, O⟩, H3⟩ ?_
    rintro z w4 ⟨⟨⟨hz0, hzl⟩, hz⟩, HM⟩
    dsimp only [List.cons_append, List.nil_append]
    refine aK (bM O (Z (iw O O) (iZ O (fun h4 => ?_) (fun h4 => ?_))))
    ·(try simp only [aC] at h4)
     refine bg (bG O (bg (bG O (bg (Z (iG O O (by omega)) (bg (Z (dh aj bF O O (by omega)) (bg ?_))))))))
     refine Z (dH (bT aQ O) O (by first | exact dR.jo (hr _ (HM)) (by omega) | exact dR.qB (hr _ (HM)) (by omega) | exact dR.qx (hr _ (HM)) (by omega))) ?_
     refine bg (bG O (bg (dX O func142 (lW HM hT) ?_)))
     rintro _ w5 ⟨rfl, H5⟩
     refine bg (bG O (bg (Z (cZ O O) (iM O O (gQ O (fun h5 => ?_) (fun h5 => ?_))))))
     ·(try simp only [aC] at h5)
      have hQ : (bC (l.getD (z - 1).toNat 0) big == bC (l.getD (y - 1).toNat 0) big) = true := by rw [beq_iff_eq]; exact h5
      refine fG (aV (aA (bG O (Z (iG O O (by omega)) (dL O (bD (aG ?_)))))))
      refine bZ (z - 1) ?_ ?_ ?_ ?_
      ·exact ji
      ·exact qC
      ·(try dsimp only)
       first | done | exact ⟨⟨⟨by omega, by omega⟩, (zk (by omega) hzl hQ).symm.trans hz⟩, H5⟩
      ·(try dsimp only); omega
     ·(try simp only [aC] at h5)
      have hQ : ¬ (bC (l.getD (z - 1).toNat 0) big == bC (l.getD (y - 1).toNat 0) big) = true := by rw [beq_iff_eq]; exact h5
      refine bQ (aB (aB (aU (aW (bM O (dU O (dF results96 O ?_)))))))
      exact ⟨by unfold ql; rw [e1]; first | (rw [if_neg (by omega)]; done) | (rw [if_pos (by omega), ← hz]; first | rw [lQ (by omega)] | rw [oh (by omega) hzl hQ]), H5⟩
    ·(try simp only [aC] at h4)
     refine bn (bn (bn (bn (bn (bn (bn (bn (bn (gI O O (iy (oD (bQ (aB (aB (aU (aW (bM O (dU O (dF results96 O ?_)))))))))))))))))))
     exact ⟨by unfold ql; rw [e1]; first | (rw [if_neg (by omega)]; done) | (rw [if_pos (by omega), ← hz]; first | rw [lQ (by omega)] | rw [oh (by omega) hzl hQ]), HM⟩
   ·(try simp only [aC] at h3)
    refine fG (bM O (dU O (dF results96 O ?_)))
    exact ⟨by unfold ql; rw [e1]; first | (rw [if_neg (by omega)]; done) | (rw [if_pos (by omega), ← hz]; first | rw [lQ (by omega)] | rw [oh (by omega) hzl hQ]), H2⟩
 ·(try simp only [aC] at h1)
  refine bn (bn (bn (bn (bn (bn (bn (gI O O (iy (oD (bQ (aB (aB (aU (aW (aK (aK ?_))))))))))))))))
  have e1 : ru (fun r => dn r == 0) l x = y := hy.symm.trans (by first | exact lQ (by omega) | exact oh (by omega) hyl hP)
  refine aA (bG O (Z (iw O O) (gQ O (fun h6 => ?_) (fun h6 => ?_))))
  ·(try simp only [aC] at h6)
   refine bM O (bG O (Z (iG O O (by omega)) ?_))
   obtain ⟨bv, ov, cv, ev⟩ := dR.nJ (hr _ (HL)) (by omega)
   cases ev
   refine Z (dh aj bF O O (by omega)) ?_
   refine Z (dH (bT aQ O) O (by first | exact dR.jo (hr _ (HL)) (by omega) | exact dR.qB (hr _ (HL)) (by omega) | exact dR.qx (hr _ (HL)) (by omega))) ?_
   refine bG O (dX O func142 (lW HL hT) ?_)
   rintro _ w6 ⟨rfl, H6⟩
   refine fV O (aV ?_)
   refine dJ [(0, _), (2, _), (7, _)] (fun (z : Int) => [(1, .int .i64 z)]) (fun (z : Int) W => ((0 ≤ z ∧ z ≤ l.length) ∧ ru (fun r => bC r big == bC (l.getD (y - 1).toNat 0) big) l z = ru (fun r => bC r big == bC (l.getD (y - 1).toNat 0) big) l y) ∧ V w0 W F) (fun (z : Int) => z.toNat) (y) qC ji ⟨⟨⟨by omega, by omega⟩, O⟩, H6⟩ ?_
   rintro z w7 ⟨⟨⟨hz0, hzl⟩, hz⟩, HM⟩
   dsimp only [List.cons_append, List.nil_append]
   refine aK (bM O (Z (iw O O) (iZ O (fun h7 => ?_) (fun h7 => ?_))))
   ·(try simp only [aC] at h7)
    refine bg (bG O (bg (bG O (bg (Z (iG O O (by omega)) (bg (Z (dh aj bF O O (by omega)) (bg ?_))))))))
    refine Z (dH (bT aQ O) O (by first | exact dR.jo (hr _ (HM)) (by omega) | exact dR.qB (hr _ (HM)) (by omega) | exact dR.qx (hr _ (HM)) (by omega))) ?_
    refine bg (bG O (bg (dX O func142 (lW HM hT) ?_)))
    rintro _ w8 ⟨rfl, H8⟩
    refine bg (bG O (bg (Z (cZ O O) (iM O O (gQ O (fun h8 => ?_) (fun h8 => ?_))))))
    ·(try simp only [aC] at h8)
     have hQ : (bC (l.getD (z - 1).toNat 0) big == bC (l.getD (y - 1).toNat 0) big) = true := by rw [beq_iff_eq]; exact h8
     refine fG (aV (aA (bG O (Z (iG O O (by omega)) (dL O (bD (aG ?_)))))))
     refine bZ (z - 1) ?_ ?_ ?_ ?_
     ·exact ji
     ·exact qC
     ·(try dsimp only)
      first | done | exact ⟨⟨⟨by omega, by omega⟩, (zk (by omega) hzl hQ).symm.trans hz⟩, H8⟩
     ·(try dsimp only); omega
    ·(try simp only [aC] at h8)
     have hQ : ¬ (bC (l.getD (z - 1).toNat 0) big == bC (l.getD (y - 1).toNat 0) big) = true := by rw [beq_iff_eq]; exact h8
     refine bQ (aB (aB (aU (aW (bM O (dU O (dF results96 O ?_)))))))
     exact ⟨by unfold ql; rw [e1]; first | (rw [if_neg (by omega)]; done) | (rw [if_pos (by omega), ← hz]; first | rw [lQ (by omega)] | rw [oh (by omega) hzl hQ]), H8⟩
   ·(try simp only [aC] at h7)
    refine bn (bn (bn (bn (bn (bn (bn (bn (bn (gI O O (iy (oD (bQ (aB (aB (aU (aW (bM O (dU O (dF results96 O ?_)))))))))))))))))))
    exact ⟨by unfold ql; rw [e1]; first | (rw [if_neg (by omega)]; done) | (rw [if_pos (by omega), ← hz]; first | rw [lQ (by omega)] | rw [oh (by omega) hzl hQ]), HM⟩
  ·(try simp only [aC] at h6)
   refine fG (bM O (dU O (dF results96 O ?_)))
   exact ⟨by unfold ql; rw [e1]; first | (rw [if_neg (by omega)]; done) | (rw [if_pos (by omega), ← hz]; first | rw [lQ (by omega)] | rw [oh (by omega) hzl hQ]), HL⟩
theorem WE (H : V w0 w F) (hr : jE w0 F .i32 v l) (hT : zA w0) (hx0 : 0 ≤ x) (hx1 : x ≤ l.length) (Va : l.length ≤ 4611686018427387904) : ig prog 97 #[v, .int .i64 x, .bool big] w fun v' w' => v' = .int .i64 (uD l x big) ∧ V w0 w' F := by
 refine DL func97 ntmps97 ?_
 refine jy O (bM O (Z (dP O O (by omega)) (tX O (aV ?_))))
 refine dJ [(0, _), (2, _)] (fun (y : Int) => [(1, .int .i64 y)]) (fun (y : Int) W => ((0 ≤ y ∧ y ≤ l.length + 1) ∧ iU (fun r => dn r == 0) l y = iU (fun r => dn r == 0) l (x + 1)) ∧ V w0 W F) (fun (y : Int) => (l.length + 1 - y).toNat) (x + 1) mW ji ⟨⟨⟨by omega, by omega⟩, O⟩, H⟩ ?_
 rintro y w1 ⟨⟨⟨hy0, hyl⟩, hy⟩, HL⟩
 dsimp only [List.cons_append, List.nil_append]
 refine aK (bM O (bG O (Z (fO (hr _ (HL)) aj O) (Z (fF O O) (iZ O (fun h1 => ?_) (fun h1 => ?_))))))
 ·(try simp only [aC] at h1)
  refine bg (bG O (bg (bG O (bg ?_))))
  obtain ⟨bv, ov, cv, ev⟩ := dR.nJ (hr _ (HL)) (by omega)
  cases ev
  refine Z (dh aj bF O O (by omega)) (bg ?_)
  refine Z (dH (bT aQ O) O (by first | exact dR.jo (hr _ (HL)) (by omega) | exact dR.qB (hr _ (HL)) (by omega) | exact dR.qx (hr _ (HL)) (by omega))) ?_
  refine bg (dX O func14 (nO HL hT) ?_)
  rintro _ w2 ⟨rfl, H2⟩
  refine bg (Z (cZ O O) (iM O O (gQ O (fun h2 => ?_) (fun h2 => ?_))))
  ·(try simp only [aC] at h2)
   have hP : (dn (l.getD y.toNat 0) == 0) = true := by rw [beq_iff_eq]; exact h2
   refine fG (aV (aA (bG O (Z (dP O O (by omega)) (dL O (bD (aG ?_)))))))
   refine bZ (y + 1) ?_ ?_ ?_ ?_
   ·exact ji
   ·exact mW
   ·(try dsimp only)
    first | done | exact ⟨⟨⟨by omega, by omega⟩, (jY hy0 (by omega) hP).symm.trans hy⟩, H2⟩
   ·(try dsimp only); omega
  ·(try simp only [aC] at h2)
   have hP : ¬ (dn (l.getD y.toNat 0) == 0) = true := by rw [beq_iff_eq]; exact h2
   refine bQ (aB (aB (aU (aW (aK (aK ?_))))))
   have e1 : iU (fun r => dn r == 0) l (x + 1) = y := hy.symm.trans (by first | exact dZ (by omega) | exact fM hy0 (by omega) hP)
   refine aA (jr O O (Z (jZ aj O) (Z (jw O O) (gQ O (fun h3 => ?_) (fun h3 => ?_)))))
   ·(try simp only [aC] at h3)
    refine bM O (Z (jZ aj O) (Z (iG O O (by omega)) (dU O (ay (dF results97 O ?_)))))
    exact ⟨by unfold uD; rw [e1, if_pos (by omega)], H2⟩
   ·(try simp only [aC] at h3)
    refine fG (bM O (bG O (Z (dh aj bF O O (by omega)) ?_)))
    refine Z (dH (bT aQ O) O (by first | exact dR.jo (hr _ (H2)) (by omega) | exact dR.qB (hr _ (H2)) (by omega) | exact dR.qx (hr _ (H2)) (by omega))) ?_
    refine bG O (dX O func142 (lW H2 hT) ?_)
    rintro _ w3 ⟨rfl, H3⟩
    refine tX O (aV ?_)
    refine dJ [(0, _), (2, _), (7, _)] (fun (z : Int) => [(1, .int .i64 z)]) (fun (z : Int) W => ((0 ≤ z ∧ z < l.length) ∧ iU (fun r => bC r big == bC (l.getD y.toNat 0) big) l (z + 1) = iU (fun r => bC r big == bC (l.getD y.toNat 0) big) l (y + 1)) ∧ V w0 W F) (fun (z : Int) => (l.length - z).toNat) (y) qC ji ⟨⟨⟨by omega, by omega⟩, O⟩, H3⟩ ?_
    rintro z w4 ⟨⟨⟨hz0, hzl⟩, hz⟩, HM⟩
    dsimp only [List.cons_append, List.nil_append]
    refine aK (bM O (Z (dP O O (by omega)) (bG O (Z (jZ aj O) (Z (fF O O) (iZ O (fun h4 => ?_) (fun h4 => ?_)))))))
    ·(try simp only [aC] at h4)
     refine bg (bG O (bg (bG O (bg (Z (dP O O (by omega)) (bg (Z (dh aj bF O O (by omega)) (bg ?_))))))))
     refine Z (dH (bT aQ O) O (by first | exact dR.jo (hr _ (HM)) (by omega) | exact dR.qB (hr _ (HM)) (by omega) | exact dR.qx (hr _ (HM)) (by omega))) ?_
     refine bg (bG O (bg (dX O func142 (lW HM hT) ?_)))
     rintro _ w5 ⟨rfl, H5⟩
     refine bg (bG O (bg (Z (cZ O O) (iM O O (gQ O (fun h5 => ?_) (fun h5 => ?_))))))
     ·(try simp only [aC] at h5)
      have hQ : (bC (l.getD (z + 1).toNat 0) big == bC (l.getD y.toNat 0) big) = true := by rw [beq_iff_eq]; exact h5
      refine fG (aV (aA (bG O (Z (dP O O (by omega)) (dL O (bD (aG ?_)))))))
      refine bZ (z + 1) ?_ ?_ ?_ ?_
      ·exact ji
      ·exact qC
      ·(try dsimp only)
       first | done | exact ⟨⟨⟨by omega, by omega⟩, (jY (by omega) (by omega) hQ).symm.trans hz⟩, H5⟩
      ·(try dsimp only); omega
     ·(try simp only [aC] at h5)
      have hQ : ¬ (bC (l.getD (z + 1).toNat 0) big == bC (l.getD y.toNat 0) big) = true := by rw [beq_iff_eq]; exact h5
      refine bQ (aB (aB (aU (aW (bM O (dU O (dF results97 O ?_)))))))
      exact ⟨by unfold uD; rw [e1, if_neg (by omega), ← hz]; first | (rw [dZ (by omega)]; congr 1; omega) | (rw [fM (by omega) (by omega) hQ]; congr 1; omega), H5⟩
    ·(try simp only [aC] at h4)
     refine bn (bn (bn (bn (bn (bn (bn (bn (bn (gI O O (iy (oD (bQ (aB (aB (aU (aW (bM O (dU O (dF results97 O ?_)))))))))))))))))))
     exact ⟨by unfold uD; rw [e1, if_neg (by omega), ← hz]; first | (rw [dZ (by omega)]; congr 1; omega) | (rw [fM (by omega) (by omega) hQ]; congr 1; omega), HM⟩
 ·(try simp only [aC] at h1)
  refine bn (bn (bn (bn (bn (bn (gI O O (iy (oD (bQ (aB (aB (aU (aW (aK (aK ?_)))))))))))))))
  have e1 : iU (fun r => dn r == 0) l (x + 1) = y := hy.symm.trans (by first | exact dZ (by omega) | exact fM hy0 (by omega) hP)
  refine aA (jr O O (Z (fO (hr _ (HL)) aj O) (Z (jw O O) (gQ O (fun h6 => ?_) (fun h6 => ?_)))))
  ·(try simp only [aC] at h6)
   refine bM O (Z (fO (hr _ (HL)) aj O) (Z (iG O O (by omega)) (dU O (ay (dF results97 O ?_)))))
   exact ⟨by unfold uD; rw [e1, if_pos (by omega)], HL⟩
  ·(try simp only [aC] at h6)
   refine fG (bM O (bG O ?_))
   obtain ⟨bv, ov, cv, ev⟩ := dR.nJ (hr _ (HL)) (by omega)
   cases ev
   refine Z (dh aj bF O O (by omega)) ?_
   refine Z (dH (bT aQ O) O (by first | exact dR.jo (hr _ (HL)) (by omega) | exact dR.qB (hr _ (HL)) (by omega) | exact dR.qx (hr _ (HL)) (by omega))) ?_
   refine bG O (dX O func142 (lW HL hT) ?_)
   rintro _ w6 ⟨rfl, H6⟩
   refine tX O (aV ?_)
   refine dJ [(0, _), (2, _), (7, _)] (fun (z : Int) => [(1, .int .i64 z)]) (fun (z : Int) W => ((0 ≤ z ∧ z < l.length) ∧ iU (fun r => bC r big == bC (l.getD y.toNat 0) big) l (z + 1) = iU (fun r => bC r big == bC (l.getD y.toNat 0) big) l (y + 1)) ∧ V w0 W F) (fun (z : Int) => (l.length - z).toNat) (y) qC ji ⟨⟨⟨by omega, by omega⟩, O⟩, H6⟩ ?_
   rintro z w7 ⟨⟨⟨hz0, hzl⟩, hz⟩, HM⟩
   dsimp only [List.cons_append, List.nil_append]
   refine aK (bM O (Z (dP O O (by omega)) (bG O (Z (jZ aj O) (Z (fF O O) (iZ O (fun h7 => ?_) (fun h7 => ?_)))))))
   ·(try simp only [aC] at h7)
    refine bg (bG O (bg (bG O (bg (Z (dP O O (by omega)) (bg (Z (dh aj bF O O (by omega)) (bg ?_))))))))
    refine Z (dH (bT aQ O) O (by first | exact dR.jo (hr _ (HM)) (by omega) | exact dR.qB (hr _ (HM)) (by omega) | exact dR.qx (hr _ (HM)) (by omega))) ?_
    refine bg (bG O (bg (dX O func142 (lW HM hT) ?_)))
    rintro _ w8 ⟨rfl, H8⟩
    refine bg (bG O (bg (Z (cZ O O) (iM O O (gQ O (fun h8 => ?_) (fun h8 => ?_))))))
    ·(try simp only [aC] at h8)
     have hQ : (bC (l.getD (z + 1).toNat 0) big == bC (l.getD y.toNat 0) big) = true := by rw [beq_iff_eq]; exact h8
     refine fG (aV (aA (bG O (Z (dP O O (by omega)) (dL O (bD (aG ?_)))))))
     refine bZ (z + 1) ?_ ?_ ?_ ?_
     ·exact ji
     ·exact qC
     ·(try dsimp only)
      first | done | exact ⟨⟨⟨by omega, by omega⟩, (jY (by omega) (by omega) hQ).symm.trans hz⟩, H8⟩
     ·(try dsimp only); omega
    ·(try simp only [aC] at h8)
     have hQ : ¬ (bC (l.getD (z + 1).toNat 0) big == bC (l.getD y.toNat 0) big) = true := by rw [beq_iff_eq]; exact h8
     refine bQ (aB (aB (aU (aW (bM O (dU O (dF results97 O ?_)))))))
     exact ⟨by unfold uD; rw [e1, if_neg (by omega), ← hz]; first | (rw [dZ (by omega)]; congr 1; omega) | (rw [fM (by omega) (by omega) hQ]; congr 1; omega), H8⟩
   ·(try simp only [aC] at h7)
    refine bn (bn (bn (bn (bn (bn (bn (bn (bn (gI O O (iy (oD (bQ (aB (aB (aU (aW (bM O (dU O (dF results97 O ?_)))))))))))))))))))
    exact ⟨by unfold uD; rw [e1, if_neg (by omega), ← hz]; first | (rw [dZ (by omega)]; congr 1; omega) | (rw [fM (by omega) (by omega) hQ]; congr 1; omega), HM⟩
end
end Go.Proofs.YtpdeedplgmbopaaGreatDoor
end
section
namespace Go.Proofs.YtpdeedplgmbopaaGreatDoor
open Go.RowKit
def Iu (f : Int → Int → Option Int) : Int → List Int → Option Int
  | _, [] => none
  | s, x :: l => match f s x with
    | none => some 0
    | some t => (Iu f t l).map (· + 1)
def pJ (st : Int) (f : Int → Int → Option Int) (l : List Int) (s i : Int) : Option Int :=
  if 0 ≤ i ∧ i < l.length then (if st = 1 then (Iu f s (l.drop i.toNat)).map (i + ·) else (Iu f s (l.take (i.toNat + 1)).reverse).map (i - ·)) else none
section
variable {st s t i : Int} {f : Int → Int → Option Int} {l : List Int}
theorem lF (h : ¬ (0 ≤ i ∧ i < l.length)) : pJ st f l s i = none := if_neg h
theorem KE (h0 : 0 ≤ i) (h1 : i < l.length) : (l.take (i.toNat + 1)).reverse = l.getD i.toNat 0 :: (l.take i.toNat).reverse := by
  rw [List.take_succ_eq_append_getElem (by omega), List.reverse_append, List.getD_eq_getElem?_getD, List.getElem?_eq_getElem (by omega)]
  rfl
theorem SE (h0 : 0 ≤ i) (h1 : i < l.length) : l.drop i.toNat = l.getD i.toNat 0 :: l.drop (i.toNat + 1) := by
  rw [List.drop_eq_getElem_cons (by omega), List.getD_eq_getElem?_getD, List.getElem?_eq_getElem (by omega)]
  rfl
theorem qU (h0 : 0 ≤ i) (h1 : i < l.length) (hf : f s (l.getD i.toNat 0) = none) : pJ st f l s i = some i := by
  unfold pJ
  rw [if_pos ⟨h0, h1⟩, SE h0 h1, KE h0 h1, Iu, Iu, hf]
  split <;> simp
theorem tJ (hst : st = 1 ∨ st = -1) (h0 : 0 ≤ i) (h1 : i < l.length) (hf : f s (l.getD i.toNat 0) = some t) : pJ st f l s i = pJ st f l t (i + st) := by
  unfold pJ
  rw [if_pos ⟨h0, h1⟩, SE h0 h1, KE h0 h1, Iu, Iu, hf]
  dsimp only
  rcases hst with rfl | rfl
  · rw [if_pos rfl, if_pos rfl]
    by_cases h2 : i + 1 < l.length
    · rw [if_pos ⟨by omega, h2⟩, show (i + 1).toNat = i.toNat + 1 from by omega, Option.map_map]
      congr 1
      funext x
      simp; omega
    · rw [if_neg (by omega), List.drop_of_length_le (by omega)]
      rfl
  · rw [if_neg (show ¬ ((-1 : Int) = 1) by decide), if_neg (show ¬ ((-1 : Int) = 1) by decide)]
    by_cases h2 : 0 < i
    · rw [if_pos ⟨by omega, by omega⟩, show (i + -1).toNat + 1 = i.toNat from by omega, Option.map_map]
      congr 1
      funext x
      simp; omega
    · rw [if_neg (by omega), show i.toNat = 0 from by omega]
      rfl
end
def xC (c : Int) (n x : Int) : Option Int := if x = c then (if n ≤ 1 then none else some (n - 1)) else some n
def A8 (a b : Int) (d x : Int) : Option Int := if d + (if x = a then 1 else 0) - (if x = b then 1 else 0) = 0 then none else some (d + (if x = a then 1 else 0) - (if x = b then 1 else 0))
def qX (g : Int → Int) : Nat → Int → Int
  | 0, x => x
  | n + 1, x => if g x = x then x else qX g n (g x)
def rG (g : Int → Int) : Nat → Int → Int
  | 0, x => x
  | n + 1, x => rG g n (g x)
section
variable {g : Int → Int}
theorem Iw {n : Nat} {x : Int} (h : g x = x) : qX g n x = x := by cases n with
  | zero => rfl
  | succ n => rw [qX, if_pos h]
theorem QE {n : Nat} {x : Int} (hn : 0 < n) (h : ¬ g x = x) : qX g n x = qX g (n - 1) (g x) := by
  obtain ⟨m, rfl⟩ : ∃ m, n = m + 1 := ⟨n - 1, by omega⟩
  rw [qX, if_neg h]; rfl
theorem Eb {x : Int} (h : g x = x) : ∀ n, rG g n x = x
  | 0 => rfl
  | n + 1 => by rw [rG, h]; exact Eb h n
theorem Iy : ∀ (n : Nat) (x : Int), qX g n x = rG g n x
  | 0, x => rfl
  | n + 1, x => by
    rw [qX]
    by_cases h : g x = x
    · rw [if_pos h, Eb h]
    · rw [if_neg h, Iy n]; rfl
theorem WG (m n : Nat) (x : Int) : rG g (m + n) x = rG g n (rG g m x) := by
  induction m generalizing x with
  | zero => rw [Nat.zero_add]; rfl
  | succ m ih => rw [Nat.succ_add]; exact ih (g x)
theorem Iz {I : Int → Prop} {μ : Int → Nat} (hI : ∀ x, I x → I (g x)) (hμ : ∀ x, I x → g x ≠ x → μ (g x) < μ x) : ∀ (N : Nat) (x : Int), I x → μ x ≤ N → g (rG g N x) = rG g N x
  | 0, x, h, hN => by
    by_cases e : g x = x
    · exact e
    · have := hμ x h e; omega
  | N + 1, x, h, hN => by
    by_cases e : g x = x
    · rw [Eb e, e]
    · have := hμ x h e
      exact Iz hI hμ N (g x) (hI x h) (by omega)
theorem ES {I : Int → Prop} {μ : Int → Nat} (hI : ∀ x, I x → I (g x)) (hμ : ∀ x, I x → g x ≠ x → μ (g x) < μ x) {N n : Nat} {x : Int} (h : I x) (hN : μ x ≤ N) : qX g n x = rG g (min n N) x := by
  rw [Iy]
  by_cases hn : n ≤ N
  · rw [Nat.min_eq_left hn]
  · rw [Nat.min_eq_right (by omega), show n = N + (n - N) from by omega, WG, Eb (Iz hI hμ N x h hN)]
end
section
variable {l : List Int} {x : Int} {big : Bool}
theorem Ba (l : List Int) {x : Int} (big : Bool) (h0 : 0 ≤ x) (h1 : x ≤ l.length) : x ≤ nX l x big ∧ nX l x big ≤ l.length := by
  unfold nX
  by_cases h2 : x < l.length
  · rw [if_pos h2]
    by_cases h3 : bC (l.getD x.toNat 0) big = 0
    · rw [if_pos h3]; exact rU h0 h1
    · rw [if_neg h3]
      have h4 := rU (P := fun r => bC r big == bC (l.getD x.toNat 0) big) h0 h1
      have h5 := rU (P := fun r => dn r == 0) (l := l) (x := iU (fun r => bC r big == bC (l.getD x.toNat 0) big) l x) (by omega) h4.2
      omega
  · rw [if_neg h2]; exact rU h0 h1
theorem Bc (l : List Int) {x : Int} (big : Bool) (h0 : 0 ≤ x) (h1 : x ≤ l.length) : 0 ≤ ql l x big ∧ ql l x big ≤ x := by
  unfold ql
  have h2 := Ir (P := fun r => dn r == 0) h0 h1
  split
  · have h3 := Ir (P := fun r => bC r big == bC (l.getD (ru (fun r => dn r == 0) l x - 1).toNat 0) big) (l := l) (x := ru (fun r => dn r == 0) l x) h2.1 (by omega)
    omega
  · exact h2
theorem BN (l : List Int) {x : Int} (big : Bool) (h0 : 0 ≤ x) (h1 : x < l.length) : x ≤ uD l x big ∧ uD l x big < l.length := by
  unfold uD
  by_cases h9 : (l.length : Int) ≤ x + 1
  · rw [dZ h9, if_pos h9]; omega
  · have h2 := rU (P := fun r => dn r == 0) (l := l) (x := x + 1) (by omega) (by omega)
    split
    · omega
    · have h3 := rU (P := fun r => bC r big == bC (l.getD (iU (fun r => dn r == 0) l (x + 1)).toNat 0) big) (l := l) (x := iU (fun r => dn r == 0) l (x + 1) + 1) (by omega) (by omega)
      omega
theorem Uk {n : Nat} (h0 : 0 ≤ x) (h1 : x ≤ l.length) : qX (fun y => nX l y big) n x = rG (fun y => nX l y big) (min n (l.length + 1)) x :=
  ES (I := fun y => 0 ≤ y ∧ y ≤ l.length) (μ := fun y => ((l.length : Int) - y).toNat) (fun y h => ⟨by have := Ba l big h.1 h.2; omega, (Ba l big h.1 h.2).2⟩) (fun y h e => by have := Ba l big h.1 h.2; omega) ⟨h0, h1⟩ (by omega)
theorem Ul {n : Nat} (h0 : 0 ≤ x) (h1 : x ≤ l.length) : qX (fun y => ql l y big) n x = rG (fun y => ql l y big) (min n (l.length + 1)) x :=
  ES (I := fun y => 0 ≤ y ∧ y ≤ l.length) (μ := fun y => y.toNat) (fun y h => ⟨(Bc l big h.1 h.2).1, by have := Bc l big h.1 h.2; omega⟩) (fun y h e => by have := Bc l big h.1 h.2; omega) ⟨h0, h1⟩ (by omega)
theorem WH {n : Nat} (h0 : 0 ≤ x) (h1 : x < l.length) : qX (fun y => uD l y big) n x = rG (fun y => uD l y big) (min n (l.length + 1)) x :=
  ES (I := fun y => 0 ≤ y ∧ y < l.length) (μ := fun y => ((l.length : Int) - y).toNat) (fun y h => ⟨by have := BN l big h.1 h.2; omega, (BN l big h.1 h.2).2⟩) (fun y h e => by have := BN l big h.1 h.2; omega) ⟨h0, h1⟩ (by omega)
end
def ku (key : Int) : Int := if key = 70 ∨ key = 84 then -1 else 1
def nP (l : List Int) (x key c n : Int) : Int × Bool × Bool := match pJ (ku key) (xC c) l n (x + ku key) with
  | none => (0, false, false)
  | some i => (if key = 116 ∨ key = 84 then i - ku key else i, decide (0 < ku key), true)
def qo (r : Int) : Bool := r == 40 || r == 91 || r == 123 || r == 41 || r == 93 || r == 125
def wo (r : Int) : Int := if r = 40 ∨ r = 91 ∨ r = 123 then 1 else -1
def sJ (r : Int) : Int := if r = 40 then 41 else if r = 41 then 40 else if r = 91 then 93 else if r = 93 then 91 else if r = 123 then 125 else 123
def oL (l : List Int) (x : Int) : Int × Bool × Bool :=
  if (l.length : Int) ≤ iU (fun r => !qo r) l x then (0, false, false) else
  match pJ (wo (l.getD (iU (fun r => !qo r) l x).toNat 0)) (A8 (l.getD (iU (fun r => !qo r) l x).toNat 0) (sJ (l.getD (iU (fun r => !qo r) l x).toNat 0))) l 0 (iU (fun r => !qo r) l x) with
  | none => (0, false, false)
  | some j => (j, true, true)
def kZ (l : List Int) (x key n : Int) : Int × Bool × Bool :=
  if key = 119 ∨ key = 87 then (if x < l.length then (qX (fun y => nX l y (key == 87)) n.toNat x, false, true) else (0, false, false))
  else if key = 98 ∨ key = 66 then (if 0 < x then (qX (fun y => ql l y (key == 66)) n.toNat x, false, true) else (0, false, false))
  else if key = 101 ∨ key = 69 then (if x < l.length - 1 then (qX (fun y => uD l y (key == 69)) n.toNat x, true, true) else (0, false, false))
  else (0, false, false)
def gB (l : List Int) (x key c n : Int) : Int × Bool × Bool :=
  if key = 104 then (if x = 0 then (0, false, false) else (x - min n x, false, true))
  else if key = 108 ∨ key = 32 then (if x = l.length then (0, false, false) else (x + min n (l.length - x), false, true))
  else if key = 48 then (0, false, true)
  else if key = 36 then (l.length, false, true)
  else if key = 94 then (iU (fun r => dn r == 0) l 0, false, true)
  else if key = 124 then (min (n - 1) l.length, false, true)
  else if key = 102 ∨ key = 70 ∨ key = 116 ∨ key = 84 then nP l x key c n
  else if key = 37 then oL l x
  else kZ l x key n
def tK (l : List Int) (x key c n : Int) : Int × Bool × Bool := gB l (min (max x 0) l.length) key c (max n 1)
def F7 (q : Int × Bool × Bool) : Value := .tuple #[.int .i64 q.1, .bool q.2.1, .bool q.2.2]
section
variable {P : Program} {L : List (Nat × Value)} {w : World} {ty t t' : TypeId} {x y : Operand} {k k2 : IntKind} {m n : Int}
theorem YW (o : BinOp) (hx : ev L x = some (.int k m)) (hy : ev L y = some (.int k n)) (ho : o = .and ∨ o = .or ∨ o = .xor ∨ o = .andNot) : Val P L (.binOp o t x y t') ty w (.int k (bits o k m n)) w :=
  aaw o hx hy ho (by rcases ho with rfl | rfl | rfl | rfl <;> rfl)
theorem oq {n : Int} (h : -2147483648 ≤ n ∧ n < 2147483648) : IntKind.i32.wrap n = n := by rw [IntKind.wrap_i32]; omega
theorem SG {n : Int} (h : -9223372036854775808 ≤ n ∧ n < 9223372036854775808) : IntKind.i64.wrap n = n := by rw [IntKind.wrap_i64]; omega
theorem KF {src dst : TypeId} (hx : ev L x = some (.int k m)) (hs : (P.underlying src).isSome = true) (hd : P.underlying dst = some (.int .u8)) : Val P L (.convert src dst x) ty w (.int .u8 (m % 256)) w := fun ρ hρ _ _ _ _ => by
  obtain ⟨ds, hs'⟩ := Option.isSome_iff_exists.1 hs
  simp only [execOp, hρ _ _ hx]
  simp [convert, run_underlying hs', run_underlying hd, Conv.intToInt, IntKind.wrap_u8]
end
end Go.Proofs.YtpdeedplgmbopaaGreatDoor
end
section
namespace Go.Proofs.YtpdeedplgmbopaaGreatDoor
open Go.RowKit
open _root_.Go.Proofs.Tryz
def WI (k : Int) : Bool := decide (48 ≤ k) && decide (k ≤ 57)
def wL (l : List Int) : List Int := if l.getD 0 0 = 48 then [] else l.takeWhile WI
def IB (n k : Int) : Int := min (n * 10 + (k - 48)) 1000000
def acy (l : List Int) : Int := (wL l).foldl IB 0
def lI (l : List Int) : List Int := l.drop (wL l).length
theorem acz {p : Int → Bool} {l : List Int} : ∀ {i : Nat}, i ≤ (l.takeWhile p).length → (i < (l.takeWhile p).length ↔ (i < l.length ∧ p (l.getD i 0) = true)) := by
  induction l with
  | nil => intro i h; simp
  | cons x l ih =>
    intro i h
    rw [List.takeWhile_cons] at h ⊢
    by_cases hx : p x = true
    · rw [if_pos hx] at h ⊢
      cases i with
      | zero => simp [hx]
      | succ i =>
        rw [List.length_cons] at h
        have := ih (i := i) (by omega)
        rw [List.length_cons, List.length_cons, List.getD_cons_succ, Nat.add_lt_add_iff_right, Nat.add_lt_add_iff_right]
        exact this
    · rw [if_neg hx] at h ⊢
      have : i = 0 := by simpa using h
      subst this
      simp [hx]
theorem aaU {p : Int → Bool} {l : List Int} {i : Nat} (h : i < (l.takeWhile p).length) : (l.takeWhile p).getD i 0 = l.getD i 0 := by
  induction l generalizing i with
  | nil => simp at h
  | cons x l ih =>
    rw [List.takeWhile_cons] at h ⊢
    by_cases hx : p x = true
    · rw [if_pos hx] at h ⊢
      cases i with
      | zero => rfl
      | succ i => rw [List.length_cons] at h; rw [List.getD_cons_succ, List.getD_cons_succ]; exact ih (by omega)
    · rw [if_neg hx] at h; simp at h
section
variable {l : List Int} {i : Nat}
theorem aaV (h : i ≤ (wL l).length) : i < (wL l).length ↔ ((i : Int) < l.length ∧ 48 ≤ l.getD i 0 ∧ l.getD i 0 ≤ 57 ∧ (0 < i ∨ ¬ l.getD i 0 = 48)) := by
  unfold wL at h ⊢
  by_cases h0 : l.getD 0 0 = 48
  · rw [if_pos h0] at h ⊢
    have : i = 0 := by simpa using h
    subst this
    constructor
    · intro h9; simp at h9
    · rintro ⟨_, _, _, h9 | h9⟩
      · omega
      · exact absurd h0 h9
  · rw [if_neg h0] at h ⊢
    rw [acz h]
    unfold WI
    rw [Bool.and_eq_true, decide_eq_true_iff, decide_eq_true_iff]
    have h1 : 0 < i ∨ ¬ l.getD i 0 = 48 := by
      cases i with
      | zero => exact .inr h0
      | succ i => exact .inl (by omega)
    omega
theorem YX (h : i < (wL l).length) : (wL l).getD i 0 = l.getD i 0 := by
  unfold wL at h ⊢
  by_cases h0 : l.getD 0 0 = 48
  · rw [if_pos h0] at h; simp at h
  · rw [if_neg h0] at h ⊢; exact aaU h
theorem Oz (h : i < (wL l).length) : ((wL l).take (i + 1)).foldl IB 0 = IB (((wL l).take i).foldl IB 0) (l.getD i 0) := by
  rw [List.take_succ_eq_append_getElem h, List.foldl_append, ← YX h, List.getD_eq_getElem?_getD, List.getElem?_eq_getElem h]
  rfl
theorem Gu : ((wL l).take (wL l).length).foldl IB 0 = acy l := by rw [List.take_length]; rfl
theorem SH {n k : Int} (h : 0 ≤ n ∧ n ≤ 1000000) (hk : 48 ≤ k ∧ k ≤ 57) : 0 ≤ IB n k ∧ IB n k ≤ 1000000 := by unfold IB; omega
theorem aaW : (wL l).length ≤ l.length := by
  unfold wL; split
  · simp
  · exact (List.takeWhile_sublist WI).length_le
end
section
variable {w0 w : World} {F : HP} {v : Value} {l : List Int}
theorem L9 (H : V w0 w F) (hr : jE w0 F .i32 v l) : ig prog 51 #[v] w fun u w' => ∃ kv, u = .tuple #[kv, .int .i64 (acy l)] ∧ jE w0 F .i32 kv (lI l) ∧ V w0 w' F := by
 have SC : l.length ≤ 9223372036854775807 := by have := (hr _ H).open; obtain ⟨a, c, e, h3, h4, _⟩ := this; omega
 have hcl := aaW (l := l)
 refine iK func51 ntmps51 ?_
 refine gW (dL O (fV O (gW (dL O (tX O (aV ?_))))))
 refine dJ [(0, _)] (fun (⟨i, n⟩ : Nat × Int) => [(4, .int .i64 n), (5, .int .i64 (i : Int))]) (fun (⟨i, n⟩ : Nat × Int) W => (i ≤ (wL l).length ∧ (0 ≤ n ∧ n ≤ 1000000) ∧ n = ((wL l).take i).foldl IB 0) ∧ V w0 W F) (fun (⟨i, n⟩ : Nat × Int) => (wL l).length - i) ((0, 0)) ji mW ⟨⟨by omega, by omega, O⟩, H⟩ ?_
 rintro ⟨i, n⟩ w1 ⟨⟨hi, hn, hE⟩, HL⟩
 dsimp only [List.cons_append, List.nil_append]
 have hca := aaV (l := l) hi
 refine aK (bM O (bG O (Z (fO (hr _ (HL)) aj O) (Z (fF O O) (iZ O (fun h1 => ?_) (fun h1 => ?_))))))
 ·(try simp only [aC] at h1)
  refine bg (bG O (bg (bG O (bg ?_))))
  obtain ⟨bv, ov, cv, ev⟩ := dR.nJ (hr _ (HL)) (by omega)
  cases ev
  refine Z (dh aj bF O O (by omega)) (bg ?_)
  refine Z (dH (bT aQ O) O (by first | exact dR.jo (hr _ (HL)) (by omega) | exact dR.qB (hr _ (HL)) (by omega) | exact dR.qx (hr _ (HL)) (by omega))) ?_
  refine bg (Z (jw O O) (iM O O (iZ O (fun h2 => ?_) (fun h2 => ?_))))
  ·(try simp only [aC] at h2)
   refine bg (bG O (bg (bG O (bg (Z (dh aj bF O O (by omega)) (bg ?_))))))
   refine Z (dH (bT aQ O) O (by first | exact dR.jo (hr _ (HL)) (by omega) | exact dR.qB (hr _ (HL)) (by omega) | exact dR.qx (hr _ (HL)) (by omega))) ?_
   refine bg (Z (oC O O) (iM O O (iZ O (fun h3 => ?_) (fun h3 => ?_))))
   ·(try simp only [aC] at h3)
    refine bg (bG O (bg (Z (iw O O) (bg (iZ O (fun h4 => ?_) (fun h4 => ?_))))))
    ·(try simp only [aC] at h4)
     refine bn (bn (bn (bn (bn (bg (iM O O (iM O O (iy (DC (fG (aV (aK ?_))))))))))))
     have hlt : i < (wL l).length := by omega
     refine aA (bG O (Z (ZB O O (by omega)) (jr O O (Z (dh aj bF O O (by omega)) ?_))))
     refine Z (dH (bT aQ O) O (by first | exact dR.jo (hr _ (HL)) (by omega) | exact dR.qB (hr _ (HL)) (by omega) | exact dR.qx (hr _ (HL)) (by omega))) ?_
     refine Z (Jq (Vh O O) (congrArg (Value.int .i32) (oq (by omega)))) ?_
     refine Z (jG O (by rw [underlying21]; rfl) aP (SG (by omega))) ?_
     refine Z (dP O O (by omega)) (Z (xY O O) (fV O (aA (bG O (Z (dP O O (by omega)) (dL O (bD (aG ?_))))))))
     refine bZ ((i + 1, IB n (l.getD i 0))) ?_ ?_ ?_ ?_
     ·exact mW
     ·exact ji
     ·(try dsimp only)
      first | done | exact ⟨⟨by omega, SH hn (by omega), by rw [Oz hlt, ← hE]⟩, HL⟩
     ·(try dsimp only); omega
    ·(try simp only [aC] at h4)
     refine bg (bG O (bg (bG O (bg (Z (dh aj bF O O (by omega)) (bg ?_))))))
     refine Z (dH (bT aQ O) O (by first | exact dR.jo (hr _ (HL)) (by omega) | exact dR.qB (hr _ (HL)) (by omega) | exact dR.qx (hr _ (HL)) (by omega))) ?_
     refine bg (Z (jv O O) (bg (gI O O (iM O O (gQ O (fun h5 => ?_) (fun h5 => ?_))))))
     ·(try simp only [aC] at h5)
      refine fG (aV (aK ?_))
      have hlt : i < (wL l).length := by omega
      refine aA (bG O (Z (ZB O O (by omega)) (jr O O (Z (dh aj bF O O (by omega)) ?_))))
      refine Z (dH (bT aQ O) O (by first | exact dR.jo (hr _ (HL)) (by omega) | exact dR.qB (hr _ (HL)) (by omega) | exact dR.qx (hr _ (HL)) (by omega))) ?_
      refine Z (Jq (Vh O O) (congrArg (Value.int .i32) (oq (by omega)))) ?_
      refine Z (jG O (by rw [underlying21]; rfl) aP (SG (by omega))) ?_
      refine Z (dP O O (by omega)) (Z (xY O O) (fV O (aA (bG O (Z (dP O O (by omega)) (dL O (bD (aG ?_))))))))
      refine bZ ((i + 1, IB n (l.getD i 0))) ?_ ?_ ?_ ?_
      ·exact mW
      ·exact ji
      ·(try dsimp only)
       first | done | exact ⟨⟨by omega, SH hn (by omega), by rw [Oz hlt, ← hE]⟩, HL⟩
      ·(try dsimp only); omega
     ·(try simp only [aC] at h5)
      refine bQ (aB (aB (aU (aW (aK ?_)))))
      have hlt : i = (wL l).length := by omega
      refine aA (jr O O (Z (y5 (hr _ (HL)) aj bF O O O (by omega)) ?_))
      refine bG O (dL O (dU O (Az results51 O O ?_)))
      exact ⟨_, by rw [hE, hlt, Gu], fun W HW => by unfold lI; rw [← hlt]; exact (hr W HW).from (by omega), HL⟩
   ·(try simp only [aC] at h3)
    refine bn (bn (bn (mV (mV (mV (mV (mV (bn (gI O O (iy (oD (bQ (aB (aB (aU (aW (aK ?_)))))))))))))))))
    have hlt : i = (wL l).length := by omega
    refine aA (jr O O (Z (y5 (hr _ (HL)) aj bF O O O (by omega)) ?_))
    refine bG O (dL O (dU O (Az results51 O O ?_)))
    exact ⟨_, by rw [hE, hlt, Gu], fun W HW => by unfold lI; rw [← hlt]; exact (hr W HW).from (by omega), HL⟩
  ·(try simp only [aC] at h2)
   refine bn (bn (bn (bn (bn (gI O O (bG O (bn (bn (bn (mV (mV (mV (mV (mV (bn (gI O O (iy (oD (bQ (aB (aB (aU (aW (aK ?_))))))))))))))))))))))))
   have hlt : i = (wL l).length := by omega
   refine aA (jr O O (Z (y5 (hr _ (HL)) aj bF O O O (by omega)) ?_))
   refine bG O (dL O (dU O (Az results51 O O ?_)))
   exact ⟨_, by rw [hE, hlt, Gu], fun W HW => by unfold lI; rw [← hlt]; exact (hr W HW).from (by omega), HL⟩
 ·(try simp only [aC] at h1)
  refine bn (bn (bn (bn (bn (gI O O (bG O (bn (bn (bn (bn (bn (gI O O (bG O (bn (bn (bn (mV (mV (mV (mV (mV (bn (gI O O (iy (oD (bQ (aB (aB (aU (aW (aK ?_)))))))))))))))))))))))))))))))
  have hlt : i = (wL l).length := by omega
  refine aA (jr O O (Z (y5 (hr _ (HL)) aj bF O O O (by omega)) ?_))
  refine bG O (dL O (dU O (Az results51 O O ?_)))
  exact ⟨_, by rw [hE, hlt, Gu], fun W HW => by unfold lI; rw [← hlt]; exact (hr W HW).from (by omega), HL⟩
end
end Go.Proofs.YtpdeedplgmbopaaGreatDoor
end
section
namespace Go.Proofs.YtpdeedplgmbopaaGreatDoor
open Go.RowKit Go.Lib
section
variable {P : Program} {N : Sh} {Q : Exit → Act → World → Prop} {L : List (Nat × Value)} {w : World}
end
def sb (s : ByteArray) (i : Nat) : Int := ((s.data.toList.getD i 0).toNat : Nat)
theorem aaX {s : ByteArray} {i : Nat} (h : i < s.size) : ((s[i]'h).toNat : Int) = sb s i := by
  unfold sb
  rw [List.getD_eq_getElem?_getD, List.getElem?_eq_getElem (by rw [Array.length_toList]; exact h)]
  rfl
section
variable {P : Program} {L : List (Nat × Value)} {w w0 : World} {ty : TypeId} {x y : Operand} {F : HP}
theorem jM {t : TypeId} {s : ByteArray} {k : IntKind} {i : Int} (ht : P.underlying t = some .string) (hx : ev L x = some (.string s)) (hy : ev L y = some (.int k i)) (h : 0 ≤ i ∧ i < s.size) :
    Val P L (.index t x y) ty w (.int .u8 (sb s i.toNat)) w := fun ρ hρ _ _ _ _ => by
  simp only [execOp, hρ _ _ hx, hρ _ _ hy, Sem.run_bind]
  rw [run_index_string (w := w) t s k i ht, dif_pos h, aaX]
  rfl
theorem acA {f : FuncId} {args : List Operand} {ts : Array TypeId} {vs : List Value} {fn : Func} {e : Array Value → Sem Value} {v : Value} (ha : EC L args = some vs)
    (hf : P.funcs[f]? = some fn) (hname : (fn.name == "runtime.NumGoroutine") = false) (hb : fn.body.isNone = true) (hn : Extern.findNext fn = none) (he : Extern.find fn = some e) (hr : (e vs.toArray).run P w = .ok v w) :
    Val P L (.call ⟨.value (.func f), args.toArray, ts⟩) ty w v w := fun ρ hρ _ _ _ _ => by
  have hg : ρ (.func f) = .func (.func f) #[] #[] := hρ _ _ rfl
  have hc := run_callFunc_extern hf hname hb hn he vs.toArray w
  rw [hr] at hc
  simp [execOp, resolve, invoke, evs hρ _ _ ha, hg, Deferred.ofValue]
  exact hc
def afe (s : ByteArray) (k : Nat) : Value := if k < s.size then .tuple #[.bool true, .int .i64 k, .int .i32 (sb s k)] else .tuple #[.bool false]
end
theorem Z4 {s : ByteArray} (hs : ∀ c ∈ s.data.toList, c.toNat < 128) (i : Nat) : 0 ≤ sb s i ∧ sb s i < 128 := by
  unfold sb
  rw [List.getD_eq_getElem?_getD]
  by_cases h : i < s.data.toList.length
  · rw [List.getElem?_eq_getElem h]
    have := hs _ (List.getElem_mem h)
    show 0 ≤ ((s.data.toList[i].toNat : Nat) : Int) ∧ ((s.data.toList[i].toNat : Nat) : Int) < 128
    omega
  · rw [List.getElem?_eq_none (by omega)]; decide
end Go.Proofs.YtpdeedplgmbopaaGreatDoor
end
