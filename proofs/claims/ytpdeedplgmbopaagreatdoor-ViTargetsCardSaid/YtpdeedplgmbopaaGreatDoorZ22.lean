import Derived.Test.YtpdeedplgmbopaaGreatDoorZ4
import Derived.Test.YtpdeedplgmbopaaGreatDoorZ21
import Derived.Test.YtpdeedplgmbopaaGreatDoorZ17
import Derived.Test.YtpdeedplgmbopaaGreatDoorZ18
import Derived.Test.YtpdeedplgmbopaaGreatDoorZ20
import Derived.Test.YtpdeedplgmbopaaGreatDoorCards
import Derived.Test.YtpdeedplgmbopaaGreatDoorZ5
import Derived.SevenTiedAt
set_option linter.unusedSimpArgs false
set_option linter.unusedVariables false
/- ViTargets in its first form, as the card states it, for whatever the program's variables hold as its text lays them. No condition beside the form's own.
Texts of mine, joined, their names in short: VRW VRT LawVTargets HasVTargets. -/
section
namespace Go.Proofs.YtpdeedplgmbopaaGreatDoor
open Go.RowKit
open _root_.Go.Proofs.Tryz
def Nk (key : Int) : Bool := decide (key = 87 ∨ key = 66 ∨ key = 69)
theorem Fe {g : Int → Int} {k : Int} {y : Int} (h : 0 < k) : rG g k.toNat y = rG g (k - 1).toNat (g y) := by
  rw [show k.toNat = (k - 1).toNat + 1 from by omega]; rfl
section
variable {w0 w : World} {F : HP} {v : Value} {l : List Int} {x n key c r : Int} {big given : Bool}
theorem Yc (h : key = 119 ∨ key = 87) (h1 : x < l.length) : kZ l x key n = (qX (fun y => nX l y (key == 87)) n.toNat x, false, true) := by unfold kZ; rw [if_pos h, if_pos h1]
theorem U4 (h : key = 119 ∨ key = 87) (h1 : ¬ x < l.length) : kZ l x key n = (0, false, false) := by unfold kZ; rw [if_pos h, if_neg h1]
theorem Yd (h : key = 98 ∨ key = 66) (h1 : 0 < x) : kZ l x key n = (qX (fun y => ql l y (key == 66)) n.toNat x, false, true) := by unfold kZ; rw [if_neg (by omega), if_pos h, if_pos h1]
theorem U5 (h : key = 98 ∨ key = 66) (h1 : ¬ 0 < x) : kZ l x key n = (0, false, false) := by unfold kZ; rw [if_neg (by omega), if_pos h, if_neg h1]
theorem Ye (h : key = 101 ∨ key = 69) (h1 : x < l.length - 1) : kZ l x key n = (qX (fun y => uD l y (key == 69)) n.toNat x, true, true) := by unfold kZ; rw [if_neg (by omega), if_neg (by omega), if_pos h, if_pos h1]
theorem U6 (h : key = 101 ∨ key = 69) (h1 : ¬ x < l.length - 1) : kZ l x key n = (0, false, false) := by unfold kZ; rw [if_neg (by omega), if_neg (by omega), if_pos h, if_neg h1]
theorem Yf (h : ¬ (key = 119 ∨ key = 87)) (h2 : ¬ (key = 98 ∨ key = 66)) (h3 : ¬ (key = 101 ∨ key = 69)) : kZ l x key n = (0, false, false) := by unfold kZ; rw [if_neg h, if_neg h2, if_neg h3]
theorem aeV (h : key = 119 ∨ key = 87) : Nk key = (key == 87) := by rcases h with rfl | rfl <;> rfl
theorem aeW (h : key = 98 ∨ key = 66) : Nk key = (key == 66) := by rcases h with rfl | rfl <;> rfl
theorem aeX (h : key = 101 ∨ key = 69) : Nk key = (key == 69) := by rcases h with rfl | rfl <;> rfl
theorem U7 (H : V w0 w F) (hr : jE w0 F .i32 v l) (hx : XH l x) (Va : l.length ≤ 4611686018427387904) : ig prog 102 #[v, .int .i64 x, .bool big] w fun v' w' => v' = .int .i64 (uD l x big) ∧ V w0 w' F :=
  (Yb H hr hx.1 (Int.le_of_lt hx.2) Va).mono fun u W h => ⟨h.1.trans (by rw [show max 0 (uD l x big) = uD l x big from by have := BN l big hx.1 hx.2; have := hx.1; omega]), h.2⟩
theorem Dz (H : V w0 w F) (hr : jE w0 F .i32 v l) (Va : l.length ≤ 4611686018427387904) : ig prog 99 #[.int .i64 n, v] w fun v' w' => v' = .int .i64 (min n ((l.length : Int) + 1)) ∧ V w0 w' F := by
  refine nC func99 ntmps99 ?_
  refine jy O (bM O (bG O (Z (fO (hr _ (H)) aj O) (Z (dP O O (by omega)) (Z (xY O O) (dU O (dF results99 O ?_)))))))
  exact ⟨O, H⟩
theorem Nl (h : 1 ≤ n) : (min n ((l.length : Int) + 1)).toNat = min n.toNat (l.length + 1) := by omega
theorem Rz (H : V w0 w F) (hr : jE w0 F .i32 v l) (hx : 0 ≤ x ∧ x ≤ l.length) (hn : 1 ≤ n) (Va : l.length ≤ 4611686018427387904) : ig prog 46 #[v, .int .i64 x, .int .i32 key, .int .i64 n] w fun u w' => u = F7 (kZ l x key n) ∧ V w0 w' F := by
 refine aaz func46 ntmps46 ?_
 refine gW (dL O (dL O (fV O ?_)))
 refine iY [(0, _), (1, _), (2, _), (3, _)] (fun (_ : Unit) => [(11, .bool (Nk key))]) (fun (_ : Unit) W => V w0 W F) BI ?_ ?_
 ·rintro _ w1 HA
  dsimp only [List.cons_append, List.nil_append]
  refine aK (bM O (iy (aV ?_)))
  refine iY [(0, _), (1, _), (3, _), (11, _), (25, _)] (fun (_ : Unit) => [(26, .bool (decide (key = 119 ∨ key = 87)))]) (fun (_ : Unit) W => V w0 W F) Nz ?_ ?_
  ·rintro _ w2 HB
   dsimp only [List.cons_append, List.nil_append]
   refine bI O (fun h1 => ?_) (fun h1 => ?_)
   ·(try simp only [aC] at h1)
    refine aK (aK ?_)
    have hk1 : key = 119 ∨ key = 87 := by omega
    rw [aeV hk1]
    refine aA (jr O O (Z (fO (hr _ (HB)) aj O) (Z (cZ O O) (gQ O (fun h2 => ?_) (fun h2 => ?_)))))
    ·(try simp only [aC] at h2)
     refine gW (dL O (dL O (dU O (ay (aN (ay ?_))))))
     refine dW (.inl O) results46 O O O ?_
     exact ⟨by rw [U4 hk1 (by omega)]; rfl, HB⟩
    ·(try simp only [aC] at h2)
     refine fG (aK (aK ?_))
     have hxI : Yk l x := hx
     refine aA (jr O O (dX O func99 (Dz HB (fun W HW => hr _ (HW)) Va) ?_))
     rintro _ w3 ⟨rfl, H3⟩
     refine fV O (aV ?_)
     obtain ⟨T, hT⟩ : ∃ T : Int, T = min n ((l.length : Int) + 1) := ⟨_, rfl⟩
     rw [← hT]
     refine dJ [(0, _), (11, _)] (fun (⟨y, k⟩ : Int × Int) => [(1, .int .i64 y), (12, .int .i64 k)]) (fun (⟨y, k⟩ : Int × Int) W => ((0 ≤ k ∧ k ≤ T) ∧ Yk l y ∧ rG (fun z => nX l z (key == 87)) T.toNat x = rG (fun z => nX l z (key == 87)) k.toNat y) ∧ V w0 W F) (fun (⟨y, k⟩ : Int × Int) => k.toNat) ((x, T)) mW mW ⟨⟨by omega, hxI, O⟩, H3⟩ ?_
     rintro ⟨y, k⟩ w4 ⟨⟨hk, hy, hE⟩, HL⟩
     dsimp only [List.cons_append, List.nil_append]
     refine aK (bM O (Z (iw O O) (gQ O (fun h3 => ?_) (fun h3 => ?_))))
     ·(try simp only [aC] at h3)
      refine fG (aK (aV (aA (jr O O (bG O (dX O func100 (U2 HL (fun W HW => hr _ (HW)) hy.1 hy.2) ?_))))))
      rintro _ w5 ⟨rfl, H5⟩
      have hyb := Ba l (key == 87) hy.1 hy.2
      refine dL O (bD (aG (aW (aA (bG O (Z (iG O O (by omega)) (dL O (bD ?_))))))))
      refine bZ (_, _) mW mW (by (try dsimp only); exact ⟨⟨by omega, ⟨Int.le_trans hy.1 hyb.1, hyb.2⟩, hE.trans (Fe (by omega))⟩, H5⟩) ?_
      ·(try dsimp only); omega
     ·(try simp only [aC] at h3)
      refine bQ (aB (aB (aU (aW (bM O (dL O (dL O (dU O (aN (ay ?_))))))))))
      refine dW (.inl O) results46 O O O ?_
      exact ⟨by rw [Yc hk1 (by omega), Uk hx.1 hx.2, ← Nl hn, ← hT, hE, show k.toNat = 0 from by omega]; rfl, HL⟩
   ·(try simp only [aC] at h1)
    refine iY [(0, _), (1, _), (3, _), (11, _), (25, _)] (fun (_ : Unit) => [(45, .bool (decide (key = 98 ∨ key = 66)))]) (fun (_ : Unit) W => V w0 W F) Nz ?_ ?_
    ·rintro _ w6 HC
     dsimp only [List.cons_append, List.nil_append]
     refine bI O (fun h4 => ?_) (fun h4 => ?_)
     ·(try simp only [aC] at h4)
      refine aK (aK ?_)
      have hk1 : key = 98 ∨ key = 66 := by omega
      rw [aeW hk1]
      refine aA (bG O (Z (cZ O O) (gQ O (fun h5 => ?_) (fun h5 => ?_))))
      ·(try simp only [aC] at h5)
       refine gW (dL O (dL O (dU O (ay (aN (ay ?_))))))
       refine dW (.inl O) results46 O O O ?_
       exact ⟨by rw [U5 hk1 (by omega)]; rfl, HC⟩
      ·(try simp only [aC] at h5)
       refine fG (aK (aK ?_))
       have hxI : Yk l x := hx
       refine aA (jr O O (dX O func99 (Dz HC (fun W HW => hr _ (HW)) Va) ?_))
       rintro _ w7 ⟨rfl, H7⟩
       refine fV O (aV ?_)
       obtain ⟨T, hT⟩ : ∃ T : Int, T = min n ((l.length : Int) + 1) := ⟨_, rfl⟩
       rw [← hT]
       refine dJ [(0, _), (11, _)] (fun (⟨y, k⟩ : Int × Int) => [(1, .int .i64 y), (13, .int .i64 k)]) (fun (⟨y, k⟩ : Int × Int) W => ((0 ≤ k ∧ k ≤ T) ∧ Yk l y ∧ rG (fun z => ql l z (key == 66)) T.toNat x = rG (fun z => ql l z (key == 66)) k.toNat y) ∧ V w0 W F) (fun (⟨y, k⟩ : Int × Int) => k.toNat) ((x, T)) mW mW ⟨⟨by omega, hxI, O⟩, H7⟩ ?_
       rintro ⟨y, k⟩ w8 ⟨⟨hk, hy, hE⟩, HL⟩
       dsimp only [List.cons_append, List.nil_append]
       refine aK (bM O (Z (iw O O) (gQ O (fun h6 => ?_) (fun h6 => ?_))))
       ·(try simp only [aC] at h6)
        refine fG (aK (aV (aA (jr O O (bG O (dX O func101 (U3 HL (fun W HW => hr _ (HW)) hy.1 hy.2) ?_))))))
        rintro _ w9 ⟨rfl, H9⟩
        have hyb := Bc l (key == 66) hy.1 hy.2
        refine dL O (bD (aG (aW (aA (bG O (Z (iG O O (by omega)) (dL O (bD ?_))))))))
        refine bZ (_, _) mW mW (by (try dsimp only); exact ⟨⟨by omega, ⟨hyb.1, Int.le_trans hyb.2 hy.2⟩, hE.trans (Fe (by omega))⟩, H9⟩) ?_
        ·(try dsimp only); omega
       ·(try simp only [aC] at h6)
        refine bQ (aB (aB (aU (aW (bM O (dL O (dL O (dU O (aN (ay ?_))))))))))
        refine dW (.inl O) results46 O O O ?_
        exact ⟨by rw [Yd hk1 (by omega), Ul hx.1 hx.2, ← Nl hn, ← hT, hE, show k.toNat = 0 from by omega]; rfl, HL⟩
     ·(try simp only [aC] at h4)
      refine iY [(0, _), (1, _), (3, _), (11, _)] (fun (_ : Unit) => [(62, .bool (decide (key = 101 ∨ key = 69)))]) (fun (_ : Unit) W => V w0 W F) BI ?_ ?_
      ·rintro _ w10 HD
       dsimp only [List.cons_append, List.nil_append]
       refine bI O (fun h7 => ?_) (fun h7 => ?_)
       ·(try simp only [aC] at h7)
        refine aK (aK ?_)
        have hk1 : key = 101 ∨ key = 69 := by omega
        rw [aeX hk1]
        refine aA (jr O O (Z (fO (hr _ (HD)) aj O) (Z (iG O O (by omega)) (Z (jw O O) (gQ O (fun h8 => ?_) (fun h8 => ?_))))))
        ·(try simp only [aC] at h8)
         refine gW (dL O (dL O (dU O (ay (aN (ay ?_))))))
         refine dW (.inl O) results46 O O O ?_
         exact ⟨by rw [U6 hk1 (by omega)]; rfl, HD⟩
        ·(try simp only [aC] at h8)
         refine fG (aK (aK ?_))
         have hxI : XH l x := ⟨hx.1, by omega⟩
         refine aA (jr O O (dX O func99 (Dz HD (fun W HW => hr _ (HW)) Va) ?_))
         rintro _ ED ⟨rfl, rM⟩
         refine fV O (aV ?_)
         obtain ⟨T, hT⟩ : ∃ T : Int, T = min n ((l.length : Int) + 1) := ⟨_, rfl⟩
         rw [← hT]
         refine dJ [(0, _), (11, _)] (fun (⟨y, k⟩ : Int × Int) => [(1, .int .i64 y), (14, .int .i64 k)]) (fun (⟨y, k⟩ : Int × Int) W => ((0 ≤ k ∧ k ≤ T) ∧ XH l y ∧ rG (fun z => uD l z (key == 69)) T.toNat x = rG (fun z => uD l z (key == 69)) k.toNat y) ∧ V w0 W F) (fun (⟨y, k⟩ : Int × Int) => k.toNat) ((x, T)) mW mW ⟨⟨by omega, hxI, O⟩, rM⟩ ?_
         rintro ⟨y, k⟩ w12 ⟨⟨hk, hy, hE⟩, HL⟩
         dsimp only [List.cons_append, List.nil_append]
         refine aK (bM O (Z (iw O O) (gQ O (fun h9 => ?_) (fun h9 => ?_))))
         ·(try simp only [aC] at h9)
          refine fG (aK (aV (aA (jr O O (bG O (dX O func102 (U7 HL (fun W HW => hr _ (HW)) hy Va) ?_))))))
          rintro _ PO ⟨rfl, xM⟩
          have hyb := BN l (key == 69) hy.1 hy.2
          refine dL O (bD (aG (aW (aA (bG O (Z (iG O O (by omega)) (dL O (bD ?_))))))))
          refine bZ (_, _) mW mW (by (try dsimp only); exact ⟨⟨by omega, ⟨Int.le_trans hy.1 hyb.1, hyb.2⟩, hE.trans (Fe (by omega))⟩, xM⟩) ?_
          ·(try dsimp only); omega
         ·(try simp only [aC] at h9)
          refine bQ (aB (aB (aU (aW (bM O (dL O (dL O (dU O (aN (ay ?_))))))))))
          refine dW (.inl O) results46 O O O ?_
          exact ⟨by rw [Ye hk1 (by omega), WH hxI.1 hxI.2, ← Nl hn, ← hT, hE, show k.toNat = 0 from by omega]; rfl, HL⟩
       ·(try simp only [aC] at h7)
        refine bY (aG (aW (gW (dL O (dL O (dU O ?_))))))
        refine dW (.inl O) results46 O O O ?_
        exact ⟨by rw [Yf (by assumption) (by assumption) (by assumption)]; rfl, HD⟩
      ·skip
       refine gW (Z (cZ O O) (fV O (bI O (fun h10 => ?_) (fun h10 => ?_))))
       ·(try simp only [aC] at h10)
        refine bY ?_
        refine cO (()) ?_ ?_ ?_
        ·exact (Sub.eP O (congrArg Value.bool (decide_eq_decide.2 (by omega))) (Sub.nil _))
        ·exact BI
        ·(try dsimp only)
         first | done | exact HC
       ·(try simp only [aC] at h10)
        refine aA (Z (cZ O O) (dL O (bD ?_)))
        refine cO (()) ?_ ?_ ?_
        ·exact (Sub.eP O (congrArg Value.bool (decide_eq_decide.2 (by omega))) (Sub.nil _))
        ·exact BI
        ·(try dsimp only)
         first | done | exact HC
    ·skip
     refine gW (Z (cZ O O) (fV O (bI O (fun h11 => ?_) (fun h11 => ?_))))
     ·(try simp only [aC] at h11)
      refine bY ?_
      refine cO (()) ?_ ?_ ?_
      ·exact (Sub.eP O (congrArg Value.bool (decide_eq_decide.2 (by omega))) (Sub.nil _))
      ·exact Nz
      ·(try dsimp only)
       first | done | exact HB
     ·(try simp only [aC] at h11)
      refine aA (Z (cZ O O) (dL O (bD ?_)))
      refine cO (()) ?_ ?_ ?_
      ·exact (Sub.eP O (congrArg Value.bool (decide_eq_decide.2 (by omega))) (Sub.nil _))
      ·exact Nz
      ·(try dsimp only)
       first | done | exact HB
  ·skip
   refine gW (Z (cZ O O) (fV O (bI O (fun h12 => ?_) (fun h12 => ?_))))
   ·(try simp only [aC] at h12)
    refine bY ?_
    refine cO (()) ?_ ?_ ?_
    ·exact (Sub.eP O (congrArg Value.bool (decide_eq_decide.2 (by omega))) (Sub.nil _))
    ·exact Nz
    ·(try dsimp only)
     first | done | exact HA
   ·(try simp only [aC] at h12)
    refine aA (Z (cZ O O) (dL O (bD ?_)))
    refine cO (()) ?_ ?_ ?_
    ·exact (Sub.eP O (congrArg Value.bool (decide_eq_decide.2 (by omega))) (Sub.nil _))
    ·exact Nz
    ·(try dsimp only)
     first | done | exact HA
 ·skip
  refine aA (bG O (Z (cZ O O) (iZ O (fun h13 => ?_) (fun h13 => ?_))))
  ·(try simp only [aC] at h13)
   refine bn (bn (iM O O (bG O (bn (bn (iM O O (dL O (bD ?_))))))))
   refine cO (()) ?_ ?_ ?_
   ·exact (Sub.eP O (by first | exact congrArg Value.bool (decide_eq_true (by omega)).symm | exact congrArg Value.bool (decide_eq_decide.2 (by omega))) (Sub.nil _))
   ·exact BI
   ·(try dsimp only)
    first | done | exact H
  ·(try simp only [aC] at h13)
   refine bg (bG O (bg (Z (cZ O O) (gI O O (iZ O (fun h14 => ?_) (fun h14 => ?_))))))
   ·(try simp only [aC] at h14)
    refine bn (bn (iM O O (dL O (bD ?_))))
    refine cO (()) ?_ ?_ ?_
    ·exact (Sub.eP O (by first | exact congrArg Value.bool (decide_eq_true (by omega)).symm | exact congrArg Value.bool (decide_eq_decide.2 (by omega))) (Sub.nil _))
    ·exact BI
    ·(try dsimp only)
     first | done | exact H
   ·(try simp only [aC] at h14)
    refine bg (bG O (bg (Z (cZ O O) (gI O O (dL O (bD ?_))))))
    refine cO (()) ?_ ?_ ?_
    ·exact (Sub.eP O (by first | exact congrArg Value.bool (decide_eq_true (by omega)).symm | exact congrArg Value.bool (decide_eq_decide.2 (by omega))) (Sub.nil _))
    ·exact BI
    ·(try dsimp only)
     first | done | exact H
end
section
variable {w0 w : World} {F : HP} {v : Value} {l : List Int} {x n key c r : Int} {big given : Bool}
theorem Jl (h : key = 102 ∨ key = 70 ∨ key = 116 ∨ key = 84) : (nP l x key c n).2.1 = ((nP l x key c n).2.2 && decide (key = 102 ∨ key = 116)) := by
  unfold nP
  split
  · rfl
  · rcases h with rfl | rfl | rfl | rfl <;> rfl
theorem RD : (oL l x).2.1 = (oL l x).2.2 := by
  unfold oL
  split
  · rfl
  · split <;> rfl
theorem Jm (h : key = 102 ∨ key = 70 ∨ key = 116 ∨ key = 84) : gB l x key c n = nP l x key c n := by unfold gB; rw [if_neg (by omega), if_neg (by omega), if_neg (by omega), if_neg (by omega), if_neg (by omega), if_neg (by omega), if_pos (by omega)]
theorem ads (h : key = 37) : gB l x key c n = oL l x := by unfold gB; rw [if_neg (by omega), if_neg (by omega), if_neg (by omega), if_neg (by omega), if_neg (by omega), if_neg (by omega), if_neg (by omega), if_pos (by omega)]
theorem PL (H : V w0 w F) (hr : jE w0 F .i32 v l) (Va : l.length ≤ 4611686018427387904) (hn : n ≤ 9223372036854775807) : ig prog 12 #[v, .int .i64 x, .int .i32 key, .int .i32 c, .int .i64 n, .bool given] w fun u w' => u = F7 (tK l x key c n) ∧ V w0 w' F := by
  obtain ⟨y, hy⟩ : ∃ y, y = min (max x 0) (l.length : Int) := ⟨_, rfl⟩
  obtain ⟨m, hm⟩ : ∃ m, m = max n 1 := ⟨_, rfl⟩
  unfold tK
  rw [← hy, ← hm]
  have hy2 : 0 ≤ y ∧ y ≤ l.length := by omega
  have hm2 : 1 ≤ m ∧ m ≤ 9223372036854775807 := by omega
  refine TG func12 ntmps12 ?_
  dsimp only [vW, Nat.reduceAdd]
  refine gW (dL O (dL O (fV O (bM O (Z (Fj O O) (bG O (Z (fO (hr _ (H)) aj O) (Z (Jq (xY O O) (congrArg (Value.int .i64) hy.symm)) (fV O (bM O (Z (Jq (Fj O O) (congrArg (Value.int .i64) hm.symm)) (tX O (bM O (iy (aV (gW (Z (cZ O O) (fV O (bI O (fun h1 => ?_) (fun h1 => ?_))))))))))))))))))))
  · (try simp only [aC] at h1)
    refine bM O (jr O O (Z (xY O O) (Z (iG O O (by omega)) (Z (Fj O O) (bG O (Z (iw O O) (dL O (dL O (dU O (aN (ay ?_)))))))))))
    refine dW (.inl O) kP O O O ?_
    refine ⟨?_, H⟩
    unfold gB
    rw [if_pos (by omega)]
    by_cases hy0 : y = 0
    · rw [if_pos hy0, show max (0 : Int) (y - min m y) = 0 from by omega, decide_eq_false (by omega)]; rfl
    · rw [if_neg hy0, show max 0 (y - min m y) = y - min m y from by omega, decide_eq_true (by omega)]; rfl
  · (try simp only [aC] at h1)
    refine iY [(0, _), (1, _), (2, _), (3, _), (4, _), (27, _)] (fun (_ : Unit) => [(38, .bool (decide (key = 108 ∨ key = 32)))]) (fun (_ : Unit) W => V w0 W F) Cj ?_ ?_
    · rintro _ w1 HJ
      dsimp only [List.cons_append, List.nil_append]
      refine bI O (fun h2 => ?_) (fun h2 => ?_)
      · (try simp only [aC] at h2)
        refine aK (bM O (bG O (Z (fO (hr _ (HJ)) aj O) (Z (cZ O O) (gQ O (fun h3 => ?_) (fun h3 => ?_))))))
        · (try simp only [aC] at h3)
          refine gW (dL O (dL O (dU O (ay (aN (ay ?_))))))
          refine dW (.inl O) kP O O O ?_
          exact ⟨by unfold gB; rw [if_neg (by omega), if_pos (by omega), if_pos (by omega)]; rfl, HJ⟩
        · (try simp only [aC] at h3)
          refine fG (bM O (jr O O (Z (fO (hr _ (HJ)) aj O) (bG O (Z (iG O O (by omega)) (Z (xY O O) (Z (dP O O (by omega)) (dL O (dL O (dU O (aN (ay ?_))))))))))))
          refine dW (.inl O) kP O O O ?_
          exact ⟨by unfold gB; rw [if_neg (by omega), if_pos (by omega), if_neg (by omega)]; rfl, HJ⟩
      · (try simp only [aC] at h2)
        refine gW (Z (cZ O O) (fV O (bI O (fun h4 => ?_) (fun h4 => ?_))))
        · (try simp only [aC] at h4)
          refine gW (dL O (dL O (dU O (aN (ay ?_)))))
          refine dW (.inl O) kP O O O ?_
          exact ⟨by unfold gB; rw [if_neg (by omega), if_neg (by omega), if_pos (by omega)]; rfl, HJ⟩
        · (try simp only [aC] at h4)
          refine gW (Z (cZ O O) (fV O (bI O (fun h5 => ?_) (fun h5 => ?_))))
          · (try simp only [aC] at h5)
            refine bM O (Z (fO (hr _ (HJ)) aj O) (dL O (dL O (dU O (aN (ay ?_))))))
            refine dW (.inl O) kP O O O ?_
            exact ⟨by unfold gB; rw [if_neg (by omega), if_neg (by omega), if_neg (by omega), if_pos (by omega)]; rfl, HJ⟩
          · (try simp only [aC] at h5)
            refine gW (Z (cZ O O) (fV O (bI O (fun h6 => ?_) (fun h6 => ?_))))
            · (try simp only [aC] at h6)
              refine jy O (aK (aV ?_))
              refine dJ [(0, _)] (fun (i : Int) => [(15, .int .i64 i)]) (fun (i : Int) W => ((0 ≤ i ∧ i ≤ l.length) ∧ iU (fun r => dn r == 0) l i = iU (fun r => dn r == 0) l 0) ∧ V w0 W F) (fun (i : Int) => (l.length - i).toNat) (0) ji ji ⟨⟨by omega, O⟩, HJ⟩ ?_
              rintro i w2 ⟨⟨hi, hE⟩, HL⟩
              dsimp only [List.cons_append, List.nil_append]
              refine aK (bM O (bG O (Z (fO (hr _ (HL)) aj O) (Z (fF O O) (iZ O (fun h7 => ?_) (fun h7 => ?_))))))
              · (try simp only [aC] at h7)
                refine bg (bG O (bg (bG O (bg ?_))))
                obtain ⟨bv, ov, cv, ev⟩ := dR.nJ (hr _ (HL)) (by omega)
                cases ev
                refine Z (dh aj bF O O (by omega)) (bg ?_)
                refine Z (dH (bT aQ O) O (by first | exact dR.jo (hr _ (HL)) (by omega) | exact dR.qB (hr _ (HL)) (by omega) | exact dR.qx (hr _ (HL)) (by omega))) ?_
                refine bg (dX O func15 (oZ HL) ?_)
                rintro _ w3 ⟨rfl, H3⟩
                refine bg (Z (cZ O O) (iM O O (gQ O (fun h8 => ?_) (fun h8 => ?_))))
                · (try simp only [aC] at h8)
                  have hP : (dn (l.getD i.toNat 0) == 0) = true := by rw [beq_iff_eq]; exact h8
                  refine fG (aV (aA (bG O (Z (dP O O (by omega)) (dL O (bD (aG ?_)))))))
                  refine bZ (i + 1) ?_ ?_ ?_ ?_
                  · exact ji
                  · exact ji
                  · (try dsimp only)
                    first | done | exact ⟨⟨by omega, (jY hi.1 (by omega) hP).symm.trans hE⟩, H3⟩
                  · (try dsimp only); omega
                · (try simp only [aC] at h8)
                  try have hP : ¬ (dn (l.getD i.toNat 0) == 0) = true := by (rw [beq_iff_eq]; exact h8)
                  refine bQ (aB (aB (aU (aW (bM O (dL O (dL O (dU O (aN (ay ?_))))))))))
                  refine dW (.inl O) kP O O O ?_
                  exact ⟨by unfold gB; rw [if_neg (by omega), if_neg (by omega), if_neg (by omega), if_neg (by omega), if_pos (by omega), ← hE]; first | (rw [fM hi.1 (by omega) hP]; rfl) | (rw [dZ (by omega)]; rfl), H3⟩
              · (try simp only [aC] at h7)
                refine bn (bn (bn (bn (bn (bn (gI O O (iy (oD (bQ (aB (aB (aU (aW (bM O (dL O (dL O (dU O (aN (ay ?_)))))))))))))))))))
                refine dW (.inl O) kP O O O ?_
                exact ⟨by unfold gB; rw [if_neg (by omega), if_neg (by omega), if_neg (by omega), if_neg (by omega), if_pos (by omega), ← hE]; first | (rw [fM hi.1 (by omega) hP]; rfl) | (rw [dZ (by omega)]; rfl), HL⟩
            · (try simp only [aC] at h6)
              refine gW (Z (cZ O O) (fV O (bI O (fun h9 => ?_) (fun h9 => ?_))))
              · (try simp only [aC] at h9)
                refine bM O (Z (iG O O (by omega)) (bG O (Z (fO (hr _ (HJ)) aj O) (Z (xY O O) (dL O (dL O (dU O (aN (ay ?_)))))))))
                refine dW (.inl O) kP O O O ?_
                exact ⟨by unfold gB; rw [if_neg (by omega), if_neg (by omega), if_neg (by omega), if_neg (by omega), if_neg (by omega), if_pos (by omega)]; rfl, HJ⟩
              · (try simp only [aC] at h9)
                refine iY [(0, _), (1, _), (2, _), (3, _), (4, _), (27, _)] (fun (_ : Unit) => [(83, .bool (decide (key = 102 ∨ key = 70 ∨ key = 116 ∨ key = 84)))]) (fun (_ : Unit) W => V w0 W F) Cj ?_ ?_
                · rintro _ w4 HK
                  dsimp only [List.cons_append, List.nil_append]
                  refine bI O (fun h10 => ?_) (fun h10 => ?_)
                  · (try simp only [aC] at h10)
                    refine aK ?_
                    have hk1 : key = 102 ∨ key = 70 ∨ key = 116 ∨ key = 84 := by omega
                    refine aA (jr O O (jr O O (bG O (dX O func44 (QG HK (fun W HW => hr _ (HW)) (by omega) (by omega) (by omega) (by omega)) ?_))))
                    rintro _ w5 ⟨rfl, H5⟩
                    refine bG O (rW O O (rW O O (dL O (fV O (bM O (bG O (iZ O (fun h11 => ?_) (fun h11 => ?_))))))))
                    · (try simp only [aC] at h11)
                      refine bg (bG O (bg (Z (cZ O O) (bg (iZ O (fun h12 => ?_) (fun h12 => ?_))))))
                      · (try simp only [aC] at h12)
                        refine bn (bn (bg (iM O O (iM O O (bG O (dL O (dL O (dU O (aN (ay ?_))))))))))
                        refine dW (.inl O) kP O O O ?_
                        refine ⟨?_, H5⟩
                        rw [Jm hk1]
                        unfold F7
                        rw [Jl hk1]
                        refine congrArg (fun b => Value.tuple #[.int .i64 (nP l y key c m).1, .bool b, .bool (nP l y key c m).2.2]) ?_
                        cases hq : (nP l y key c m).2.2 <;> by_cases hq1 : key = 102 <;> by_cases hq2 : key = 116 <;> first | (simp [*]; done) | simp_all
                      · (try simp only [aC] at h12)
                        refine bg (bG O (bg (Z (cZ O O) (bg (gI O O (iM O O (bG O (dL O (dL O (dU O (aN (ay ?_))))))))))))
                        refine dW (.inl O) kP O O O ?_
                        refine ⟨?_, H5⟩
                        rw [Jm hk1]
                        unfold F7
                        rw [Jl hk1]
                        refine congrArg (fun b => Value.tuple #[.int .i64 (nP l y key c m).1, .bool b, .bool (nP l y key c m).2.2]) ?_
                        cases hq : (nP l y key c m).2.2 <;> by_cases hq1 : key = 102 <;> by_cases hq2 : key = 116 <;> first | (simp [*]; done) | simp_all
                    · (try simp only [aC] at h11)
                      refine bn (bn (bn (mV (mV (bn (gI O O (bG O (dL O (dL O (dU O (aN (ay ?_))))))))))))
                      refine dW (.inl O) kP O O O ?_
                      refine ⟨?_, H5⟩
                      rw [Jm hk1]
                      unfold F7
                      rw [Jl hk1]
                      refine congrArg (fun b => Value.tuple #[.int .i64 (nP l y key c m).1, .bool b, .bool (nP l y key c m).2.2]) ?_
                      cases hq : (nP l y key c m).2.2 <;> by_cases hq1 : key = 102 <;> by_cases hq2 : key = 116 <;> first | (simp [*]; done) | simp_all
                  · (try simp only [aC] at h10)
                    refine gW (Z (cZ O O) (fV O (bI O (fun h13 => ?_) (fun h13 => ?_))))
                    · (try simp only [aC] at h13)
                      refine bM O (bG O (dX O func45 (Nj HK (fun W HW => hr _ (HW)) (by omega) (by omega)) ?_))
                      rintro _ w6 ⟨rfl, H6⟩
                      refine bG O (rW O O (rW O O (dL O (fV O (bM O (jr O O (dL O (dL O (dU O (aN (ay ?_)))))))))))
                      refine dW (.inl O) kP O O O ?_
                      refine ⟨?_, H6⟩
                      rw [ads (by omega)]
                      unfold F7
                      rw [RD]
                      rfl
                    · (try simp only [aC] at h13)
                      refine bY (aG (aW (bM O (jr O O (bG O (dX O func46 (Rz HK (fun W HW => hr _ (HW)) (by omega) (by omega) (by omega)) ?_))))))
                      rintro _ w7 ⟨rfl, H7⟩
                      refine rW O O (rW O O (rW O O (dL O (dL O (dU O ?_)))))
                      refine dW (.inl O) kP O O O ?_
                      exact ⟨by unfold gB; rw [if_neg (by omega), if_neg (by omega), if_neg (by omega), if_neg (by omega), if_neg (by omega), if_neg (by omega), if_neg (by omega), if_neg (by omega)]; rfl, H7⟩
                · skip
                  refine gW (Z (cZ O O) (fV O (bI O (fun h14 => ?_) (fun h14 => ?_))))
                  · (try simp only [aC] at h14)
                    refine bY ?_
                    refine cO (()) ?_ ?_ ?_
                    · exact (Sub.eP O (congrArg Value.bool (decide_eq_decide.2 (by omega))) (Sub.nil _))
                    · exact Cj
                    · (try dsimp only)
                      first | done | exact HJ
                  · (try simp only [aC] at h14)
                    refine gW (Z (cZ O O) (fV O (bI O (fun h15 => ?_) (fun h15 => ?_))))
                    · (try simp only [aC] at h15)
                      refine bY ?_
                      refine cO (()) ?_ ?_ ?_
                      · exact (Sub.eP O (congrArg Value.bool (decide_eq_decide.2 (by omega))) (Sub.nil _))
                      · exact Cj
                      · (try dsimp only)
                        first | done | exact HJ
                    · (try simp only [aC] at h15)
                      refine gW (Z (cZ O O) (fV O (bI O (fun h16 => ?_) (fun h16 => ?_))))
                      · (try simp only [aC] at h16)
                        refine bY ?_
                        refine cO (()) ?_ ?_ ?_
                        · exact (Sub.eP O (congrArg Value.bool (decide_eq_decide.2 (by omega))) (Sub.nil _))
                        · exact Cj
                        · (try dsimp only)
                          first | done | exact HJ
                      · (try simp only [aC] at h16)
                        refine aA (Z (cZ O O) (dL O (bD ?_)))
                        refine cO (()) ?_ ?_ ?_
                        · exact (Sub.eP O (congrArg Value.bool (decide_eq_decide.2 (by omega))) (Sub.nil _))
                        · exact Cj
                        · (try dsimp only)
                          first | done | exact HJ
    · skip
      refine gW (Z (cZ O O) (fV O (bI O (fun h17 => ?_) (fun h17 => ?_))))
      · (try simp only [aC] at h17)
        refine bY ?_
        refine cO (()) ?_ ?_ ?_
        · exact (Sub.eP O (congrArg Value.bool (decide_eq_decide.2 (by omega))) (Sub.nil _))
        · exact Cj
        · (try dsimp only)
          first | done | exact H
      · (try simp only [aC] at h17)
        refine aA (Z (cZ O O) (dL O (bD ?_)))
        refine cO (()) ?_ ?_ ?_
        · exact (Sub.eP O (congrArg Value.bool (decide_eq_decide.2 (by omega))) (Sub.nil _))
        · exact Cj
        · (try dsimp only)
          first | done | exact H
end
theorem RF {w : World} {lv : Value} {line : List Int} {x key c n : Int} (hT : zA w) (g : dR w .i32 lv line) (hl : line.length ≤ 4611686018427387904) (hn : n ≤ 9223372036854775807) :
  ig prog 3 #[lv, .agg #[.int .i64 x, .int .i32 key, .int .i32 c, .int .i64 n]] w fun v w' => v = .bool true ∧ Below w.heap.size w w' := by
 obtain ⟨F, H⟩ : ∃ F, V w w F := ⟨_, V.start w⟩
 have hv : jE w F .i32 lv line := jE.Ny g F
 refine nC func3 ntmps3 ?_
 refine gW (jL (jf (l := [_, _, _, _]) H O O) ?_)
 rintro _ w1 ⟨b1, rfl, H1⟩
 refine fV O (bM O (bK 0 kD O aF O (gJ aP O (H1).get.2 O (bK 1 kD O bF O (gJ aQ O (H1).get.2 O (bK 2 kD O bF O (gJ aQ O (H1).get.2 O (bK 3 kD O aF O (gJ aP O (H1).get.2 O (dX O func11 (yx H1 (fun W HW => hv _ (HW.right)) hT (by omega) (by omega)) ?_))))))))))
 rintro _ w2 ⟨rfl, H2⟩
 refine bG O (rW O O (rW O O (rW O O (dL O (dL O (fV O (bM O (bK 0 kD O aF O (gJ aP O (H2).get.2 O (bK 1 kD O bF O (gJ aQ O (H2).get.2 O (bK 2 kD O bF O (gJ aQ O (H2).get.2 O (bK 3 kD O aF O (gJ aP O (H2).get.2 O (dX O func12 (PL H2 (fun W HW => hv _ (HW.right)) (by omega) (by omega)) ?_))))))))))))))))
 rintro _ w3 ⟨rfl, H3⟩
 refine bG O (rW O O (rW O O (rW O O (dL O (dL O (tX O ?_))))))
 have adt := H3.drew
 have adu := V.kp (adt)
 refine yY [18, 21] adu O (oV 0 O (zx O func13 (U0 adt hT)) ?_)
 rintro _ w4 ⟨rfl, H4⟩
 have nK := V.kp (H4)
 refine iD nK (by kernel_rfl) ?_
 refine jW 1 O nK O ?_
 refine eH 2 O O O (by kernel_rfl) (by kernel_rfl) nK (fun _ => uj O) (kM O) ?_
 refine eH 3 O O O (by kernel_rfl) (by kernel_rfl) nK (fun _ => uj O) (kM O) ?_
 refine eH 4 O O O (by kernel_rfl) (by kernel_rfl) nK (fun _ => cZ O O) (kM O) ?_
 refine jQ 5 O nK (fun _ => vk O O) ?_
 refine yX 6 O O (by kernel_rfl) (by kernel_rfl) nK (kM O) (fun h1 => ?_) (fun h => by exfalso; (try simp only [aC] at h); simp at h)
 (try simp only [aC] at h1)
 refine eH 7 O O O (by kernel_rfl) (by kernel_rfl) nK (fun _ => uj O) (kM O) ?_
 refine eH 8 O O O (by kernel_rfl) (by kernel_rfl) nK (fun _ => uj O) (kM O) ?_
 refine eH 9 O O O (by kernel_rfl) (by kernel_rfl) nK (fun _ => GK bW O O) (kM O) ?_
 refine jQ 10 O nK (fun _ => vk O O) ?_
 refine yX 11 O O (by kernel_rfl) (by kernel_rfl) nK (kM O) (fun h2 => ?_) (fun h => by exfalso; (try simp only [aC] at h); simp at h)
 (try simp only [aC] at h2)
 refine eH 12 O O O (by kernel_rfl) (by kernel_rfl) nK (fun _ => uj O) (kM O) ?_
 refine eH 13 O O O (by kernel_rfl) (by kernel_rfl) nK (fun _ => uj O) (kM O) ?_
 refine eH 14 O O O (by kernel_rfl) (by kernel_rfl) nK (fun _ => GK bW O O) (kM O) ?_
 refine jQ 15 O nK (fun _ => vk O O) ?_
 refine yX 16 O O (by kernel_rfl) (by kernel_rfl) nK (kM O) (fun h3 => ?_) (fun h => by exfalso; (try simp only [aC] at h); simp at h)
 (try simp only [aC] at h3)
 refine eH 17 O O O (by kernel_rfl) (by kernel_rfl) nK (fun _ => yV 2 kD O O bF (by decide) O rfl) (kM O) ?_
 refine vC 18 O O O (by kernel_rfl) (by kernel_rfl) nK (by decide) (fun W hW => dH (bT aQ O) O (iT ((Kp.h hW)).get.2 O)) (kM O) ?_
 refine eH 20 O O O (by kernel_rfl) (by kernel_rfl) nK (fun _ => yV 2 kD O O bF (by decide) O rfl) (kM O) ?_
 refine vC 21 O O O (by kernel_rfl) (by kernel_rfl) nK (by decide) (fun W hW => dH (bT aQ O) O (iT ((Kp.h hW)).get.2 O)) (kM O) ?_
 refine GN 19 O O O (by kernel_rfl) (sQ (um O func14 O O) (nO H4 hT)) (kM O) ?_
 rintro _ w5 ⟨rfl, H5⟩
 have AQ := V.kp (H5)
 refine eU AQ (fun W hW => (Kp.h hW)) ?_
 refine GN 22 O O O (by kernel_rfl) (sQ (um O func15 O O) (oZ H5)) (kM O) ?_
 rintro _ w6 ⟨rfl, H6⟩
 have Dj := V.kp (H6)
 refine iD Dj (by kernel_rfl) ?_
 refine eH 23 O O O (by kernel_rfl) (by kernel_rfl) Dj (fun _ => J7 (cZ O O) (by exact beq_iff_eq.2 O)) (kM O) ?_
 refine jQ 24 O Dj (fun _ => vk O O) (jQ 25 O Dj (fun _ => dY O) (sK (aW (mg (dF results3 O ?_)))))
 exact ⟨O, H6.base⟩
end Go.Proofs.YtpdeedplgmbopaaGreatDoor
end
section
set_option maxRecDepth 100000
namespace Go.Proofs.YtpdeedplgmbopaaGreatDoor
open Go.ChangeShapes Go.WideShapes Go.ChangeAt Go.RowKit
theorem adv {n : Int} (h : (Lit.int .i64 n).wf = true) : -9223372036854775808 ≤ n ∧ n < 9223372036854775808 := by
  simp [Lit.wf, IntKind.min, IntKind.max, IntKind.signed, IntKind.bits] at h
  omega
theorem Zx {H : Type} {enc : TypeId × Value → H} {W : World} {B : Nat} {cs : List Value} (h : CX B enc Tryz.prog W 24 cs) : ∃ x0 x1 x2 x3, cs = [.int .i64 x0, .int .i32 x1, .int .i32 x2, .int .i64 x3] ∧ (Lit.int .i64 x0).wf = true ∧ (Lit.int .i32 x1).wf = true ∧ (Lit.int .i32 x2).wf = true ∧ (Lit.int .i64 x3).wf = true := by
  obtain ⟨hl, hf⟩ := h.struct Tryz.underlying24
  rw [show Tryz.prog.cellsOf 24 = 4 from by kernel_rfl] at hl
  match cs, hl with
  | [c0, c1, c2, c3], _ =>
    have h0 : CX B enc Tryz.prog W 3 (([c0, c1, c2, c3].drop 0).take (Tryz.prog.cellsOf 3)) := hf 0 _ rfl
    rw [show Tryz.prog.cellsOf 3 = 1 from by kernel_rfl] at h0
    obtain ⟨x0, e0, w0⟩ := h0.int Tryz.underlying3
    have h1 : CX B enc Tryz.prog W 21 (([c0, c1, c2, c3].drop 1).take (Tryz.prog.cellsOf 21)) := hf 1 _ rfl
    rw [show Tryz.prog.cellsOf 21 = 1 from by kernel_rfl] at h1
    obtain ⟨x1, e1, w1⟩ := h1.int Tryz.underlying21
    have h2 : CX B enc Tryz.prog W 21 (([c0, c1, c2, c3].drop 2).take (Tryz.prog.cellsOf 21)) := hf 2 _ rfl
    rw [show Tryz.prog.cellsOf 21 = 1 from by kernel_rfl] at h2
    obtain ⟨x2, e2, w2⟩ := h2.int Tryz.underlying21
    have h3 : CX B enc Tryz.prog W 3 (([c0, c1, c2, c3].drop 3).take (Tryz.prog.cellsOf 3)) := hf 3 _ rfl
    rw [show Tryz.prog.cellsOf 3 = 1 from by kernel_rfl] at h3
    obtain ⟨x3, e3, w3⟩ := h3.int Tryz.underlying3
    simp only [List.drop, List.take, List.cons.injEq, and_true] at e0 e1 e2 e3
    exact ⟨x0, x1, x2, x3, by simp_all, w0, w1, w2, w3⟩
set_option maxRecDepth 100000 in
theorem Fg (os : Os) (started : os.Started) (H : Type) (enc : TypeId × Value → H) :
    ReturnsInHanded {} Tryz.checked os 3 .any (fun w args => (Rows.viTargetsSpec.pre enc Tryz.prog Tryz.f3 Rows.viTargetsRow.domain false w args ∧ laidMetH Tryz.prog RN w) ∧ sizedMet enc Tryz.prog Tryz.f3 (OpenSpec.ofChange Rows.viTargetsSpec) false w args) (Rows.viTargetsSpec.post enc Tryz.prog Tryz.f3 false true false false) := by
  refine Js (C := Tryz.checked) (tb := 4) _ own laid started (by kernel_rfl) Tryz.func3 (congrArg Array.toList Tryz.params3) rfl Tryz.underlying4 rfl (by kernel_rfl) (fun ds hd => ?_)
    (ChangeSpec.witness_shaped (enc := enc) (C := Tryz.checked) (os := os) (X := fun w _ => laidMetH Tryz.prog RN w) false (World.doorLaid Tryz.prog 400 os) #[.slice none 0 0, .agg #[.int .i64 0, .int .i32 0, .int .i32 0, .int .i64 0]] 8 rfl (World.shaped_of_RefB (by kernel_rfl) (by kernel_rfl)) (by kernel_rfl) (by kernel_rfl) (by kernel_rfl) (Vs os _)) ?_
  · obtain ⟨a0, a1, rfl⟩ := YC hd
    rfl
  intro W args hL hin
  have hT := YG hL
  obtain ⟨v1, v2, rfl, ⟨⟨_, o1⟩, i1⟩, ⟨⟨_, o2⟩, i2⟩⟩ := hin.two
  obtain ⟨a1, n1, c1, rfl⟩ := okWide_slice Tryz.underlying22 o1
  obtain ⟨cs, rfl, -⟩ := okWide_struct Tryz.underlying24 o2
  obtain ⟨v, l, e1, g1, bl, -⟩ := i1.ints Tryz.underlying22 Tryz.underlying21 (by kernel_rfl)
  obtain rfl := List.singleton_inj.1 e1
  obtain ⟨x0, x1, x2, x3, e, w0', w1', w2', w3'⟩ := Zx i2
  obtain rfl : cs = #[.int .i64 x0, .int .i32 x1, .int .i32 x2, .int .i64 x3] := Array.ext' e
  have hn := adv w3'
  rw [show Tryz.prog.bytesOf 21 = 4 from by kernel_rfl, show reachBytes = 140737488351232 from rfl] at bl
  exact RF hT g1 (by omega) (by omega)
theorem Fh : Rows.ViTargetsSaid :=
  OpenClaim.holds_of_wide 3 Tryz.f3 rfl rfl rfl rfl rfl rfl rfl ⟨rfl, rfl, rfl, rfl, rfl⟩ rfl rfl rfl rfl rfl (by kernel_rfl) Tryz.func3 (by kernel_rfl)
    (of_decide_eq_true (by kernel_rfl)) (by unfold Func.isWrapper; first | (rw [if_pos (by decide +kernel)]; kernel_rfl) | (rw [if_neg (by decide +kernel)]; exact ⟨rfl, rfl⟩))
    (fun os started H enc _ => Fg os started H enc)
theorem viTargets_card : Rows.ViTargetsCardSaid :=
  Claim7.holds_tied_plain_at .later [] [.widerDeep, .widerDeep] true (true, "99a5bb9fd978799d876f5c744ef21e54f7b6a4f05c2918ab827c141780b2be91") false
    Fh (fun _ h => by cases h) (by kernel_rfl) (fun _ h => by cases h) viTargets_row_tie rfl ⟨rfl, rfl⟩ (by kernel_rfl) rfl
    (fun f fn hf hfn => by
      obtain rfl : f = 3 := Option.some.inj ((show Tryz.prog.funcNamed "lanyard/lanyardlaw19.ViTargets" = some 3 by kernel_rfl).symm.trans hf) |>.symm
      obtain rfl : fn = Tryz.f3 := (Option.some.inj (Tryz.func3.symm.trans hfn)).symm
      exact ⟨by kernel_rfl, fun j t ht => by
        rw [Tryz.params3] at ht
        have hm : t ∈ [22, 24] := by simpa using Array.mem_of_getElem? ht
        have hall : ([22, 24].all fun u => !Tryz.prog.wantsStandIn u) = true := by kernel_rfl
        exact (show Tryz.prog.wantsStandIn t = false by simpa using List.all_eq_true.1 hall t hm)⟩)
    (by kernel_rfl)
end Go.Proofs.YtpdeedplgmbopaaGreatDoor
end
