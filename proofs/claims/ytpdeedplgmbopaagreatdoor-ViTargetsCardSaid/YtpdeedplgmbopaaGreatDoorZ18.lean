import Derived.Test.YtpdeedplgmbopaaGreatDoorZ4
import Derived.Test.YtpdeedplgmbopaaGreatDoorZ17
import Derived.Test.YtpdeedplgmbopaaGreatDoorZ9
import Derived.Test.YtpdeedplgmbopaaGreatDoorZ11
import Derived.Test.YtpdeedplgmbopaaGreatDoorZ8
import Derived.Test.YtpdeedplgmbopaaGreatDoorZ7
import Derived.Test.YtpdeedplgmbopaaGreatDoorZ6
set_option linter.unusedSimpArgs false
set_option linter.unusedVariables false
/- Texts of mine, joined, their names in short: VGo2 VT VO VMove RLs Ref7. -/
section
namespace Go.Proofs.YtpdeedplgmbopaaGreatDoor
open Go.RowKit
open _root_.Go.Proofs.Tryz
def pR (k : Nat) : Value := .func (.func k) #[] #[]
def FT (q1 q2 q3 q4 q5 q6 : MP) : HP := nS q6 (pR 97) true true (pR 94) • nS q5 (pR 97) false true (pR 94) • nS q4 (pR 96) true false (pR 93) • nS q3 (pR 96) false false (pR 93) • nS q2 (pR 95) true false (pR 92) • nS q1 (pR 95) false false (pR 92)
def Bo (q1 q2 q3 q4 q5 q6 : MP) : Int → Option Value := upd (upd (upd (upd (upd (upd (fun _ => none) 119 (O6 q1)) 87 (O6 q2)) 98 (O6 q3)) 66 (O6 q4)) 101 (O6 q5)) 69 (O6 q6)
section
variable {w0 w : World} {F : HP} {v sv mv : Value} {l : List Int} {x n key : Int} {b t : Bool} {q1 q2 q3 q4 q5 q6 : MP}
theorem EZ {k1 k2 : Nat} (H : V w0 w F) : sV prog (pR 88) [pR k1, .bool b, .bool t, pR k2] w fun u w' => ∃ p, u = O6 p ∧ V w0 w' (nS p (pR k1) b t (pR k2) • F) := by
  refine ⟨_, [], [], _, _, O, func88, O, O, ?_⟩
  simp only [List.nil_append, List.append_nil]
  refine aaz func88 ntmps88 ?_
  refine gW (jL (jf (l := [_]) H O O) ?_)
  rintro _ w1 ⟨b1, rfl, H1⟩
  refine jL (jf (l := [_]) H1 O O) ?_
  rintro _ w2 ⟨b2, rfl, H2⟩
  refine jL (jf (l := [_]) H2 O O) ?_
  rintro _ w3 ⟨b3, rfl, H3⟩
  refine jL (jf (l := [_]) H3 O O) ?_
  rintro _ w4 ⟨b4, rfl, H4⟩
  refine fV O (gW (Z (wY O O) (dU O (dF results88 O ?_))))
  exact ⟨⟨_, _, _, _⟩, O, (H4).of_eq (by unfold nS; simp only [dB])⟩
theorem sV.mono {P : Program} {fv : Value} {vs : List Value} {w : World} {T T' : Value → World → Prop} (h : sV P fv vs w T) (k : ∀ v w', T v w' → T' v w') : sV P fv vs w T' := by
  obtain ⟨f, a, c, fn, b, h1, h2, h3, h4, h5⟩ := h
  exact ⟨f, a, c, fn, b, h1, h2, h3, h4, h5.mono k⟩
theorem Rj (H : V w0 w F) : ig prog 39 #[] w fun u w' => ∃ b q1 q2 q3 q4 q5 q6, u = .map (some b) ∧ V w0 w' (gy (xB .i32) b (Bo q1 q2 q3 q4 q5 q6) • FT q1 q2 q3 q4 q5 q6 • F) := by
  refine TK func39 ntmps39 ?_
  refine jy O (jy O (jy O (jy O (jy O (gW (jL (jX (xB .i32) H) ?_))))))
  rintro _ w1 ⟨b1, rfl, H1⟩
  refine jr O O (jL (oG O O (EZ (k1 := 95) (k2 := 92) H1)) ?_)
  rintro _ w2 ⟨q1, rfl, H2⟩
  refine aO (zi H2.f2 nT aQ O O O) ?_
  rintro _ w3 H3
  refine jr O O (jL (oG O O (EZ (k1 := 95) (k2 := 92) H3)) ?_)
  rintro _ w4 ⟨q2, rfl, H4⟩
  refine aO (zi H4.f2 nT aQ O O O) ?_
  rintro _ w5 H5
  refine jr O O (jL (oG O O (EZ (k1 := 96) (k2 := 93) H5)) ?_)
  rintro _ w6 ⟨q3, rfl, H6⟩
  refine aO (zi H6.f2 nT aQ O O O) ?_
  rintro _ w7 H7
  refine jr O O (jL (oG O O (EZ (k1 := 96) (k2 := 93) H7)) ?_)
  rintro _ w8 ⟨q4, rfl, H8⟩
  refine aO (zi H8.f2 nT aQ O O O) ?_
  rintro _ w9 H9
  refine jr O O (jL (oG O O (EZ (k1 := 97) (k2 := 94) H9)) ?_)
  rintro _ w10 ⟨q5, rfl, rD⟩
  refine aO (zi rD.f2 nT aQ O O O) ?_
  rintro _ ED rM
  refine jr O O (jL (oG O O (EZ (k1 := 97) (k2 := 94) rM)) ?_)
  rintro _ w12 ⟨q6, rfl, vX⟩
  refine aO (zi vX.f2 nT aQ O O O) ?_
  rintro _ PO xM
  refine bG O (dU O (dF results39 O ?_))
  exact ⟨_, q1, q2, q3, q4, q5, q6, O, (xM).of_eq (by unfold FT; simp only [dB]; rfl)⟩
theorem O7 (h : ¬ (key = 119 ∨ key = 87 ∨ key = 98 ∨ key = 66 ∨ key = 101 ∨ key = 69)) : Bo q1 q2 q3 q4 q5 q6 key = none := by
  unfold Bo upd
  rw [if_neg (by omega), if_neg (by omega), if_neg (by omega), if_neg (by omega), if_neg (by omega), if_neg (by omega)]
theorem O8 (h : key = 119 ∨ key = 87 ∨ key = 98 ∨ key = 66 ∨ key = 101 ∨ key = 69) : (Bo q1 q2 q3 q4 q5 q6 key).isSome = true := by
  rcases h with rfl | rfl | rfl | rfl | rfl | rfl <;> rfl
theorem O9 (H : V w0 w (FT q1 q2 q3 q4 q5 q6 • F)) (hk : key = 119 ∨ key = 87 ∨ key = 98 ∨ key = 66 ∨ key = 101 ∨ key = 69) (hT : zA w0) (hr : jE w0 F .i32 v l) (hl : l.length ≤ 4611686018427387904) (hx : Yk l x) (hn : n ≤ 9223372036854775807) (z : Value) :
    sV prog ((Bo q1 q2 q3 q4 q5 q6 key).getD z) [v, .int .i64 x, .int .i64 n] w fun u w' => u = F7 (kZ l x key n) ∧ V w0 w' (FT q1 q2 q3 q4 q5 q6 • F) := by
  unfold FT at H ⊢
  have hI1 : ∀ y, decide (y < (l.length : Int) - 1) = true → Yk l y → XH l y := fun y h1 h2 => ⟨h2.1, by have := of_decide_eq_true h1; omega⟩
  rcases hk with rfl | rfl | rfl | rfl | rfl | rfl
  · refine sV.mono (zq (p := q1) (F := nS q6 (pR 97) true true (pR 94) • nS q5 (pR 97) false true (pR 94) • nS q4 (pR 96) true false (pR 93) • nS q3 (pR 96) false false (pR 93) • nS q2 (pR 95) true false (pR 92) • F) (H.of_eq (by ac_rfl)) (KQ hT) Jc (fun y h1 h2 => h2) (fun W HW => hr W HW.right.right.right.right.right) hl hx hn) fun u W h => ⟨h.1.trans (by unfold kZ; simp), h.2.of_eq (by ac_rfl)⟩
  · refine sV.mono (zq (p := q2) (F := nS q6 (pR 97) true true (pR 94) • nS q5 (pR 97) false true (pR 94) • nS q4 (pR 96) true false (pR 93) • nS q3 (pR 96) false false (pR 93) • nS q1 (pR 95) false false (pR 92) • F) (H.of_eq (by ac_rfl)) (KQ hT) Jc (fun y h1 h2 => h2) (fun W HW => hr W HW.right.right.right.right.right) hl hx hn) fun u W h => ⟨h.1.trans (by unfold kZ; simp), h.2.of_eq (by ac_rfl)⟩
  · refine sV.mono (zq (p := q3) (F := nS q6 (pR 97) true true (pR 94) • nS q5 (pR 97) false true (pR 94) • nS q4 (pR 96) true false (pR 93) • nS q2 (pR 95) true false (pR 92) • nS q1 (pR 95) false false (pR 92) • F) (H.of_eq (by ac_rfl)) (KR hT) KT (fun y h1 h2 => h2) (fun W HW => hr W HW.right.right.right.right.right) hl hx hn) fun u W h => ⟨h.1.trans (by unfold kZ; simp), h.2.of_eq (by ac_rfl)⟩
  · refine sV.mono (zq (p := q4) (F := nS q6 (pR 97) true true (pR 94) • nS q5 (pR 97) false true (pR 94) • nS q3 (pR 96) false false (pR 93) • nS q2 (pR 95) true false (pR 92) • nS q1 (pR 95) false false (pR 92) • F) (H.of_eq (by ac_rfl)) (KR hT) KT (fun y h1 h2 => h2) (fun W HW => hr W HW.right.right.right.right.right) hl hx hn) fun u W h => ⟨h.1.trans (by unfold kZ; simp), h.2.of_eq (by ac_rfl)⟩
  · refine sV.mono (zq (p := q5) (F := nS q6 (pR 97) true true (pR 94) • nS q4 (pR 96) true false (pR 93) • nS q3 (pR 96) false false (pR 93) • nS q2 (pR 95) true false (pR 92) • nS q1 (pR 95) false false (pR 92) • F) (H.of_eq (by ac_rfl)) (step_end hT) Jd (fun y h1 h2 => hI1 y h1 h2) (fun W HW => hr W HW.right.right.right.right.right) hl hx hn) fun u W h => ⟨h.1.trans (by unfold kZ; simp), h.2.of_eq (by ac_rfl)⟩
  · refine sV.mono (zq (p := q6) (F := nS q5 (pR 97) false true (pR 94) • nS q4 (pR 96) true false (pR 93) • nS q3 (pR 96) false false (pR 93) • nS q2 (pR 95) true false (pR 92) • nS q1 (pR 95) false false (pR 92) • F) (H.of_eq (by ac_rfl)) (step_end hT) Jd (fun y h1 h2 => hI1 y h1 h2) (fun W HW => hr W HW.right.right.right.right.right) hl hx hn) fun u W h => ⟨h.1.trans (by unfold kZ; simp), h.2.of_eq (by ac_rfl)⟩
end
section
variable {w0 w : World} {F : HP} {v fv : Value} {l : List Int} {x n key c r : Int} {P : Int → Bool} {given : Bool}
theorem Rk (H : V w0 w F) (hr : jE w0 F .i32 v l) (hf : ∀ W r, V w0 W F → sV prog fv [.int .i32 r] W fun u W' => u = .bool (!P r) ∧ V w0 W' F) : ig prog 40 #[v, fv] w fun u w' => u = .int .i64 (if iU P l 0 < l.length then iU P l 0 else -1) ∧ V w0 w' F := by
 have SC : l.length ≤ 9223372036854775807 := by have := (hr _ H).open; obtain ⟨a, c, e, h3, h4, _⟩ := this; omega
 refine nC func40 ntmps40 ?_
 refine jy O (aK (bM O (Z (fO (hr _ (H)) aj O) (bG O (iy (aV ?_))))))
 refine dJ [(0, _), (1, _), (7, _)] (fun (i : Int) => [(8, .int .i64 i)]) (fun (i : Int) W => ((0 ≤ i ∧ i ≤ l.length) ∧ iU P l i = iU P l 0) ∧ V w0 W F) (fun (i : Int) => (l.length - i).toNat) (0) qC ji ⟨⟨by omega, O⟩, H⟩ ?_
 rintro i w1 ⟨⟨hi, hE⟩, HL⟩
 dsimp only [List.cons_append, List.nil_append]
 refine gW (Z (fF O O) (qW (bI O (fun h1 => ?_) (fun h1 => ?_))))
 ·(try simp only [aC] at h1)
  refine fG (aK (aV (bM O (fV O (bM O (jr O O ?_))))))
  obtain ⟨bv, ov, cv, ev⟩ := dR.nJ (hr _ (HL)) (by omega)
  cases ev
  refine Z (dh aj bF O O (by omega)) ?_
  refine Z (dH (bT aQ O) O (by first | exact dR.jo (hr _ (HL)) (by omega) | exact dR.qB (hr _ (HL)) (by omega) | exact dR.qx (hr _ (HL)) (by omega))) ?_
  refine jL (oG O O (hf _ (l.getD i.toNat 0) HL)) ?_
  rintro _ w2 ⟨rfl, H2⟩
  refine gQ O (fun h2 => ?_) (fun h2 => ?_)
  ·(try simp only [aC] at h2)
   have hP : ¬ P (l.getD i.toNat 0) = true := by have h9 := h2; simpa using h9
   refine bM O (dU O (aN (ay (ay (aN (ay (dF results40 O ?_)))))))
   exact ⟨by rw [← hE, fM hi.1 (by omega) hP, if_pos (by omega)], H2⟩
  ·(try simp only [aC] at h2)
   have hP : P (l.getD i.toNat 0) = true := by have h9 := h2; simpa using h9
   refine bY (aG (aW (aA (Z (dP O O (by omega)) (bG O (bD ?_))))))
   refine bZ (i + 1) ?_ ?_ ?_ ?_
   ·exact ji
   ·exact qC
   ·(try dsimp only)
    first | done | exact ⟨⟨by omega, (jY hi.1 (by omega) hP).symm.trans hE⟩, H2⟩
   ·(try dsimp only); omega
 ·(try simp only [aC] at h1)
  refine bQ (aB (aB (aU (aW (jB O (dF results40 O ?_))))))
  exact ⟨by rw [← hE, dZ (by omega), if_neg (by omega)], HL⟩
theorem Rl (H : V w0 w F) (hT : zA w0) : ig prog 41 #[.int .i32 r] w fun u w' => u = .bool (!(dn r == 0)) ∧ V w0 w' F := by
  refine iK func41 ntmps41 ?_
  refine jy O (bM O (dX O func14 (nO H hT) ?_))
  rintro _ w1 ⟨rfl, H1⟩
  refine Z (jv O O) (dU O (dF results41 O ?_))
  exact ⟨O, H1⟩
theorem XI (h : key = 119 ∨ key = 87 ∨ key = 98 ∨ key = 66 ∨ key = 101 ∨ key = 69) : gB l x key c n = kZ l x key n := by
  unfold gB
  rw [if_neg (by omega), if_neg (by omega), if_neg (by omega), if_neg (by omega), if_neg (by omega), if_neg (by omega), if_neg (by omega), if_neg (by omega)]
theorem Ze (h : ¬ (key = 119 ∨ key = 87 ∨ key = 98 ∨ key = 66 ∨ key = 101 ∨ key = 69)) : kZ l x key n = (0, false, false) := by
  unfold kZ
  rw [if_neg (by omega), if_neg (by omega), if_neg (by omega)]
theorem yx (H : V w0 w F) (hr : jE w0 F .i32 v l) (hT : zA w0) (Va : l.length ≤ 4611686018427387904) (hn : n ≤ 9223372036854775807) : ig prog 11 #[v, .int .i64 x, .int .i32 key, .int .i32 c, .int .i64 n, .bool given] w fun u w' => u = F7 (tK l x key c n) ∧ V w0 w' F := by
 obtain ⟨y, hy⟩ : ∃ y, y = min (max x 0) (l.length : Int) := ⟨_, rfl⟩
 obtain ⟨m, hm⟩ : ∃ m, m = max n 1 := ⟨_, rfl⟩
 unfold tK
 rw [← hy, ← hm]
 have hy2 : 0 ≤ y ∧ y ≤ l.length := by omega
 have hm2 : 1 ≤ m ∧ m ≤ 9223372036854775807 := by omega
 refine TG func11 ntmps11 ?_
 dsimp only [vW, Nat.reduceAdd]
 refine gW (dL O (dL O (fV O (bM O (Z (Fj O O) (bG O (Z (fO (hr _ (H)) aj O) (Z (Jq (xY O O) (congrArg (Value.int .i64) hy.symm)) (fV O (bM O (Z (Jq (Fj O O) (congrArg (Value.int .i64) hm.symm)) (tX O (gW (dX O func39 (Rj H) ?_))))))))))))))
 rintro _ w1 ⟨b1, q1, q2, q3, q4, q5, q6, rfl, H1⟩
 refine bG O (Z (AY (H1) nT aQ zeroValue85 O O) (bG O (rW O O (rW O O (dL O (fV O (bM O (gQ O (fun h1 => ?_) (fun h1 => ?_)))))))))
 ·(try simp only [aC] at h1)
  try (exfalso; first | contradiction | omega)
  all_goals
   have hk : key = 119 ∨ key = 87 ∨ key = 98 ∨ key = 66 ∨ key = 101 ∨ key = 69 := Decidable.byContradiction fun hc => by have h9 := h1; rw [O7 hc] at h9; exact absurd h9 (by decide)
   refine bM O (jr O O (bG O (jL (oG O O (O9 H1.f2 hk hT (fun W HW => hr W HW.right) Va hy2 hm2.2 _)) ?_)))
   rintro _ w2 ⟨rfl, H2⟩
   refine rW O O (rW O O (rW O O (dL O (dL O (dU O (ay ?_))))))
   refine dW (.inl O) lK O O O ?_
   exact ⟨by rw [XI hk]; rfl, H2.right.right⟩
 ·(try simp only [aC] at h1)
  try (exfalso; first | contradiction | omega)
  all_goals
   have hk : ¬ (key = 119 ∨ key = 87 ∨ key = 98 ∨ key = 66 ∨ key = 101 ∨ key = 69) := fun hc => by have h9 := h1; rw [O8 hc] at h9; exact absurd h9 (by decide)
   refine fG (aK (bM O (iy (aV (gW (Z (cZ O O) (fV O (bI O (fun h2 => ?_) (fun h2 => ?_)))))))))
   ·(try simp only [aC] at h2)
    try (exfalso; first | contradiction | omega)
    all_goals
     refine aK (bM O (Z (cZ O O) (gQ O (fun h3 => ?_) (fun h3 => ?_))))
     ·(try simp only [aC] at h3)
      try (exfalso; first | contradiction | omega)
      all_goals
       refine gW (dL O (dL O (dU O (ay (aN (ay ?_))))))
       refine dW (.inl O) lK O O O ?_
       exact ⟨by unfold gB; rw [if_pos (by omega), if_pos (by omega)]; rfl, H1.right.right⟩
     ·(try simp only [aC] at h3)
      try (exfalso; first | contradiction | omega)
      all_goals
       refine fG (bM O (jr O O (Z (xY O O) (Z (iG O O (by omega)) (dL O (dL O (dU O (aN (ay ?_)))))))))
       refine dW (.inl O) lK O O O ?_
       exact ⟨by unfold gB; rw [if_pos (by omega), if_neg (by omega)]; rfl, H1.right.right⟩
   ·(try simp only [aC] at h2)
    try (exfalso; first | contradiction | omega)
    all_goals
     refine iY [(0, _), (1, _), (2, _), (3, _), (4, _), (40, _)] (fun (_ : Unit) => [(50, .bool (decide (key = 108 ∨ key = 32)))]) (fun (_ : Unit) W => V w0 W (gy (xB .i32) b1 (Bo q1 q2 q3 q4 q5 q6) • FT q1 q2 q3 q4 q5 q6 • F)) Cj ?_ ?_
     ·rintro _ w3 HJ
      dsimp only [List.cons_append, List.nil_append]
      refine bI O (fun h4 => ?_) (fun h4 => ?_)
      ·(try simp only [aC] at h4)
       try (exfalso; first | contradiction | omega)
       all_goals
        refine aK (bM O (bG O (Z (fO (hr _ (HJ.right.right)) aj O) (Z (cZ O O) (gQ O (fun h5 => ?_) (fun h5 => ?_))))))
        ·(try simp only [aC] at h5)
         try (exfalso; first | contradiction | omega)
         all_goals
          refine gW (dL O (dL O (dU O (ay (aN (ay ?_))))))
          refine dW (.inl O) lK O O O ?_
          exact ⟨by unfold gB; rw [if_neg (by omega), if_pos (by omega), if_pos (by omega)]; rfl, HJ.right.right⟩
        ·(try simp only [aC] at h5)
         try (exfalso; first | contradiction | omega)
         all_goals
          refine fG (bM O (jr O O (Z (fO (hr _ (HJ.right.right)) aj O) (bG O (Z (iG O O (by omega)) (Z (xY O O) (Z (dP O O (by omega)) (dL O (dL O (dU O (aN (ay ?_))))))))))))
          refine dW (.inl O) lK O O O ?_
          exact ⟨by unfold gB; rw [if_neg (by omega), if_pos (by omega), if_neg (by omega)]; rfl, HJ.right.right⟩
      ·(try simp only [aC] at h4)
       try (exfalso; first | contradiction | omega)
       all_goals
        refine gW (Z (cZ O O) (fV O (bI O (fun h6 => ?_) (fun h6 => ?_))))
        ·(try simp only [aC] at h6)
         try (exfalso; first | contradiction | omega)
         all_goals
          refine gW (dL O (dL O (dU O (aN (ay ?_)))))
          refine dW (.inl O) lK O O O ?_
          exact ⟨by unfold gB; rw [if_neg (by omega), if_neg (by omega), if_pos (by omega)]; rfl, HJ.right.right⟩
        ·(try simp only [aC] at h6)
         try (exfalso; first | contradiction | omega)
         all_goals
          refine gW (Z (cZ O O) (fV O (bI O (fun h7 => ?_) (fun h7 => ?_))))
          ·(try simp only [aC] at h7)
           try (exfalso; first | contradiction | omega)
           all_goals
            refine bM O (Z (fO (hr _ (HJ.right.right)) aj O) (dL O (dL O (dU O (aN (ay ?_))))))
            refine dW (.inl O) lK O O O ?_
            exact ⟨by unfold gB; rw [if_neg (by omega), if_neg (by omega), if_neg (by omega), if_pos (by omega)]; rfl, HJ.right.right⟩
          ·(try simp only [aC] at h7)
           try (exfalso; first | contradiction | omega)
           all_goals
            refine gW (Z (cZ O O) (fV O (bI O (fun h8 => ?_) (fun h8 => ?_))))
            ·(try simp only [aC] at h8)
             try (exfalso; first | contradiction | omega)
             all_goals
              refine bM O (Z (iG O O (by omega)) (bG O (Z (fO (hr _ (HJ.right.right)) aj O) (Z (xY O O) (dL O (dL O (dU O (aN (ay ?_)))))))))
              refine dW (.inl O) lK O O O ?_
              exact ⟨by unfold gB; rw [if_neg (by omega), if_neg (by omega), if_neg (by omega), if_neg (by omega), if_neg (by omega), if_pos (by omega)]; rfl, HJ.right.right⟩
            ·(try simp only [aC] at h8)
             try (exfalso; first | contradiction | omega)
             all_goals
              refine gW (Z (cZ O O) (fV O (bI O (fun h9 => ?_) (fun h9 => ?_))))
              ·(try simp only [aC] at h9)
               try (exfalso; first | contradiction | omega)
               all_goals
                refine bM O (dX O func40 (Rk (P := fun r => dn r == 0) HJ (fun W HW => hr _ (HW.right.right)) (fun W r HW => ⟨41, [], [], _, _, O, func41, O, O, Rl HW hT⟩)) ?_)
                rintro _ w4 ⟨rfl, H4⟩
                have hrb := rU (P := fun r => dn r == 0) (l := l) (x := 0) (by omega) (by omega)
                refine fV O ?_
                refine iY [] (fun (_ : Unit) => [(17, .int .i64 (iU (fun r => dn r == 0) l 0))]) (fun (_ : Unit) W => V w0 W (gy (xB .i32) b1 (Bo q1 q2 q3 q4 q5 q6) • FT q1 q2 q3 q4 q5 q6 • F)) (Sub.nil _) ?_ ?_
                ·rintro _ w5 HN
                 dsimp only [List.cons_append, List.nil_append]
                 refine bM O (dL O (dL O (dU O (aN (ay ?_)))))
                 refine dW (.inl O) lK O O O ?_
                 exact ⟨by unfold gB; rw [if_neg (by omega), if_neg (by omega), if_neg (by omega), if_neg (by omega), if_pos (by omega)]; rfl, HN.right.right⟩
                ·skip
                 refine bM O (Z (fF O O) (gQ O (fun h10 => ?_) (fun h10 => ?_)))
                 ·(try simp only [aC] at h10)
                  try (exfalso; first | contradiction | omega)
                  all_goals
                   refine aA (bG O (Z (fO (hr _ (H4.right.right)) aj O) (dL O (bD ?_))))
                   refine cO (()) ?_ ?_ ?_
                   ·exact (Sub.eP O (by congr 1; by_cases hq : iU (fun r => dn r == 0) l 0 < l.length <;> simp_all <;> omega) (Sub.nil _))
                   ·exact (Sub.nil _)
                   ·(try dsimp only)
                    first | done | exact H4.f2.f2
                 ·(try simp only [aC] at h10)
                  try (exfalso; first | contradiction | omega)
                  all_goals
                   refine bY ?_
                   refine cO (()) ?_ ?_ ?_
                   ·exact (Sub.eP O (by congr 1; by_cases hq : iU (fun r => dn r == 0) l 0 < l.length <;> simp_all <;> omega) (Sub.nil _))
                   ·exact (Sub.nil _)
                   ·(try dsimp only)
                    first | done | exact H4.f2.f2
              ·(try simp only [aC] at h9)
               try (exfalso; first | contradiction | omega)
               all_goals
                refine iY [(0, _), (1, _), (2, _), (3, _), (4, _), (40, _)] (fun (_ : Unit) => [(87, .bool (decide (key = 102 ∨ key = 70 ∨ key = 116 ∨ key = 84)))]) (fun (_ : Unit) W => V w0 W (gy (xB .i32) b1 (Bo q1 q2 q3 q4 q5 q6) • FT q1 q2 q3 q4 q5 q6 • F)) Cj ?_ ?_
                ·rintro _ w6 HK
                 dsimp only [List.cons_append, List.nil_append]
                 refine bI O (fun h11 => ?_) (fun h11 => ?_)
                 ·(try simp only [aC] at h11)
                  try (exfalso; first | contradiction | omega)
                  all_goals
                   refine bM O (jr O O (jr O O (dX O func42 (QF HK (fun W HW => hr _ (HW.right.right)) (by omega) (by omega) (by omega) (by omega)) ?_)))
                   rintro _ w7 ⟨rfl, H7⟩
                   refine rW O O (rW O O (rW O O (dL O (dL O (dU O (aN (ay ?_)))))))
                   refine dW (.inl O) lK O O O ?_
                   exact ⟨by unfold gB; rw [if_neg (by omega), if_neg (by omega), if_neg (by omega), if_neg (by omega), if_neg (by omega), if_neg (by omega), if_pos (by omega)]; rfl, H7.right.right⟩
                 ·(try simp only [aC] at h11)
                  try (exfalso; first | contradiction | omega)
                  all_goals
                   refine gW (Z (cZ O O) (fV O (bI O (fun h12 => ?_) (fun h12 => ?_))))
                   ·(try simp only [aC] at h12)
                    try (exfalso; first | contradiction | omega)
                    all_goals
                     refine bM O (bG O (dX O func43 (MV HK (fun W HW => hr _ (HW.right.right)) (by omega) (by omega)) ?_))
                     rintro _ w8 ⟨rfl, H8⟩
                     refine rW O O (rW O O (rW O O (dL O (dL O (dU O (aN (ay ?_)))))))
                     refine dW (.inl O) lK O O O ?_
                     exact ⟨by unfold gB; rw [if_neg (by omega), if_neg (by omega), if_neg (by omega), if_neg (by omega), if_neg (by omega), if_neg (by omega), if_neg (by omega), if_pos (by omega)]; rfl, H8.right.right⟩
                   ·(try simp only [aC] at h12)
                    try (exfalso; first | contradiction | omega)
                    all_goals
                     refine bY (aG (aW (gW (dL O (dL O (dU O ?_))))))
                     refine dW (.inl O) lK O O O ?_
                     exact ⟨by unfold gB; rw [if_neg (by omega), if_neg (by omega), if_neg (by omega), if_neg (by omega), if_neg (by omega), if_neg (by omega), if_neg (by omega), if_neg (by omega), Ze hk]; rfl, HK.right.right⟩
                ·skip
                 refine gW (Z (cZ O O) (fV O (bI O (fun h13 => ?_) (fun h13 => ?_))))
                 ·(try simp only [aC] at h13)
                  try (exfalso; first | contradiction | omega)
                  all_goals
                   refine bY ?_
                   refine cO (()) ?_ ?_ ?_
                   ·exact (Sub.eP O (congrArg Value.bool (decide_eq_decide.2 (by omega))) (Sub.nil _))
                   ·exact Cj
                   ·(try dsimp only)
                    first | done | exact HJ.f2.f2
                 ·(try simp only [aC] at h13)
                  try (exfalso; first | contradiction | omega)
                  all_goals
                   refine gW (Z (cZ O O) (fV O (bI O (fun h14 => ?_) (fun h14 => ?_))))
                   ·(try simp only [aC] at h14)
                    try (exfalso; first | contradiction | omega)
                    all_goals
                     refine bY ?_
                     refine cO (()) ?_ ?_ ?_
                     ·exact (Sub.eP O (congrArg Value.bool (decide_eq_decide.2 (by omega))) (Sub.nil _))
                     ·exact Cj
                     ·(try dsimp only)
                      first | done | exact HJ.f2.f2
                   ·(try simp only [aC] at h14)
                    try (exfalso; first | contradiction | omega)
                    all_goals
                     refine gW (Z (cZ O O) (fV O (bI O (fun h15 => ?_) (fun h15 => ?_))))
                     ·(try simp only [aC] at h15)
                      try (exfalso; first | contradiction | omega)
                      all_goals
                       refine bY ?_
                       refine cO (()) ?_ ?_ ?_
                       ·exact (Sub.eP O (congrArg Value.bool (decide_eq_decide.2 (by omega))) (Sub.nil _))
                       ·exact Cj
                       ·(try dsimp only)
                        first | done | exact HJ.f2.f2
                     ·(try simp only [aC] at h15)
                      try (exfalso; first | contradiction | omega)
                      all_goals
                       refine aA (Z (cZ O O) (dL O (bD ?_)))
                       refine cO (()) ?_ ?_ ?_
                       ·exact (Sub.eP O (congrArg Value.bool (decide_eq_decide.2 (by omega))) (Sub.nil _))
                       ·exact Cj
                       ·(try dsimp only)
                        first | done | exact HJ.f2.f2
     ·skip
      refine gW (Z (cZ O O) (fV O (bI O (fun h16 => ?_) (fun h16 => ?_))))
      ·(try simp only [aC] at h16)
       try (exfalso; first | contradiction | omega)
       all_goals
        refine bY ?_
        refine cO (()) ?_ ?_ ?_
        ·exact (Sub.eP O (congrArg Value.bool (decide_eq_decide.2 (by omega))) (Sub.nil _))
        ·exact Cj
        ·(try dsimp only)
         first | done | exact H1.f2.f2
      ·(try simp only [aC] at h16)
       try (exfalso; first | contradiction | omega)
       all_goals
        refine aA (Z (cZ O O) (dL O (bD ?_)))
        refine cO (()) ?_ ?_ ?_
        ·exact (Sub.eP O (congrArg Value.bool (decide_eq_decide.2 (by omega))) (Sub.nil _))
        ·exact Cj
        ·(try dsimp only)
         first | done | exact H1.f2.f2
end
def Rn : ByteArray := ⟨#[102, 70, 116, 84]⟩
def rO (n : ByteArray) : ByteArray :=
  if n.toList = zQ.toList then ⟨#[100, 68]⟩ else if n.toList = Dl.toList then ⟨#[99, 67]⟩ else if n.toList = EU.toList then ⟨#[121, 89]⟩ else if n.toList = WO.toList then ⟨#[120, 88]⟩ else
  if n.toList = WU.toList then ⟨#[115, 83]⟩ else if n.toList = WT.toList then ⟨#[112, 80]⟩ else if n.toList = WR.toList then ⟨#[105, 97, 73, 65]⟩ else if n.toList = WV.toList then ⟨#[117, 85]⟩ else ⟨#[]⟩
namespace VM
variable (M : VM)
def tgt (l : List Int) (p : Int) (keys : List Int) (n : Int) : Int × Bool × Bool :=
  if keys.length = 0 then (0, false, false)
  else if keys.getD 0 0 = 96 then (M.at (if 1 < keys.length then keys.getD 1 0 else 0), false, decide (0 ≤ M.at (if 1 < keys.length then keys.getD 1 0 else 0) ∧ M.at (if 1 < keys.length then keys.getD 1 0 else 0) ≤ l.length))
  else if keys.getD 0 0 = 59 ∨ keys.getD 0 0 = 44 then (if M.fk = 0 then (0, false, false) else tK l p (if keys.getD 0 0 = 44 then bits .xor .i32 M.fk 32 else M.fk) M.fc n)
  else tK l p (keys.getD 0 0) (if 1 < keys.length then keys.getD 1 0 else 0) n
def sought (l : List Int) (p : Int) (keys : List Int) (n : Int) : VM :=
  if keys.length = 0 then M else if keys.getD 0 0 = 96 then M else if keys.getD 0 0 = 59 ∨ keys.getD 0 0 = 44 then M
  else if (tK l p (keys.getD 0 0) (if 1 < keys.length then keys.getD 1 0 else 0) n).2.2 = true ∧ keys.getD 0 0 ∈ xU Rn then { M with fk := keys.getD 0 0, fc := if 1 < keys.length then keys.getD 1 0 else 0 } else M
end VM
section
variable {w0 w : World} {F : HP} {c m e : Nat} {s : dN} {name : ByteArray} {kv lv qv : Value} {keys l ks : List Int} {n p x q : Int} {g : Bool} {M M' : VM}
theorem Pe : ig prog 160 #[.string name] w fun v w' => v = .string (rO name) ∧ w = w' := by
 refine iK func160 ntmps160 ?_
 refine jy O (aK (bM O (iy (aV (gW (Z (gY O O) (fV O (bI O (fun h1 => ?_) (fun h1 => ?_)))))))))
 ·(try simp only [aC] at h1)
  refine jB O (aN (ay (dF nI O ?_)))
  refine ⟨congrArg Value.string ?_, O⟩
  unfold rO
  repeat (first | (rw [if_pos (by assumption)]; done) | rw [if_neg (by assumption)])
 ·(try simp only [aC] at h1)
  refine gW (Z (gY O O) (fV O (bI O (fun h2 => ?_) (fun h2 => ?_))))
  ·(try simp only [aC] at h2)
   refine jB O (aN (ay (dF nI O ?_)))
   refine ⟨congrArg Value.string ?_, O⟩
   unfold rO
   repeat (first | (rw [if_pos (by assumption)]; done) | rw [if_neg (by assumption)])
  ·(try simp only [aC] at h2)
   refine gW (Z (gY O O) (fV O (bI O (fun h3 => ?_) (fun h3 => ?_))))
   ·(try simp only [aC] at h3)
    refine jB O (aN (ay (dF nI O ?_)))
    refine ⟨congrArg Value.string ?_, O⟩
    unfold rO
    repeat (first | (rw [if_pos (by assumption)]; done) | rw [if_neg (by assumption)])
   ·(try simp only [aC] at h3)
    refine gW (Z (gY O O) (fV O (bI O (fun h4 => ?_) (fun h4 => ?_))))
    ·(try simp only [aC] at h4)
     refine jB O (aN (ay (dF nI O ?_)))
     refine ⟨congrArg Value.string ?_, O⟩
     unfold rO
     repeat (first | (rw [if_pos (by assumption)]; done) | rw [if_neg (by assumption)])
    ·(try simp only [aC] at h4)
     refine gW (Z (gY O O) (fV O (bI O (fun h5 => ?_) (fun h5 => ?_))))
     ·(try simp only [aC] at h5)
      refine jB O (aN (ay (dF nI O ?_)))
      refine ⟨congrArg Value.string ?_, O⟩
      unfold rO
      repeat (first | (rw [if_pos (by assumption)]; done) | rw [if_neg (by assumption)])
     ·(try simp only [aC] at h5)
      refine gW (Z (gY O O) (fV O (bI O (fun h6 => ?_) (fun h6 => ?_))))
      ·(try simp only [aC] at h6)
       refine jB O (aN (ay (dF nI O ?_)))
       refine ⟨congrArg Value.string ?_, O⟩
       unfold rO
       repeat (first | (rw [if_pos (by assumption)]; done) | rw [if_neg (by assumption)])
      ·(try simp only [aC] at h6)
       refine gW (Z (gY O O) (fV O (bI O (fun h7 => ?_) (fun h7 => ?_))))
       ·(try simp only [aC] at h7)
        refine jB O (aN (ay (dF nI O ?_)))
        refine ⟨congrArg Value.string ?_, O⟩
        unfold rO
        repeat (first | (rw [if_pos (by assumption)]; done) | rw [if_neg (by assumption)])
       ·(try simp only [aC] at h7)
        refine gW (Z (gY O O) (fV O (bI O (fun h8 => ?_) (fun h8 => ?_))))
        ·(try simp only [aC] at h8)
         refine jB O (aN (ay (dF nI O ?_)))
         refine ⟨congrArg Value.string ?_, O⟩
         unfold rO
         repeat (first | (rw [if_pos (by assumption)]; done) | rw [if_neg (by assumption)])
        ·(try simp only [aC] at h8)
         refine bY (aG (aW (jB O (dF nI O ?_))))
         refine ⟨congrArg Value.string ?_, O⟩
         unfold rO
         repeat (first | (rw [if_pos (by assumption)]; done) | rw [if_neg (by assumption)])
theorem ac9 (h : keys.length = 0) : M.tgt l p keys n = (0, false, false) ∧ M.sought l p keys n = M := ⟨if_pos h, if_pos h⟩
theorem aak (h : ¬ keys.length = 0) (h1 : keys.getD 0 0 = 96) : M.tgt l p keys n = (M.at (if 1 < keys.length then keys.getD 1 0 else 0), false, decide (0 ≤ M.at (if 1 < keys.length then keys.getD 1 0 else 0) ∧ M.at (if 1 < keys.length then keys.getD 1 0 else 0) ≤ l.length)) ∧ M.sought l p keys n = M := by
  unfold VM.tgt VM.sought; rw [if_neg h, if_neg h, if_pos h1, if_pos h1]; exact ⟨rfl, rfl⟩
theorem ada (h : ¬ keys.length = 0) (h1 : ¬ keys.getD 0 0 = 96) (h2 : keys.getD 0 0 = 59 ∨ keys.getD 0 0 = 44) : M.tgt l p keys n = (if M.fk = 0 then (0, false, false) else tK l p (if keys.getD 0 0 = 44 then bits .xor .i32 M.fk 32 else M.fk) M.fc n) ∧ M.sought l p keys n = M := by
  unfold VM.tgt VM.sought; rw [if_neg h, if_neg h, if_neg h1, if_neg h1, if_pos h2, if_pos h2]; exact ⟨rfl, rfl⟩
theorem adb (h : ¬ keys.length = 0) (h1 : ¬ keys.getD 0 0 = 96) (h2 : ¬ (keys.getD 0 0 = 59 ∨ keys.getD 0 0 = 44)) : M.tgt l p keys n = tK l p (keys.getD 0 0) (if 1 < keys.length then keys.getD 1 0 else 0) n ∧ M.sought l p keys n = (if (tK l p (keys.getD 0 0) (if 1 < keys.length then keys.getD 1 0 else 0) n).2.2 = true ∧ keys.getD 0 0 ∈ xU Rn then { M with fk := keys.getD 0 0, fc := (if 1 < keys.length then keys.getD 1 0 else 0) } else M) := by
  unfold VM.tgt VM.sought; rw [if_neg h, if_neg h, if_neg h1, if_neg h1, if_neg h2, if_neg h2]; exact ⟨rfl, rfl⟩
theorem XJ (H : V w0 w (VC c m e name kv q g lv p • lD 21 .i32 lv l • qI m M • F)) (hr : jE w0 F .i32 qv keys) (hT : zA w0) (SC : l.length ≤ 4611686018427387904) (hn : n ≤ 9223372036854775807) :
  ig prog 162 #[.pointer (some ⟨c, 0, none⟩), qv, .int .i64 n] w fun v w' => v = F7 (M.tgt l p keys n) ∧ V w0 w' (VC c m e name kv q g lv p • lD 21 .i32 lv l • qI m (M.sought l p keys n) • F) := by
 refine DL func162 ntmps162 ?_
 refine gW (dL O (dL O (tX O (bM O (Z (fO (hr _ (H.right.right.right)) aj O) (Z (cZ O O) (gQ O (fun h1 => ?_) (fun h1 => ?_))))))))
 ·(try simp only [aC] at h1)
  refine gW (dL O (dL O (dU O (ay ?_))))
  refine dW (.inl O) results162 O O O ?_
  obtain ⟨h8, h9⟩ := ac9 (M := M) (l := l) (p := p) (n := n) (keys := keys) (by omega)
  exact ⟨by rw [h8]; rfl, by rw [h9]; exact H.f3.f3.f3⟩
 ·(try simp only [aC] at h1)
  refine fG (aK ?_)
  have hk0 : ¬ keys.length = 0 := by omega
  refine aA (bG O ?_)
  obtain ⟨bqv, oqv, cqv, eqv⟩ := dR.nJ (hr _ (H.right.right.right)) (by omega)
  cases eqv
  refine Z (dh aj bF O O (by omega)) ?_
  refine Z (dH (bT aQ O) O (by first | exact dR.jo (hr _ (H.right.right.right)) (by omega) | exact dR.qB (hr _ (H.right.right.right)) (by omega) | exact dR.qx (hr _ (H.right.right.right)) (by omega))) ?_
  refine dL O (fV O ?_)
  refine iY [(0, _), (2, _), (9, _)] (fun (_ : Unit) => [(10, .int .i32 (if 1 < keys.length then keys.getD 1 0 else 0))]) (fun (_ : Unit) W => V w0 W (VC c m e name kv q g lv p • lD 21 .i32 lv l • qI m M • F)) qC ?_ ?_
  ·rintro _ w1 HJ
   dsimp only [List.cons_append, List.nil_append]
   refine aK (bM O (iy (aV (gW (Z (cZ O O) (fV O (bI O (fun h2 => ?_) (fun h2 => ?_))))))))
   ·(try simp only [aC] at h2)
    have hk1 : keys.getD 0 0 = 96 := h2
    refine bM O (dQ O (bK 0 dI O sizeOf41 O (gJ underlying41 O (HJ).get.2 O (bG O (dX O func183 (OH HJ.f3) ?_)))))
    rintro _ w2 ⟨rfl, H2⟩
    refine tX O ?_
    have Zf := H2.drew
    have oN := V.kp (Zf.f3.f3.f3)
    refine yY [8] oN O (jW 0 O oN O (jW 1 O oN O (jQ 2 O oN (fun _ => jw O O) ?_)))
    refine yX 3 O O (by kernel_rfl) (by kernel_rfl) oN (kM O) (fun h3 => ?_) (fun h3 => ?_)
    ·(try simp only [aC] at h3)
     refine eH 4 O O O (by kernel_rfl) (by kernel_rfl) oN (fun _ => uj O) (kM O) ?_
     refine eH 5 O O O (by kernel_rfl) (by kernel_rfl) oN (fun _ => uj O) (kM O) ?_
     refine eH 6 O O O (by kernel_rfl) (by kernel_rfl) oN (fun _ => Ns O) (kM O) ?_
     refine eH 7 O O O (by kernel_rfl) (by kernel_rfl) oN (fun _ => yV 6 dI O O dV (by decide) O rfl) (kM O) ?_
     refine vC 8 O O O (by kernel_rfl) (by kernel_rfl) oN (by decide) (fun W hW => dH (bT aj O) O (iT ((Kp.h hW).f2).get.2 O)) (kM O) ?_
     refine eH 9 O O O (by kernel_rfl) (by kernel_rfl) oN (fun _ => fO ((Zf.f3).aY) aj O) (kM O) ?_
     refine eH 10 O O O (by kernel_rfl) (by kernel_rfl) oN (fun _ => oC O O) (kM O) ?_
     refine jQ 11 O oN (fun _ => vk O O) (jQ 12 O oN (fun _ => dY O) (jQ 13 O oN (fun _ => dY O) (jQ 14 O oN (fun _ => dY O) (sK (aW (mg (aN (ay ?_))))))))
     refine dW (.inl O) results162 O O O ?_
     obtain ⟨e1, e2⟩ := aak (M := M) (l := l) (p := p) (n := n) hk0 hk1
     refine ⟨?_, by rw [e2]; exact Zf.f3.f3⟩
     rw [e1]
     refine congrArg (fun b => Value.tuple #[.int .i64 (M.at (if 1 < keys.length then keys.getD 1 0 else 0)), .bool false, .bool b]) ?_
     first | exact decide_eq_decide.2 (by omega) | exact (decide_eq_false (by omega)).symm
    ·(try simp only [aC] at h3)
     refine xg 4 O O O O (by kernel_rfl) (by kernel_rfl) oN (kM O) ?_
     refine xg 5 O O O O (by kernel_rfl) (by kernel_rfl) oN (kM O) ?_
     refine xg 6 O O O O (by kernel_rfl) (by kernel_rfl) oN (kM O) ?_
     refine xg 7 O O O O (by kernel_rfl) (by kernel_rfl) oN (kM O) ?_
     refine xg 8 O O O O (by kernel_rfl) (by kernel_rfl) oN (kM O) ?_
     refine xg 9 O O O O (by kernel_rfl) (by kernel_rfl) oN (kM O) ?_
     refine xg 10 O O O O (by kernel_rfl) (by kernel_rfl) oN (kM O) ?_
     refine jQ 11 O oN (fun _ => DI O O) (jQ 12 O oN (fun _ => dY O) (jQ 13 O oN (fun _ => dY O) (jQ 14 O oN (fun _ => dY O) (sK (aW (mg (aN (ay ?_))))))))
     refine dW (.inl O) results162 O O O ?_
     obtain ⟨e1, e2⟩ := aak (M := M) (l := l) (p := p) (n := n) hk0 hk1
     refine ⟨?_, by rw [e2]; exact Zf.f3.f3⟩
     rw [e1]
     refine congrArg (fun b => Value.tuple #[.int .i64 (M.at (if 1 < keys.length then keys.getD 1 0 else 0)), .bool false, .bool b]) ?_
     first | exact decide_eq_decide.2 (by omega) | exact (decide_eq_false (by omega)).symm
   ·(try simp only [aC] at h2)
    have hk1 : ¬ keys.getD 0 0 = 96 := h2
    refine iY [(0, _), (2, _), (9, _), (10, _)] (fun (_ : Unit) => [(49, .bool (decide (keys.getD 0 0 = 59 ∨ keys.getD 0 0 = 44)))]) (fun (_ : Unit) W => V w0 W (VC c m e name kv q g lv p • lD 21 .i32 lv l • qI m M • F)) BI ?_ ?_
    ·rintro _ w3 HK
     dsimp only [List.cons_append, List.nil_append]
     refine bI O (fun h4 => ?_) (fun h4 => ?_)
     ·(try simp only [aC] at h4)
      refine aK ?_
      obtain ⟨OD, OE, OG, xH, xW⟩ := (HK.f3).vm
      have hk2 : keys.getD 0 0 = 59 ∨ keys.getD 0 0 = 44 := by omega
      obtain ⟨e1, e2⟩ := ada (M := M) (l := l) (p := p) (n := n) hk0 hk1 hk2
      refine aA (nZ O O (bK 0 dI O sizeOf41 O (gJ underlying41 O (xW.f5).get.2 O (dQ O (bK 1 gq O sizeOf115 O (Z (oP 1 (xs := [_, _]) mJ O sizeOf115 O O (xW).get.2 O) ?_))))))
      have YQ := xW.f4.f4.f4.f4
      have YR := V.CQ (M := M) xH YQ
      refine jL (gK (l := [_, _]) YR zeroValue115 O) ?_
      rintro _ w8 ⟨b8, rfl, H8⟩
      refine aO (dw 0 (l' := [_, _]) (us := [_, _]) H8 sizeOf115 O O O (aH (aH bP)) O O) ?_
      rintro _ w9 H9
      refine qW (gW (bK 0 mJ O bF O (gJ aQ O (H9).get.2 O (Z (cZ O O) (gQ O (fun h5 => ?_) (fun h5 => ?_))))))
      ·(try simp only [aC] at h5)
       have hf0 : M.fk = 0 := h5
       refine gW (dL O (dL O (dU O (ay (aN (ay ?_))))))
       refine dW (.inl O) results162 O O O ?_
       exact ⟨by rw [e1, if_pos hf0]; rfl, by rw [e2]; exact H9.right.f3.f3⟩
      ·(try simp only [aC] at h5)
       have hf0 : ¬ M.fk = 0 := h5
       refine fG ?_
       refine iY [(0, _), (2, _), (12, _)] (fun (_ : Unit) => []) (fun (_ : Unit) W => V w0 W (dS b8 (.cells #[.int .i32 (if keys.getD 0 0 = 44 then bits .xor .i32 M.fk 32 else M.fk), .int .i32 M.fc] 115 (0, 0)) • VC c m e name kv q g lv p • lD 21 .i32 lv l • qI m M • F)) qC ?_ ?_
       ·rintro _ w10 HN
        dsimp only [List.cons_append, List.nil_append]
        refine aK ?_
        have XK := HN.drew
        have mP := V.kp (XK.f4.f4.f4.f4)
        refine yY [3, 7, 9, 11, 16] mP O (jW 0 O mP O (kV 1 O mP O (iJ 2 O mP 6 dI O dV O (kK 3 O mP (fun W hW => kQ aj O ((Kp.h hW).f2).get.2 O) (jW 4 O mP O (kV 5 O mP O (iJ 6 O mP 7 dI O aF O (kK 7 O mP (fun W hW => kQ aP O ((Kp.h hW).f2).get.2 O) (iJ 8 O mP 0 mJ O bF O (kK 9 O mP (fun W hW => kQ aQ O ((Kp.h hW)).get.2 O) (iJ 10 O mP 1 mJ O bF O (kK 11 O mP (fun W hW => kQ aQ O ((Kp.h hW)).get.2 O) (jW 12 O mP O (jW 13 O mP O (kV 14 O mP O (iJ 15 O mP 5 dI O aT O (kK 16 O mP (fun W hW => kQ bW O ((Kp.h hW).f2).get.2 O) (oV 17 O (zx O func11 (yx XK (fun W HW => (HW.f3).aY) hT (by omega) (by omega))) ?_))))))))))))))))))
        rintro _ ED ⟨rfl, rM⟩
        have Ac := V.kp (rM.f4.f4.f4.f4)
        refine iD Ac (by kernel_rfl) ?_
        refine jQ 18 O Ac (fun _ => ng O O) (jQ 19 O Ac (fun _ => ng O O) (jQ 20 O Ac (fun _ => ng O O) (jQ 21 O Ac (fun _ => dY O) (jQ 22 O Ac (fun _ => dY O) (jQ 23 O Ac (fun _ => dY O) (sK (aW (mg (aN (ay ?_))))))))))
        refine dW (.inl O) results162 O O O ?_
        exact ⟨by rw [e1, if_neg hf0]; rfl, by rw [e2]; exact rM.right.f3.f3.f3⟩
       ·skip
        refine bM O (Z (cZ O O) (gQ O (fun h6 => ?_) (fun h6 => ?_)))
        ·(try simp only [aC] at h6)
         refine aA (bK 0 mJ O bF O (gJ aQ O (H9).get.2 O ?_))
         refine Z (YW .xor O O (by simp)) ?_
         refine bK 0 mJ O bF O (aO (st2 0 H9 bF) ?_)
         rintro _ w12 vX
         refine bD ?_
         refine cO (()) ?_ ?_ ?_
         ·exact (Sub.nil _)
         ·exact qC
         ·(try dsimp only)
          first | done | exact (by first | (rw [if_pos (by assumption)]; exact vX.f2.f4.f4.f4) | (rw [if_neg (by assumption)]; exact vX.f2.f4.f4.f4))
        ·(try simp only [aC] at h6)
         refine bY ?_
         refine cO (()) ?_ ?_ ?_
         ·exact (Sub.nil _)
         ·exact qC
         ·(try dsimp only)
          first | done | exact (by first | (rw [if_pos (by assumption)]; exact H9.f2.f4.f4.f4) | (rw [if_neg (by assumption)]; exact H9.f2.f4.f4.f4))
     ·(try simp only [aC] at h4)
      refine bY (aG (aW (aK ?_)))
      have hk2 : ¬ (keys.getD 0 0 = 59 ∨ keys.getD 0 0 = 44) := by omega
      obtain ⟨e1, e2⟩ := adb (M := M) (l := l) (p := p) (n := n) hk0 hk1 hk2
      have XL := HK.drew
      have oz := V.kp (XL.f3.f3.f3)
      refine yY [3, 7, 14] oz O (jW 0 O oz O (kV 1 O oz O (iJ 2 O oz 6 dI O dV O (kK 3 O oz (fun W hW => kQ aj O ((Kp.h hW)).get.2 O) (jW 4 O oz O (kV 5 O oz O (iJ 6 O oz 7 dI O aF O (kK 7 O oz (fun W hW => kQ aP O ((Kp.h hW)).get.2 O) (jW 8 O oz O (jW 9 O oz O (jW 10 O oz O (jW 11 O oz O (kV 12 O oz O (iJ 13 O oz 5 dI O aT O (kK 14 O oz (fun W hW => kQ bW O ((Kp.h hW)).get.2 O) (oV 15 O (zx O func11 (yx XL (fun W HW => (HW.f2).aY) hT (by omega) (by omega))) ?_))))))))))))))))
      rintro _ PO ⟨rfl, xM⟩
      have wE := V.kp (xM.f3.f3.f3)
      refine iD wE (by kernel_rfl) ?_
      refine jW 16 O wE O (jQ 17 O wE (fun _ => ng O O) (jQ 18 O wE (fun _ => ng O O) (jQ 19 O wE (fun _ => ng O O) (jQ 20 O wE (fun _ => dY O) (jQ 21 O wE (fun _ => dY O) (jQ 22 O wE (fun _ => dY O) (sK (aW (aK (bM O (iZ O (fun h7 => ?_) (fun h7 => ?_))))))))))))
      ·(try simp only [aC] at h7)
       refine bg (bG O (bg (dX O func50 (Ed (s := Rn) (by decide)) ?_)))
       rintro _ _ ⟨rfl, rfl⟩
       refine iM O O (gQ O (fun h8 => ?_) (fun h8 => ?_))
       ·(try simp only [aC] at h8)
        obtain ⟨OD, OE, OG, xH, xW⟩ := (xM.f3).vm
        refine aA (nZ O O (bK 0 dI O sizeOf41 O (gJ underlying41 O (xW.f5).get.2 O (jr O O ?_))))
        refine Z (eX (zl := [.int .i32 0, .int .i32 0]) (pl := [(0, 1), (1, 1)]) [_, _] mJ zeroValue115 O (fun w => by kernel_rfl) O (.on (.on .nil)) O) ?_
        refine dQ O (bK 1 gq O sizeOf115 O (aO (dw 1 (l' := [_, _, _, _, _, _, _, _]) (us := [_, _]) xW sizeOf115 O O O (aH (aH bP)) O O) ?_))
        rintro _ w16 zB
        have QA := zB.f4.f4.f4.f4
        have QB := V.CQ (M := { M with fk := keys.getD 0 0, fc := (if 1 < keys.length then keys.getD 1 0 else 0) }) xH QA
        refine sH O (jr O O (dL O (dL O (dU O ?_))))
        refine dW (.inl O) results162 O O O ?_
        refine ⟨by rw [e1]; rfl, ?_⟩
        rw [e2]
        first | (rw [if_pos ⟨by assumption, by assumption⟩]; exact QB.f3.f3) | (rw [if_neg (fun hc => absurd hc.2 (by assumption))]; exact QB.f3.f3) | (rw [if_neg (fun hc => absurd hc.1 (by simp only [*]; decide))]; exact QB.f3.f3)
       ·(try simp only [aC] at h8)
        refine fG (bM O (jr O O (dL O (dL O (dU O ?_)))))
        refine dW (.inl O) results162 O O O ?_
        refine ⟨by rw [e1]; rfl, ?_⟩
        rw [e2]
        first | (rw [if_pos ⟨by assumption, by assumption⟩]; exact xM.f3.f3.f3) | (rw [if_neg (fun hc => absurd hc.2 (by assumption))]; exact xM.f3.f3.f3) | (rw [if_neg (fun hc => absurd hc.1 (by simp only [*]; decide))]; exact xM.f3.f3.f3)
      ·(try simp only [aC] at h7)
       refine bn (bn (gI O O (iy (oD (fG (bM O (jr O O (dL O (dL O (dU O ?_))))))))))
       refine dW (.inl O) results162 O O O ?_
       refine ⟨by rw [e1]; rfl, ?_⟩
       rw [e2]
       first | (rw [if_pos ⟨by assumption, by assumption⟩]; exact xM.f3.f3.f3) | (rw [if_neg (fun hc => absurd hc.2 (by assumption))]; exact xM.f3.f3.f3) | (rw [if_neg (fun hc => absurd hc.1 (by simp only [*]; decide))]; exact xM.f3.f3.f3)
    ·skip
     refine gW (Z (cZ O O) (fV O (bI O (fun h9 => ?_) (fun h9 => ?_))))
     ·(try simp only [aC] at h9)
      refine bY ?_
      refine cO (()) ?_ ?_ ?_
      ·exact (Sub.eP O (congrArg Value.bool (decide_eq_decide.2 (by omega))) (Sub.nil _))
      ·exact BI
      ·(try dsimp only)
       first | done | exact HJ.f3.f3.f3
     ·(try simp only [aC] at h9)
      refine aA (Z (cZ O O) (dL O (bD ?_)))
      refine cO (()) ?_ ?_ ?_
      ·exact (Sub.eP O (congrArg Value.bool (decide_eq_decide.2 (by omega))) (Sub.nil _))
      ·exact BI
      ·(try dsimp only)
       first | done | exact HJ.f3.f3.f3
  ·skip
   refine bM O (Z (jZ aj O) (Z (iw O O) (gQ O (fun h10 => ?_) (fun h10 => ?_))))
   ·(try simp only [aC] at h10)
    refine aA (bG O (Z (dh aj bF O O (by omega)) ?_))
    refine Z (dH (bT aQ O) O (by first | exact dR.jo (hr _ (H.right.right.right)) (by omega) | exact dR.qB (hr _ (H.right.right.right)) (by omega) | exact dR.qx (hr _ (H.right.right.right)) (by omega))) ?_
    refine dL O (bD ?_)
    refine cO (()) ?_ ?_ ?_
    ·exact (Sub.eP O (by first | (rw [if_pos (by omega)]; rfl) | rw [if_neg (by omega)]) (Sub.nil _))
    ·exact qC
    ·(try dsimp only)
     first | done | exact H.f3.f3.f3
   ·(try simp only [aC] at h10)
    refine bY ?_
    refine cO (()) ?_ ?_ ?_
    ·exact (Sub.eP O (by first | (rw [if_pos (by omega)]; rfl) | rw [if_neg (by omega)]) (Sub.nil _))
    ·exact qC
    ·(try dsimp only)
     first | done | exact H.f3.f3.f3
end
theorem CV {a b : ByteArray} (h : a.data.toList ≠ b.data.toList) : ¬ a.toList = b.toList := by rw [ByteArray.toList_eq, ByteArray.toList_eq]; exact h
theorem Ro : rO tN = ⟨#[]⟩ := by
  unfold rO
  rw [if_neg (CV (by decide)), if_neg (CV (by decide)), if_neg (CV (by decide)), if_neg (CV (by decide)), if_neg (CV (by decide)), if_neg (CV (by decide)), if_neg (CV (by decide)), if_neg (CV (by decide))]
theorem Zg {w0 w : World} {F : HP} {e : Nat} {s : dN} (H : V w0 w (iC e s • F)) : s.c.L.length ≤ 1024 ∧ (0 ≤ s.c.pt ∧ s.c.pt ≤ s.c.L.length) := by
  obtain ⟨pb, pr, pw, pt, pm, ph, bl, pv, es, u0, u1, u2, u3, u4, u5, u6, u7, u8, u9, ua, h, _, _, H2⟩ := H.Ik
  obtain ⟨a, c, xs, f, t, h1, h2, h3, h4, h5, h6, h7, _⟩ := H2.f2.buf
  exact ⟨h4, h6⟩
namespace dN
variable (s : dN)
def XM (M : VM) (keys : List Int) (n : Int) : Int := if (M.tgt s.c.L s.c.pt keys n).2.2 = true then s.KA (M.tgt s.c.L s.c.pt keys n).1 else 6
def XO (M : VM) (keys : List Int) (n : Int) : dN := if (M.tgt s.c.L s.c.pt keys n).2.2 = true then s.FI (M.tgt s.c.L s.c.pt keys n).1 else s
end dN
section
variable {w0 : World} {s : dN} {keys : List Int} {n : Int} {g : Bool} {M : VM}
theorem UG (hT : zA w0) (hn : n ≤ 9223372036854775807) : abo w0 tN keys n g s M fun x t M' => x = s.XM M keys n ∧ t = s.XO M keys n ∧ M' = M.sought s.c.L s.c.pt keys n := by
 intro F w c m e kv lv H hk
 have hln := (Zg H.f4).1
 refine iK func124 ntmps124 ?_
 refine jy O (aK (bM O (dQ O (bK 2 dI O pK O (gJ fB O (H).get.2 O (dX O func160 (Pe) ?_))))))
 rintro _ _ ⟨rfl, rfl⟩
 refine fV O (bM O (Z (J8 O O) (iZ O (fun h => by exfalso; (try simp only [aC] at h); exact h (by rw [Ro])) (fun h1 => ?_))))
 (try simp only [aC] at h1)
 refine bn (bn (bn (bn (bn (bn (bn (bn (bn (gI O O (iy (oD (fG (aK (bM O (dQ O (bK 2 dI O pK O (gJ fB O (H).get.2 O (iy (aV (gW (Z (gY O O) (fV O (bI O (fun h => by exfalso; (try simp only [aC] at h); exact absurd h (CV (by decide))) (fun h2 => ?_))))))))))))))))))))))))
 (try simp only [aC] at h2)
 refine gW (Z (gY O O) (fV O (bI O (fun h3 => ?_) (fun h => by exfalso; (try simp only [aC] at h); exact h O))))
 (try simp only [aC] at h3)
 refine aK ?_
 have ade := H.drew
 have CW := V.kp (ade.f4.f4.f4.f4)
 refine yY [4, 8] CW O (jW 0 O CW O (jW 1 O CW O (kV 2 O CW O (iJ 3 O CW 3 dI O dV O (kK 4 O CW (fun W hW => kQ aj O ((Kp.h hW)).get.2 O) (jW 5 O CW O (kV 6 O CW O (iJ 7 O CW 4 dI O aF O (kK 8 O CW (fun W hW => kQ aP O ((Kp.h hW)).get.2 O) (oV 9 O (zx O func162 (XJ ade.f3.f3.f3 (fun W HW => hk _ (HW.right)) hT (by omega) (by omega))) ?_))))))))))
 rintro _ w2 ⟨rfl, H2⟩
 have yD := V.kp (H2.f4.f4.f4.f4)
 refine iD yD (by kernel_rfl) ?_
 refine jW 10 O yD O (jQ 11 O yD (fun _ => ng O O) (jQ 12 O yD (fun _ => ng O O) (jQ 13 O yD (fun _ => ng O O) (jQ 14 O yD (fun _ => dY O) (jQ 15 O yD (fun _ => dY O) (jQ 16 O yD (fun _ => dY O) (sK (aW (aK (bM O (Z (mD O) (gQ O (fun h4 => ?_) (fun h4 => ?_)))))))))))))
 ·(try simp only [aC] at h4)
  have hok : ¬ (M.tgt s.c.L s.c.pt keys n).2.2 = true := by have h9 := h4; simpa using h9
  refine jB O (ay (aN (ay (dF results124 O ?_))))
  exact ⟨_, _, _, ⟨by unfold dN.XM; rw [if_neg hok], by unfold dN.XO; rw [if_neg hok], O⟩, O, H2.f4.f4.f4.f4⟩
 ·(try simp only [aC] at h4)
  have hok : (M.tgt s.c.L s.c.pt keys n).2.2 = true := by have h9 := h4; simpa using h9
  refine fG (bM O (dQ O (bK 1 dI O sizeOf37 O (gJ kU O (H2).get.2 O (bG O (dX O func30 (FM H2.f4) ?_))))))
  rintro _ w3 ⟨rfl, H3⟩
  refine dU O (aN (ay (dF results124 O ?_)))
  exact ⟨_, _, _, ⟨by unfold dN.XM; rw [if_pos hok], by unfold dN.XO; rw [if_pos hok], O⟩, O, H3.f4.f4.f4⟩
end
end Go.Proofs.YtpdeedplgmbopaaGreatDoor
end
section
namespace Go.Proofs.YtpdeedplgmbopaaGreatDoor
open Go.RowKit
def vV (sz : Nat) (v : Value) (n : Nat) (xs : List Value) : HP := know (fun I => BU I sz v n xs) fun _ _ hl h => h.mono hl
abbrev LE := Int × Value × List (Value × List eG)
def Bq (gs : List (Value × List eG)) : List (List jq) := gs.map fun g => g.2.map eG.says
def Gf (A : List LE) (k : Int) : List (List jq) := ((A.find? fun x => x.1 == k).map fun x => Bq x.2.2).getD []
def zu (A : List LE) (k : Int) (u : Value) (gs : List (Value × List eG)) : List LE := A.filter (fun x => x.1 != k) ++ [(k, u, gs)]
def GlI (I : Hp) (v : Value) (gs : List (Value × List eG)) : Prop := BU I 1 v gs.length (gs.map (·.1)) ∧ CY I gs
theorem GlI.mono {I I' : Hp} {v : Value} {gs : List (Value × List eG)} (hl : Hp.le I I') (h : GlI I v gs) : GlI I' v gs := ⟨h.1.mono hl, h.2.mono hl⟩
def glK (v : Value) (gs : List (Value × List eG)) : HP := vV 1 v gs.length (gs.map (·.1)) • oH gs
def Zh (I : Hp) (A : List LE) : Prop := ∀ k, k < A.length → GlI I (A.getD k default).2.1 (A.getD k default).2.2
def rC (A : List LE) : HP := know (fun I => Zh I A) fun _ _ hl h k hk => (h k hk).mono hl
def lsK (pv gv : Value) (A : List LE) : HP := nD .i64 pv (A.map (·.1)) • vV 1 gv A.length (A.map (·.2.1)) • rC A
theorem Zi (A : List LE) (k : Int) (u : Value) (gs : List (Value × List eG)) : Gf (zu A k u gs) = xQ (Gf A) k (Bq gs) := by
  funext j
  unfold Gf zu xQ
  rw [List.find?_append]
  by_cases hj : j = k
  · subst hj
    rw [if_pos rfl, List.find?_eq_none.2 (by intro x hx; simp at hx; simpa using hx.2)]
    simp
  · rw [if_neg hj, List.find?_filter]
    have h1 : (fun a : LE => decide (a.1 != k ∧ (a.1 == j) = true)) = fun a : LE => a.1 == j := by
      funext a
      by_cases ha : a.1 = j
      · simp [ha, hj]
      · simp [ha]
    have h2 : (fun a : LE => (a.1 != k) && (a.1 == j)) = fun a : LE => a.1 == j := by
      funext a
      by_cases ha : a.1 = j
      · simp [ha, hj]
      · simp [ha]
    have h3 : ([(k, u, gs)] : List LE).find? (fun x => x.1 == j) = none := by
      rw [List.find?_eq_none]; intro x hx; rw [List.mem_singleton.1 hx]; simpa using Ne.symm hj
    first
      | rw [h3, Option.or_none, h2]
      | rw [h3, Option.or_none, h1]
      | (simp only [h3, Option.or_none, h2, h1])
theorem abr {A : List LE} {k : Int} {i : Nat} (hi : i < A.length) (hn : ∀ j, j < i → (A.getD j default).1 ≠ k) (he : (A.getD i default).1 = k) : Gf A k = Bq (A.getD i default).2.2 := by
  induction A generalizing i with
  | nil => simp at hi
  | cons x r ih =>
    unfold Gf
    rw [List.find?_cons]
    cases i with
    | zero =>
      have : x.1 = k := he
      rw [show (x.1 == k) = true from by simpa using this]; rfl
    | succ m =>
      have h0 : x.1 ≠ k := hn 0 (by omega)
      rw [show (x.1 == k) = false from by simpa using h0]
      exact ih (i := m) (by simpa using hi) (fun j hj => hn (j + 1) (by omega)) he
theorem XP {A : List LE} {k : Int} (hn : ∀ j, j < A.length → (A.getD j default).1 ≠ k) : Gf A k = [] := by
  unfold Gf
  rw [List.find?_eq_none.2]
  · rfl
  · intro x hx
    obtain ⟨j, hj, rfl⟩ := List.getElem_of_mem hx
    have := hn j hj
    rw [List.getD_eq_getElem?_getD, List.getElem?_eq_getElem hj] at this
    simpa using this
theorem KU : ∀ (n : Nat) (l : List Int), l.Nodup → (∀ x ∈ l, 0 ≤ x ∧ x < n) → l.length ≤ n
  | 0, l, _, h => by
    cases l with
    | nil => simp
    | cons x r => have := h x (List.mem_cons_self ..); omega
  | n + 1, l, hn, h => by
    have h1 : (l.erase (n : Int)).length ≤ n := KU n (l.erase n) (hn.erase _) (fun x hx => by
      have hm := (List.Nodup.mem_erase_iff hn).1 hx
      have := h x hm.2
      have := hm.1
      omega)
    have h2 : l.length ≤ (l.erase (n : Int)).length + 1 := by rw [List.length_erase]; split <;> omega
    omega
theorem Pg (A : List LE) (k : Int) (u : Value) (gs : List (Value × List eG)) : (zu A k u gs).map (·.1) = (A.map (·.1)).filter (· != k) ++ [k] := by
  unfold zu
  rw [List.map_append, List.filter_map]; rfl
theorem Zj {A : List LE} {n : Int} {k : Int} {u : Value} {gs : List (Value × List eG)} (h : (A.map (·.1)).Nodup ∧ ∀ x ∈ A.map (·.1), 0 ≤ x ∧ x ≤ n) (hk : 0 ≤ k ∧ k ≤ n) :
    ((zu A k u gs).map (·.1)).Nodup ∧ ∀ x ∈ (zu A k u gs).map (·.1), 0 ≤ x ∧ x ≤ n := by
  rw [Pg]
  refine ⟨List.nodup_append.2 ⟨h.1.filter _, by simp, fun a ha b hb => ?_⟩, fun x hx => ?_⟩
  · rw [List.mem_singleton.1 hb]
    have := (List.mem_filter.1 ha).2
    simpa using this
  · rcases List.mem_append.1 hx with hx | hx
    · exact h.2 x (List.mem_filter.1 hx).1
    · rw [List.mem_singleton.1 hx]; exact hk
theorem Rq {A : List LE} {n : Int} (h : (A.map (·.1)).Nodup ∧ ∀ x ∈ A.map (·.1), 0 ≤ x ∧ x ≤ n) (hn : 0 ≤ n ∧ n ≤ 4096) : A.length ≤ 4097 := by
  have := KU (n.toNat + 1) _ h.1 (fun x hx => by have := h.2 x hx; omega)
  rw [List.length_map] at this
  omega
section
variable {w0 w : World} {F : HP} {v u pv gv : Value} {n sz k : Nat} {xs : List Value} {es : List eG} {gs : List (Value × List eG)} {A : List LE} {x : LE}
theorem V.pU (H : V w0 w (vV sz v n xs • F)) : Rd w sz v n xs := let ⟨I, h, hI⟩ := H.rJ; h.rd hI
theorem V.XQ (H : V w0 w (vV sz v n xs • F)) : V w0 w (vV sz v n xs • vV sz v n xs • F) := H.sO
theorem V.Rt (H : V w0 w F) (a : Option Addr) : V w0 w (vV sz (.slice a 0 0) 0 [] • F) := H.wI fun I => ⟨by simp, a, 0, rfl, by omega, by decide, fun h => by omega⟩
theorem V.E5 {t : TypeId} (H : V w0 w (Row t sz v n xs • F)) : V w0 w (vV sz v n xs • F) := by
  have hl := H.xZ
  rcases H.vF with ⟨a, rfl, h1, h2, H1⟩ | ⟨g, o, c, cur, rfl, h2, h3, h4, h5, H1⟩
  · subst h1; exact H1.wI fun I => ⟨hl, a, 0, rfl, by omega, by decide, fun h => by omega⟩
  · exact H1.freeze.EF (pI (fun I hI => ⟨hl, _, c, rfl, h2, h3, fun _ => ⟨g, o, cur, _, (0, 0), rfl, hI, h5⟩⟩) F)
theorem V.Ti (H : V w0 w (glK v gs • F)) : V w0 w (vV 1 v gs.length (gs.map (·.1)) • oH gs • F) := H.flat
theorem V.Zk (H : V w0 w F) (a : Option Addr) : V w0 w (glK (.slice a 0 0) [] • F) := V.deep (H.Ho.Rt (sz := 1) a)
theorem V.Bv (H : V w0 w (CZ v gs • F)) : V w0 w (glK v gs • F) := V.deep (H.YK.E5)
theorem V.Tj {p : Int} (H : V w0 w (rC A • F)) (hk : k < A.length) (hx : A.getD k default = (p, v, gs)) : V w0 w (vV 1 v gs.length (gs.map (·.1)) • oH gs • rC A • F) := by
  have H2 : V w0 w (vV 1 (A.getD k default).2.1 (A.getD k default).2.2.length ((A.getD k default).2.2.map (·.1)) • rC A • rC A • F) := H.sO.sO.EF (pI (fun I h => (h k hk).1) _)
  have H3 : V w0 w (oH (A.getD k default).2.2 • vV 1 (A.getD k default).2.1 (A.getD k default).2.2.length ((A.getD k default).2.2.map (·.1)) • rC A • F) := H2.f2.EF (pI (fun I h => (h k hk).2) _)
  rw [hx] at H3
  exact H3.f2
theorem Zh.set {I : Hp} {p : Int} (h : Zh I A) (g : GlI I u gs) : Zh I (zu A p u gs) := by
  have hm : ∀ x ∈ A, GlI I x.2.1 x.2.2 := fun x hx => by
    obtain ⟨j, hj, rfl⟩ := List.getElem_of_mem hx
    have := h j hj
    rwa [List.getD_eq_getElem?_getD, List.getElem?_eq_getElem hj] at this
  have hm2 : ∀ x ∈ zu A p u gs, GlI I x.2.1 x.2.2 := fun x hx => by
    rcases List.mem_append.1 hx with hx | hx
    · exact hm x (List.mem_filter.1 hx).1
    · rw [List.mem_singleton.1 hx]; exact g
  intro j hj
  rw [List.getD_eq_getElem?_getD, List.getElem?_eq_getElem hj]
  exact hm2 _ (List.getElem_mem hj)
theorem V.XR {p : Int} (H : V w0 w (rC A • vV 1 u gs.length (gs.map (·.1)) • oH gs • F)) : V w0 w (rC (zu A p u gs) • F) := by
  have H1 : V w0 w (know (fun I => GlI I u gs) (fun _ _ hl h => h.mono hl) • rC A • F) := (H.f3.f3 : V w0 w (vV 1 u gs.length (gs.map (·.1)) • oH gs • rC A • F)).EF (vG (fun I h g => ⟨h, g⟩) _)
  exact H1.f2.EF (vG (fun I h g => h.set g) _)
theorem V.Ph (H : V w0 w F) : V w0 w (rC [] • F) := H.wI fun I k hk => by simp at hk
theorem V.Pj {k : IntKind} (H : V w0 w F) (a : Option Addr) : V w0 w (nD k (.slice a 0 0) [] • F) := H.wI fun I => ⟨a, 0, rfl, by simp, by decide, fun h => by simp at h⟩
end
end Go.Proofs.YtpdeedplgmbopaaGreatDoor
end
section
namespace Go.Proofs.YtpdeedplgmbopaaGreatDoor
open Go.RowKit
open _root_.Go.Proofs.Tryz
def Es (v : Value) (pt mk : Int) : Array Value := #[v, .int .i64 pt, .int .i64 mk]
def oO (p : Nat) (L : List Int) (pt mk : Int) : HP := uf fun (v : Value) => fact (L.length ≤ 1024 ∧ (0 ≤ pt ∧ pt ≤ L.length) ∧ (-1 ≤ mk ∧ mk ≤ L.length)) • dS p (.cells (Es v pt mk) 222 (0, 0)) • lD 21 .i32 v L
section
variable {w0 w : World} {F : HP} {p : Nat} {L : List Int} {pt mk : Int} {v : Value} {l : List Int} {i j : Int}
theorem V.ref (H : V w0 w (oO p L pt mk • F)) : ∃ (a : Option Addr) (c : Nat), L.length ≤ 1024 ∧ (0 ≤ pt ∧ pt ≤ L.length) ∧ (-1 ≤ mk ∧ mk ≤ L.length) ∧ L.length ≤ c ∧ (c : Int) ≤ 9223372036854775807 ∧
    V w0 w (dS p (.cells (Es (.slice a L.length c) pt mk) 222 (0, 0)) • lD 21 .i32 (.slice a L.length c) L • F) := by
  obtain ⟨v, H⟩ := H.lZ
  obtain ⟨⟨h1, h2, h3⟩, H⟩ := H.flat.fact
  have H := H.flat
  obtain ⟨a, c, hv, hc1, hc2, _⟩ := (H.swap.aY).form
  subst hv
  exact ⟨a, c, h1, h2, h3, hc1, hc2, H⟩
theorem V.Ru (h1 : L.length ≤ 1024) (h2 : 0 ≤ pt ∧ pt ≤ L.length) (h3 : -1 ≤ mk ∧ mk ≤ L.length) (H : V w0 w (dS p (.cells (Es v pt mk) 222 (0, 0)) • lD 21 .i32 v L • F)) : V w0 w (oO p L pt mk • F) :=
  V.iV v (V.deep (V.kR ⟨h1, h2, h3⟩ (V.deep H)))
theorem MW (H : V w0 w F) (hr : jE w0 F .i32 v l) (hl : 1024 < l.length) : ig prog 112 #[v] w fun v' w' => v' = .tuple #[.pointer none, .int .i64 3] ∧ w = w' := by
  obtain ⟨a, c, rfl, _, _, _⟩ := (hr w H).open
  refine iK func112 ntmps112 ?_
  refine gW (dL O (tX O (bM O (Z (jZ aj O) (Z (iw O O) (iy (wcA O (fun h1 => ?_))))))))
  (try simp only [aC] at h1)
  refine gW (dL O (dU O (ay (Az results112 O O ?_))))
  exact ⟨O, O⟩
theorem Pm (H : V w0 w F) (hr : jE w0 F .i32 v l) (hl : l.length ≤ 1024) : ig prog 112 #[v] w fun v' w' => ∃ p, v' = .tuple #[.pointer (some ⟨p, 0, none⟩), .int .i64 0] ∧ V w0 w' (oO p l l.length (-1) • F) := by
  obtain ⟨a, c, rfl, hc1, hc2, _⟩ := (hr w H).open
  refine iK func112 ntmps112 ?_
  refine gW (dL O (tX O (bM O (Z (jZ aj O) (Z (iw O O) (iy (wcB O (fun h1 => ?_))))))))
  (try simp only [aC] at h1)
  refine fG (jy O (bM O (bG O (jL (lV (l := []) (H.jk none) (hr _ H) aj DU O O (by simp only [List.length_nil]; omega) (by simp only [List.length_nil]; omega)) ?_))))
  rintro u w1 H1
  rw [List.nil_append] at H1
  obtain ⟨au, cu, hu, _⟩ := (H1.aY).form
  subst hu
  refine fV O (bM O (bG O (Z (jZ aj O) (Z (qO (pl := #[(0, 1), (1, 1), (2, 1)]) (Es (.slice au l.length cu) l.length (-1)) underlying222 zeroValue222 (fun w => by kernel_rfl) O (by kernel_rfl)) (jL (RH H1 O) ?_)))))
  rintro _ w2 ⟨b2, rfl, H2⟩
  refine dL O (dU O (Az results112 O O ?_))
  exact ⟨_, O, V.Ru hl (by omega) (by omega) H2⟩
end
end Go.Proofs.YtpdeedplgmbopaaGreatDoor
end
