import Derived.Test.YtpdeedplgmbopaaGreatDoorZ4
import Derived.Test.YtpdeedplgmbopaaGreatDoorZ18
import Derived.Test.YtpdeedplgmbopaaGreatDoorZ11
import Derived.Test.YtpdeedplgmbopaaGreatDoorZ14
set_option linter.unusedSimpArgs false
set_option linter.unusedVariables false
/- Texts of mine, joined, their names in short: VGo2 VT VO VMove VDel. -/
section
namespace Go.Proofs.YtpdeedplgmbopaaGreatDoor
open Go.RowKit
open _root_.Go.Proofs.Tryz
def qO (k : Nat) : Value := .func (.func k) #[] #[]
def Jc (q1 q2 q3 q4 q5 q6 : MP) : HP := pF q6 (qO 97) true true (qO 94) • pF q5 (qO 97) false true (qO 94) • pF q4 (qO 96) true false (qO 93) • pF q3 (qO 96) false false (qO 93) • pF q2 (qO 95) true false (qO 92) • pF q1 (qO 95) false false (qO 92)
def D7 (q1 q2 q3 q4 q5 q6 : MP) : Int → Option Value := upd (upd (upd (upd (upd (upd (fun _ => none) 119 (Sz q1)) 87 (Sz q2)) 98 (Sz q3)) 66 (Sz q4)) 101 (Sz q5)) 69 (Sz q6)
section
variable {w0 w : World} {F : HP} {v sv mv : Value} {l : List Int} {x n key : Int} {b t : Bool} {q1 q2 q3 q4 q5 q6 : MP}
theorem Iz {k1 k2 : Nat} (H : V w0 w F) : vK prog (qO 88) [qO k1, .bool b, .bool t, qO k2] w fun u w' => ∃ p, u = Sz p ∧ V w0 w' (pF p (qO k1) b t (qO k2) • F) := by
  refine ⟨_, [], [], _, _, O, func88, O, O, ?_⟩
  simp only [List.nil_append, List.append_nil]
  refine Qw func88 ntmps88 ?_
  refine iR (kD (jL (l := [_]) H O O) ?_)
  rintro _ w1 ⟨b1, rfl, H1⟩
  refine kD (jL (l := [_]) H1 O O) ?_
  rintro _ w2 ⟨b2, rfl, H2⟩
  refine kD (jL (l := [_]) H2 O O) ?_
  rintro _ w3 ⟨b3, rfl, H3⟩
  refine kD (jL (l := [_]) H3 O O) ?_
  rintro _ w4 ⟨b4, rfl, H4⟩
  refine fG O (iR (Z (zf O O) (fB O (dL results88 O ?_))))
  exact ⟨⟨_, _, _, _⟩, O, (H4).of_eq (by unfold pF; simp only [dG])⟩
theorem vK.mono {P : Program} {fv : Value} {vs : List Value} {w : World} {T T' : Value → World → Prop} (h : vK P fv vs w T) (k : ∀ v w', T v w' → T' v w') : vK P fv vs w T' := by
  obtain ⟨f, a, c, fn, b, h1, h2, h3, h4, h5⟩ := h
  exact ⟨f, a, c, fn, b, h1, h2, h3, h4, h5.mono k⟩
theorem U0 (H : V w0 w F) : iE prog 39 #[] w fun u w' => ∃ b q1 q2 q3 q4 q5 q6, u = .map (some b) ∧ V w0 w' (gY (zB .i32) b (D7 q1 q2 q3 q4 q5 q6) • Jc q1 q2 q3 q4 q5 q6 • F) := by
  refine WM func39 ntmps39 ?_
  refine jQ O (jQ O (jQ O (jQ O (jQ O (iR (kD (kS (zB .i32) H) ?_))))))
  rintro _ w1 ⟨b1, rfl, H1⟩
  refine jR O O (kD (pW O O (Iz (k1 := 95) (k2 := 92) H1)) ?_)
  rintro _ w2 ⟨q1, rfl, H2⟩
  refine aJ (Bl H2.f2 pG bG O O O) ?_
  rintro _ w3 H3
  refine jR O O (kD (pW O O (Iz (k1 := 95) (k2 := 92) H3)) ?_)
  rintro _ w4 ⟨q2, rfl, H4⟩
  refine aJ (Bl H4.f2 pG bG O O O) ?_
  rintro _ w5 H5
  refine jR O O (kD (pW O O (Iz (k1 := 96) (k2 := 93) H5)) ?_)
  rintro _ w6 ⟨q3, rfl, H6⟩
  refine aJ (Bl H6.f2 pG bG O O O) ?_
  rintro _ w7 H7
  refine jR O O (kD (pW O O (Iz (k1 := 96) (k2 := 93) H7)) ?_)
  rintro _ w8 ⟨q4, rfl, H8⟩
  refine aJ (Bl H8.f2 pG bG O O O) ?_
  rintro _ w9 H9
  refine jR O O (kD (pW O O (Iz (k1 := 97) (k2 := 94) H9)) ?_)
  rintro _ w10 ⟨q5, rfl, pR⟩
  refine aJ (Bl pR.f2 pG bG O O O) ?_
  rintro _ Fv tq
  refine jR O O (kD (pW O O (Iz (k1 := 97) (k2 := 94) tq)) ?_)
  rintro _ w12 ⟨q6, rfl, vZ⟩
  refine aJ (Bl vZ.f2 pG bG O O O) ?_
  rintro _ Qh wo
  refine bT O (fB O (dL results39 O ?_))
  exact ⟨_, q1, q2, q3, q4, q5, q6, O, (wo).of_eq (by unfold Jc; simp only [dG]; rfl)⟩
theorem SA (h : ¬ (key = 119 ∨ key = 87 ∨ key = 98 ∨ key = 66 ∨ key = 101 ∨ key = 69)) : D7 q1 q2 q3 q4 q5 q6 key = none := by
  unfold D7 upd
  rw [if_neg (by omega), if_neg (by omega), if_neg (by omega), if_neg (by omega), if_neg (by omega), if_neg (by omega)]
theorem SB (h : key = 119 ∨ key = 87 ∨ key = 98 ∨ key = 66 ∨ key = 101 ∨ key = 69) : (D7 q1 q2 q3 q4 q5 q6 key).isSome = true := by
  rcases h with rfl | rfl | rfl | rfl | rfl | rfl <;> rfl
theorem SC (H : V w0 w (Jc q1 q2 q3 q4 q5 q6 • F)) (hk : key = 119 ∨ key = 87 ∨ key = 98 ∨ key = 66 ∨ key = 101 ∨ key = 69) (hT : Aq w0) (hr : jF w0 F .i32 v l) (hl : l.length ≤ 4611686018427387904) (hx : inL l x) (hn : n ≤ 9223372036854775807) (z : Value) :
    vK prog ((D7 q1 q2 q3 q4 q5 q6 key).getD z) [v, .int .i64 x, .int .i64 n] w fun u w' => u = Xx (zI l x key n) ∧ V w0 w' (Jc q1 q2 q3 q4 q5 q6 • F) := by
  unfold Jc at H ⊢
  have hI1 : ∀ y, decide (y < (l.length : Int) - 1) = true → inL l y → ae9 l y := fun y h1 h2 => ⟨h2.1, by have := of_decide_eq_true h1; omega⟩
  rcases hk with rfl | rfl | rfl | rfl | rfl | rfl
  · refine vK.mono (BA (p := q1) (F := pF q6 (qO 97) true true (qO 94) • pF q5 (qO 97) false true (qO 94) • pF q4 (qO 96) true false (qO 93) • pF q3 (qO 96) false false (qO 93) • pF q2 (qO 95) true false (qO 92) • F) (H.of_eq (by ac_rfl)) (Oq hT) LG (fun y h1 h2 => h2) (fun W HW => hr W HW.right.right.right.right.right) hl hx hn) fun u W h => ⟨h.1.trans (by unfold zI; simp), h.2.of_eq (by ac_rfl)⟩
  · refine vK.mono (BA (p := q2) (F := pF q6 (qO 97) true true (qO 94) • pF q5 (qO 97) false true (qO 94) • pF q4 (qO 96) true false (qO 93) • pF q3 (qO 96) false false (qO 93) • pF q1 (qO 95) false false (qO 92) • F) (H.of_eq (by ac_rfl)) (Oq hT) LG (fun y h1 h2 => h2) (fun W HW => hr W HW.right.right.right.right.right) hl hx hn) fun u W h => ⟨h.1.trans (by unfold zI; simp), h.2.of_eq (by ac_rfl)⟩
  · refine vK.mono (BA (p := q3) (F := pF q6 (qO 97) true true (qO 94) • pF q5 (qO 97) false true (qO 94) • pF q4 (qO 96) true false (qO 93) • pF q2 (qO 95) true false (qO 92) • pF q1 (qO 95) false false (qO 92) • F) (H.of_eq (by ac_rfl)) (Ot hT) Ou (fun y h1 h2 => h2) (fun W HW => hr W HW.right.right.right.right.right) hl hx hn) fun u W h => ⟨h.1.trans (by unfold zI; simp), h.2.of_eq (by ac_rfl)⟩
  · refine vK.mono (BA (p := q4) (F := pF q6 (qO 97) true true (qO 94) • pF q5 (qO 97) false true (qO 94) • pF q3 (qO 96) false false (qO 93) • pF q2 (qO 95) true false (qO 92) • pF q1 (qO 95) false false (qO 92) • F) (H.of_eq (by ac_rfl)) (Ot hT) Ou (fun y h1 h2 => h2) (fun W HW => hr W HW.right.right.right.right.right) hl hx hn) fun u W h => ⟨h.1.trans (by unfold zI; simp), h.2.of_eq (by ac_rfl)⟩
  · refine vK.mono (BA (p := q5) (F := pF q6 (qO 97) true true (qO 94) • pF q4 (qO 96) true false (qO 93) • pF q3 (qO 96) false false (qO 93) • pF q2 (qO 95) true false (qO 92) • pF q1 (qO 95) false false (qO 92) • F) (H.of_eq (by ac_rfl)) (step_end hT) LH (fun y h1 h2 => hI1 y h1 h2) (fun W HW => hr W HW.right.right.right.right.right) hl hx hn) fun u W h => ⟨h.1.trans (by unfold zI; simp), h.2.of_eq (by ac_rfl)⟩
  · refine vK.mono (BA (p := q6) (F := pF q5 (qO 97) false true (qO 94) • pF q4 (qO 96) true false (qO 93) • pF q3 (qO 96) false false (qO 93) • pF q2 (qO 95) true false (qO 92) • pF q1 (qO 95) false false (qO 92) • F) (H.of_eq (by ac_rfl)) (step_end hT) LH (fun y h1 h2 => hI1 y h1 h2) (fun W HW => hr W HW.right.right.right.right.right) hl hx hn) fun u W h => ⟨h.1.trans (by unfold zI; simp), h.2.of_eq (by ac_rfl)⟩
end
section
variable {w0 w : World} {F : HP} {v fv : Value} {l : List Int} {x n key c r : Int} {P : Int → Bool} {given : Bool}
theorem U1 (H : V w0 w F) (hr : jF w0 F .i32 v l) (hf : ∀ W r, V w0 W F → vK prog fv [.int .i32 r] W fun u W' => u = .bool (!P r) ∧ V w0 W' F) : iE prog 40 #[v, fv] w fun u w' => u = .int .i64 (if lG P l 0 < l.length then lG P l 0 else -1) ∧ V w0 w' F := by
 have Ym : l.length ≤ 9223372036854775807 := by have := (hr _ H).open; obtain ⟨a, c, e, h3, h4, _⟩ := this; omega
 refine oV func40 ntmps40 ?_
 refine jQ O (aN (bQ O (Z (iM (hr _ (H)) aj O) (bT O (iJ (aY ?_))))))
 refine gW [(0, _), (1, _), (7, _)] (fun (i : Int) => [(8, .int .i64 i)]) (fun (i : Int) W => ((0 ≤ i ∧ i ≤ l.length) ∧ lG P l i = lG P l 0) ∧ V w0 W F) (fun (i : Int) => (l.length - i).toNat) (0) uK lU ⟨⟨by omega, O⟩, H⟩ ?_
 rintro i w1 ⟨⟨hi, hE⟩, HL⟩
 dsimp only [List.cons_append, List.nil_append]
 refine iR (Z (fZ O O) (qQ (bD O (fun h1 => ?_) (fun h1 => ?_))))
 ·(try simp only [aA] at h1)
  refine gG (aN (aY (bQ O (fG O (bQ O (jR O O ?_))))))
  obtain ⟨bv, ov, cv, ev⟩ := gJ.rM (hr _ (HL)) (by omega)
  cases ev
  refine Z (dP aj bZ O O (by omega)) ?_
  refine Z (fK (dA bG O) O (by first | exact gJ.ni (hr _ (HL)) (by omega) | exact gJ.yc (hr _ (HL)) (by omega) | exact gJ.yx (hr _ (HL)) (by omega))) ?_
  refine kD (pW O O (hf _ (l.getD i.toNat 0) HL)) ?_
  rintro _ w2 ⟨rfl, H2⟩
  refine jB O (fun h2 => ?_) (fun h2 => ?_)
  ·(try simp only [aA] at h2)
   have hP : ¬ P (l.getD i.toNat 0) = true := by have h9 := h2; simpa using h9
   refine bQ O (fB O (aT (aB (aB (aT (aB (dL results40 O ?_)))))))
   exact ⟨by rw [← hE, mP hi.1 (by omega) hP, if_pos (by omega)], H2⟩
  ·(try simp only [aA] at h2)
   have hP : P (l.getD i.toNat 0) = true := by have h9 := h2; simpa using h9
   refine cZ (aK (aX (aC (Z (fJ O O (by omega)) (bT O (bW ?_))))))
   refine dV (i + 1) ?_ ?_ ?_ ?_
   ·exact lU
   ·exact uK
   ·(try dsimp only)
    first | done | exact ⟨⟨by omega, (uy hi.1 (by omega) hP).symm.trans hE⟩, H2⟩
   ·(try dsimp only); omega
 ·(try simp only [aA] at h1)
  refine dO (aO (aO (bI (aX (jM O (dL results40 O ?_))))))
  exact ⟨by rw [← hE, kN (by omega), if_neg (by omega)], HL⟩
theorem U2 (H : V w0 w F) (hT : Aq w0) : iE prog 41 #[.int .i32 r] w fun u w' => u = .bool (!(fV r == 0)) ∧ V w0 w' F := by
  refine iZ func41 ntmps41 ?_
  refine jQ O (bQ O (dS O func14 (qJ H hT) ?_))
  rintro _ w1 ⟨rfl, H1⟩
  refine Z (ig O O) (fB O (dL results41 O ?_))
  exact ⟨O, H1⟩
theorem aae (h : key = 119 ∨ key = 87 ∨ key = 98 ∨ key = 66 ∨ key = 101 ∨ key = 69) : lH l x key c n = zI l x key n := by
  unfold lH
  rw [if_neg (by omega), if_neg (by omega), if_neg (by omega), if_neg (by omega), if_neg (by omega), if_neg (by omega), if_neg (by omega), if_neg (by omega)]
theorem abI (h : ¬ (key = 119 ∨ key = 87 ∨ key = 98 ∨ key = 66 ∨ key = 101 ∨ key = 69)) : zI l x key n = (0, false, false) := by
  unfold zI
  rw [if_neg (by omega), if_neg (by omega), if_neg (by omega)]
theorem D8 (H : V w0 w F) (hr : jF w0 F .i32 v l) (hT : Aq w0) (hl8 : l.length ≤ 4611686018427387904) (hn : n ≤ 9223372036854775807) : iE prog 11 #[v, .int .i64 x, .int .i32 key, .int .i32 c, .int .i64 n, .bool given] w fun u w' => u = Xx (xC l x key c n) ∧ V w0 w' F := by
 obtain ⟨y, hy⟩ : ∃ y, y = min (max x 0) (l.length : Int) := ⟨_, rfl⟩
 obtain ⟨m, hm⟩ : ∃ m, m = max n 1 := ⟨_, rfl⟩
 unfold xC
 rw [← hy, ← hm]
 have hy2 : 0 ≤ y ∧ y ≤ l.length := by omega
 have hm2 : 1 ≤ m ∧ m ≤ 9223372036854775807 := by omega
 refine Ye func11 ntmps11 ?_
 dsimp only [y8, Nat.reduceAdd]
 refine iR (iK O (iK O (fG O (bQ O (Z (Vr O O) (bT O (Z (iM (hr _ (H)) aj O) (Z (Qm (zZ O O) (congrArg (Value.int .i64) hy.symm)) (fG O (bQ O (Z (Qm (Vr O O) (congrArg (Value.int .i64) hm.symm)) (uZ O (iR (dS O func39 (U0 H) ?_))))))))))))))
 rintro _ w1 ⟨b1, q1, q2, q3, q4, q5, q6, rfl, H1⟩
 refine bT O (Z (DK (H1) pG bG zeroValue85 O O) (bT O (uH O O (uH O O (iK O (fG O (bQ O (jB O (fun h1 => ?_) (fun h1 => ?_)))))))))
 ·(try simp only [aA] at h1)
  try (exfalso; first | contradiction | omega)
  all_goals
   have hk : key = 119 ∨ key = 87 ∨ key = 98 ∨ key = 66 ∨ key = 101 ∨ key = 69 := Decidable.byContradiction fun hc => by have h9 := h1; rw [SA hc] at h9; exact absurd h9 (by decide)
   refine bQ O (jR O O (bT O (kD (pW O O (SC H1.f2 hk hT (fun W HW => hr W HW.right) hl8 hy2 hm2.2 _)) ?_)))
   rintro _ w2 ⟨rfl, H2⟩
   refine uH O O (uH O O (uH O O (iK O (iK O (fB O (aB ?_))))))
   refine ji (.inl O) mY O O O ?_
   exact ⟨by rw [aae hk]; rfl, H2.right.right⟩
 ·(try simp only [aA] at h1)
  try (exfalso; first | contradiction | omega)
  all_goals
   have hk : ¬ (key = 119 ∨ key = 87 ∨ key = 98 ∨ key = 66 ∨ key = 101 ∨ key = 69) := fun hc => by have h9 := h1; rw [SB hc] at h9; exact absurd h9 (by decide)
   refine gG (aN (bQ O (iJ (aY (iR (Z (dX O O) (fG O (bD O (fun h2 => ?_) (fun h2 => ?_)))))))))
   ·(try simp only [aA] at h2)
    try (exfalso; first | contradiction | omega)
    all_goals
     refine aN (bQ O (Z (dX O O) (jB O (fun h3 => ?_) (fun h3 => ?_))))
     ·(try simp only [aA] at h3)
      try (exfalso; first | contradiction | omega)
      all_goals
       refine iR (iK O (iK O (fB O (aB (aT (aB ?_))))))
       refine ji (.inl O) mY O O O ?_
       exact ⟨by unfold lH; rw [if_pos (by omega), if_pos (by omega)]; rfl, H1.right.right⟩
     ·(try simp only [aA] at h3)
      try (exfalso; first | contradiction | omega)
      all_goals
       refine gG (bQ O (jR O O (Z (zZ O O) (Z (iV O O (by omega)) (iK O (iK O (fB O (aT (aB ?_)))))))))
       refine ji (.inl O) mY O O O ?_
       exact ⟨by unfold lH; rw [if_pos (by omega), if_neg (by omega)]; rfl, H1.right.right⟩
   ·(try simp only [aA] at h2)
    try (exfalso; first | contradiction | omega)
    all_goals
     refine kT [(0, _), (1, _), (2, _), (3, _), (4, _), (40, _)] (fun (_ : Unit) => [(50, .bool (decide (key = 108 ∨ key = 32)))]) (fun (_ : Unit) W => V w0 W (gY (zB .i32) b1 (D7 q1 q2 q3 q4 q5 q6) • Jc q1 q2 q3 q4 q5 q6 • F)) Yf ?_ ?_
     ·rintro _ w3 HJ
      dsimp only [List.cons_append, List.nil_append]
      refine bD O (fun h4 => ?_) (fun h4 => ?_)
      ·(try simp only [aA] at h4)
       try (exfalso; first | contradiction | omega)
       all_goals
        refine aN (bQ O (bT O (Z (iM (hr _ (HJ.right.right)) aj O) (Z (dX O O) (jB O (fun h5 => ?_) (fun h5 => ?_))))))
        ·(try simp only [aA] at h5)
         try (exfalso; first | contradiction | omega)
         all_goals
          refine iR (iK O (iK O (fB O (aB (aT (aB ?_))))))
          refine ji (.inl O) mY O O O ?_
          exact ⟨by unfold lH; rw [if_neg (by omega), if_pos (by omega), if_pos (by omega)]; rfl, HJ.right.right⟩
        ·(try simp only [aA] at h5)
         try (exfalso; first | contradiction | omega)
         all_goals
          refine gG (bQ O (jR O O (Z (iM (hr _ (HJ.right.right)) aj O) (bT O (Z (iV O O (by omega)) (Z (zZ O O) (Z (fJ O O (by omega)) (iK O (iK O (fB O (aT (aB ?_))))))))))))
          refine ji (.inl O) mY O O O ?_
          exact ⟨by unfold lH; rw [if_neg (by omega), if_pos (by omega), if_neg (by omega)]; rfl, HJ.right.right⟩
      ·(try simp only [aA] at h4)
       try (exfalso; first | contradiction | omega)
       all_goals
        refine iR (Z (dX O O) (fG O (bD O (fun h6 => ?_) (fun h6 => ?_))))
        ·(try simp only [aA] at h6)
         try (exfalso; first | contradiction | omega)
         all_goals
          refine iR (iK O (iK O (fB O (aT (aB ?_)))))
          refine ji (.inl O) mY O O O ?_
          exact ⟨by unfold lH; rw [if_neg (by omega), if_neg (by omega), if_pos (by omega)]; rfl, HJ.right.right⟩
        ·(try simp only [aA] at h6)
         try (exfalso; first | contradiction | omega)
         all_goals
          refine iR (Z (dX O O) (fG O (bD O (fun h7 => ?_) (fun h7 => ?_))))
          ·(try simp only [aA] at h7)
           try (exfalso; first | contradiction | omega)
           all_goals
            refine bQ O (Z (iM (hr _ (HJ.right.right)) aj O) (iK O (iK O (fB O (aT (aB ?_))))))
            refine ji (.inl O) mY O O O ?_
            exact ⟨by unfold lH; rw [if_neg (by omega), if_neg (by omega), if_neg (by omega), if_pos (by omega)]; rfl, HJ.right.right⟩
          ·(try simp only [aA] at h7)
           try (exfalso; first | contradiction | omega)
           all_goals
            refine iR (Z (dX O O) (fG O (bD O (fun h8 => ?_) (fun h8 => ?_))))
            ·(try simp only [aA] at h8)
             try (exfalso; first | contradiction | omega)
             all_goals
              refine bQ O (Z (iV O O (by omega)) (bT O (Z (iM (hr _ (HJ.right.right)) aj O) (Z (zZ O O) (iK O (iK O (fB O (aT (aB ?_)))))))))
              refine ji (.inl O) mY O O O ?_
              exact ⟨by unfold lH; rw [if_neg (by omega), if_neg (by omega), if_neg (by omega), if_neg (by omega), if_neg (by omega), if_pos (by omega)]; rfl, HJ.right.right⟩
            ·(try simp only [aA] at h8)
             try (exfalso; first | contradiction | omega)
             all_goals
              refine iR (Z (dX O O) (fG O (bD O (fun h9 => ?_) (fun h9 => ?_))))
              ·(try simp only [aA] at h9)
               try (exfalso; first | contradiction | omega)
               all_goals
                refine bQ O (dS O func40 (U1 (P := fun r => fV r == 0) HJ (fun W HW => hr _ (HW.right.right)) (fun W r HW => ⟨41, [], [], _, _, O, func41, O, O, U2 HW hT⟩)) ?_)
                rintro _ w4 ⟨rfl, H4⟩
                have hrb := uO (P := fun r => fV r == 0) (l := l) (x := 0) (by omega) (by omega)
                refine fG O ?_
                refine kT [] (fun (_ : Unit) => [(17, .int .i64 (lG (fun r => fV r == 0) l 0))]) (fun (_ : Unit) W => V w0 W (gY (zB .i32) b1 (D7 q1 q2 q3 q4 q5 q6) • Jc q1 q2 q3 q4 q5 q6 • F)) (Sub.nil _) ?_ ?_
                ·rintro _ w5 HN
                 dsimp only [List.cons_append, List.nil_append]
                 refine bQ O (iK O (iK O (fB O (aT (aB ?_)))))
                 refine ji (.inl O) mY O O O ?_
                 exact ⟨by unfold lH; rw [if_neg (by omega), if_neg (by omega), if_neg (by omega), if_neg (by omega), if_pos (by omega)]; rfl, HN.right.right⟩
                ·skip
                 refine bQ O (Z (fZ O O) (jB O (fun h10 => ?_) (fun h10 => ?_)))
                 ·(try simp only [aA] at h10)
                  try (exfalso; first | contradiction | omega)
                  all_goals
                   refine aC (bT O (Z (iM (hr _ (H4.right.right)) aj O) (iK O (bW ?_))))
                   refine dw (()) ?_ ?_ ?_
                   ·exact (Sub.jv O (by congr 1; by_cases hq : lG (fun r => fV r == 0) l 0 < l.length <;> simp_all <;> omega) (Sub.nil _))
                   ·exact (Sub.nil _)
                   ·(try dsimp only)
                    first | done | exact H4.f2.f2
                 ·(try simp only [aA] at h10)
                  try (exfalso; first | contradiction | omega)
                  all_goals
                   refine cZ ?_
                   refine dw (()) ?_ ?_ ?_
                   ·exact (Sub.jv O (by congr 1; by_cases hq : lG (fun r => fV r == 0) l 0 < l.length <;> simp_all <;> omega) (Sub.nil _))
                   ·exact (Sub.nil _)
                   ·(try dsimp only)
                    first | done | exact H4.f2.f2
              ·(try simp only [aA] at h9)
               try (exfalso; first | contradiction | omega)
               all_goals
                refine kT [(0, _), (1, _), (2, _), (3, _), (4, _), (40, _)] (fun (_ : Unit) => [(87, .bool (decide (key = 102 ∨ key = 70 ∨ key = 116 ∨ key = 84)))]) (fun (_ : Unit) W => V w0 W (gY (zB .i32) b1 (D7 q1 q2 q3 q4 q5 q6) • Jc q1 q2 q3 q4 q5 q6 • F)) Yf ?_ ?_
                ·rintro _ w6 HK
                 dsimp only [List.cons_append, List.nil_append]
                 refine bD O (fun h11 => ?_) (fun h11 => ?_)
                 ·(try simp only [aA] at h11)
                  try (exfalso; first | contradiction | omega)
                  all_goals
                   refine bQ O (jR O O (jR O O (dS O func42 (UE HK (fun W HW => hr _ (HW.right.right)) (by omega) (by omega) (by omega) (by omega)) ?_)))
                   rintro _ w7 ⟨rfl, H7⟩
                   refine uH O O (uH O O (uH O O (iK O (iK O (fB O (aT (aB ?_)))))))
                   refine ji (.inl O) mY O O O ?_
                   exact ⟨by unfold lH; rw [if_neg (by omega), if_neg (by omega), if_neg (by omega), if_neg (by omega), if_neg (by omega), if_neg (by omega), if_pos (by omega)]; rfl, H7.right.right⟩
                 ·(try simp only [aA] at h11)
                  try (exfalso; first | contradiction | omega)
                  all_goals
                   refine iR (Z (dX O O) (fG O (bD O (fun h12 => ?_) (fun h12 => ?_))))
                   ·(try simp only [aA] at h12)
                    try (exfalso; first | contradiction | omega)
                    all_goals
                     refine bQ O (bT O (dS O func43 (P9 HK (fun W HW => hr _ (HW.right.right)) (by omega) (by omega)) ?_))
                     rintro _ w8 ⟨rfl, H8⟩
                     refine uH O O (uH O O (uH O O (iK O (iK O (fB O (aT (aB ?_)))))))
                     refine ji (.inl O) mY O O O ?_
                     exact ⟨by unfold lH; rw [if_neg (by omega), if_neg (by omega), if_neg (by omega), if_neg (by omega), if_neg (by omega), if_neg (by omega), if_neg (by omega), if_pos (by omega)]; rfl, H8.right.right⟩
                   ·(try simp only [aA] at h12)
                    try (exfalso; first | contradiction | omega)
                    all_goals
                     refine cZ (aK (aX (iR (iK O (iK O (fB O ?_))))))
                     refine ji (.inl O) mY O O O ?_
                     exact ⟨by unfold lH; rw [if_neg (by omega), if_neg (by omega), if_neg (by omega), if_neg (by omega), if_neg (by omega), if_neg (by omega), if_neg (by omega), if_neg (by omega), abI hk]; rfl, HK.right.right⟩
                ·skip
                 refine iR (Z (dX O O) (fG O (bD O (fun h13 => ?_) (fun h13 => ?_))))
                 ·(try simp only [aA] at h13)
                  try (exfalso; first | contradiction | omega)
                  all_goals
                   refine cZ ?_
                   refine dw (()) ?_ ?_ ?_
                   ·exact (Sub.jv O (congrArg Value.bool (decide_eq_decide.2 (by omega))) (Sub.nil _))
                   ·exact Yf
                   ·(try dsimp only)
                    first | done | exact HJ.f2.f2
                 ·(try simp only [aA] at h13)
                  try (exfalso; first | contradiction | omega)
                  all_goals
                   refine iR (Z (dX O O) (fG O (bD O (fun h14 => ?_) (fun h14 => ?_))))
                   ·(try simp only [aA] at h14)
                    try (exfalso; first | contradiction | omega)
                    all_goals
                     refine cZ ?_
                     refine dw (()) ?_ ?_ ?_
                     ·exact (Sub.jv O (congrArg Value.bool (decide_eq_decide.2 (by omega))) (Sub.nil _))
                     ·exact Yf
                     ·(try dsimp only)
                      first | done | exact HJ.f2.f2
                   ·(try simp only [aA] at h14)
                    try (exfalso; first | contradiction | omega)
                    all_goals
                     refine iR (Z (dX O O) (fG O (bD O (fun h15 => ?_) (fun h15 => ?_))))
                     ·(try simp only [aA] at h15)
                      try (exfalso; first | contradiction | omega)
                      all_goals
                       refine cZ ?_
                       refine dw (()) ?_ ?_ ?_
                       ·exact (Sub.jv O (congrArg Value.bool (decide_eq_decide.2 (by omega))) (Sub.nil _))
                       ·exact Yf
                       ·(try dsimp only)
                        first | done | exact HJ.f2.f2
                     ·(try simp only [aA] at h15)
                      try (exfalso; first | contradiction | omega)
                      all_goals
                       refine aC (Z (dX O O) (iK O (bW ?_)))
                       refine dw (()) ?_ ?_ ?_
                       ·exact (Sub.jv O (congrArg Value.bool (decide_eq_decide.2 (by omega))) (Sub.nil _))
                       ·exact Yf
                       ·(try dsimp only)
                        first | done | exact HJ.f2.f2
     ·skip
      refine iR (Z (dX O O) (fG O (bD O (fun h16 => ?_) (fun h16 => ?_))))
      ·(try simp only [aA] at h16)
       try (exfalso; first | contradiction | omega)
       all_goals
        refine cZ ?_
        refine dw (()) ?_ ?_ ?_
        ·exact (Sub.jv O (congrArg Value.bool (decide_eq_decide.2 (by omega))) (Sub.nil _))
        ·exact Yf
        ·(try dsimp only)
         first | done | exact H1.f2.f2
      ·(try simp only [aA] at h16)
       try (exfalso; first | contradiction | omega)
       all_goals
        refine aC (Z (dX O O) (iK O (bW ?_)))
        refine dw (()) ?_ ?_ ?_
        ·exact (Sub.jv O (congrArg Value.bool (decide_eq_decide.2 (by omega))) (Sub.nil _))
        ·exact Yf
        ·(try dsimp only)
         first | done | exact H1.f2.f2
end
def U3 : ByteArray := ⟨#[102, 70, 116, 84]⟩
def pU (n : ByteArray) : ByteArray :=
  if n.toList = Cb.toList then ⟨#[100, 68]⟩ else if n.toList = FQ.toList then ⟨#[99, 67]⟩ else if n.toList = Iq.toList then ⟨#[121, 89]⟩ else if n.toList = Fa.toList then ⟨#[120, 88]⟩ else
  if n.toList = ZG.toList then ⟨#[115, 83]⟩ else if n.toList = GU.toList then ⟨#[112, 80]⟩ else if n.toList = ZE.toList then ⟨#[105, 97, 73, 65]⟩ else if n.toList = ZH.toList then ⟨#[117, 85]⟩ else ⟨#[]⟩
namespace VM
variable (M : VM)
def tgt (l : List Int) (p : Int) (keys : List Int) (n : Int) : Int × Bool × Bool :=
  if keys.length = 0 then (0, false, false)
  else if keys.getD 0 0 = 96 then (M.at (if 1 < keys.length then keys.getD 1 0 else 0), false, decide (0 ≤ M.at (if 1 < keys.length then keys.getD 1 0 else 0) ∧ M.at (if 1 < keys.length then keys.getD 1 0 else 0) ≤ l.length))
  else if keys.getD 0 0 = 59 ∨ keys.getD 0 0 = 44 then (if M.fk = 0 then (0, false, false) else xC l p (if keys.getD 0 0 = 44 then bits .xor .i32 M.fk 32 else M.fk) M.fc n)
  else xC l p (keys.getD 0 0) (if 1 < keys.length then keys.getD 1 0 else 0) n
def sought (l : List Int) (p : Int) (keys : List Int) (n : Int) : VM :=
  if keys.length = 0 then M else if keys.getD 0 0 = 96 then M else if keys.getD 0 0 = 59 ∨ keys.getD 0 0 = 44 then M
  else if (xC l p (keys.getD 0 0) (if 1 < keys.length then keys.getD 1 0 else 0) n).2.2 = true ∧ keys.getD 0 0 ∈ zW U3 then { M with fk := keys.getD 0 0, fc := if 1 < keys.length then keys.getD 1 0 else 0 } else M
end VM
section
variable {w0 w : World} {F : HP} {c m e : Nat} {s : bn} {name : ByteArray} {kv lv qv : Value} {keys l ks : List Int} {n p x q : Int} {g : Bool} {M M' : VM}
theorem D9 : iE prog 160 #[.string name] w fun v w' => v = .string (pU name) ∧ w = w' := by
 refine iZ func160 ntmps160 ?_
 refine jQ O (aN (bQ O (iJ (aY (iR (Z (dU O O) (fG O (bD O (fun h1 => ?_) (fun h1 => ?_)))))))))
 ·(try simp only [aA] at h1)
  refine jM O (aT (aB (dL oU O ?_)))
  refine ⟨congrArg Value.string ?_, O⟩
  unfold pU
  repeat (first | (rw [if_pos (by assumption)]; done) | rw [if_neg (by assumption)])
 ·(try simp only [aA] at h1)
  refine iR (Z (dU O O) (fG O (bD O (fun h2 => ?_) (fun h2 => ?_))))
  ·(try simp only [aA] at h2)
   refine jM O (aT (aB (dL oU O ?_)))
   refine ⟨congrArg Value.string ?_, O⟩
   unfold pU
   repeat (first | (rw [if_pos (by assumption)]; done) | rw [if_neg (by assumption)])
  ·(try simp only [aA] at h2)
   refine iR (Z (dU O O) (fG O (bD O (fun h3 => ?_) (fun h3 => ?_))))
   ·(try simp only [aA] at h3)
    refine jM O (aT (aB (dL oU O ?_)))
    refine ⟨congrArg Value.string ?_, O⟩
    unfold pU
    repeat (first | (rw [if_pos (by assumption)]; done) | rw [if_neg (by assumption)])
   ·(try simp only [aA] at h3)
    refine iR (Z (dU O O) (fG O (bD O (fun h4 => ?_) (fun h4 => ?_))))
    ·(try simp only [aA] at h4)
     refine jM O (aT (aB (dL oU O ?_)))
     refine ⟨congrArg Value.string ?_, O⟩
     unfold pU
     repeat (first | (rw [if_pos (by assumption)]; done) | rw [if_neg (by assumption)])
    ·(try simp only [aA] at h4)
     refine iR (Z (dU O O) (fG O (bD O (fun h5 => ?_) (fun h5 => ?_))))
     ·(try simp only [aA] at h5)
      refine jM O (aT (aB (dL oU O ?_)))
      refine ⟨congrArg Value.string ?_, O⟩
      unfold pU
      repeat (first | (rw [if_pos (by assumption)]; done) | rw [if_neg (by assumption)])
     ·(try simp only [aA] at h5)
      refine iR (Z (dU O O) (fG O (bD O (fun h6 => ?_) (fun h6 => ?_))))
      ·(try simp only [aA] at h6)
       refine jM O (aT (aB (dL oU O ?_)))
       refine ⟨congrArg Value.string ?_, O⟩
       unfold pU
       repeat (first | (rw [if_pos (by assumption)]; done) | rw [if_neg (by assumption)])
      ·(try simp only [aA] at h6)
       refine iR (Z (dU O O) (fG O (bD O (fun h7 => ?_) (fun h7 => ?_))))
       ·(try simp only [aA] at h7)
        refine jM O (aT (aB (dL oU O ?_)))
        refine ⟨congrArg Value.string ?_, O⟩
        unfold pU
        repeat (first | (rw [if_pos (by assumption)]; done) | rw [if_neg (by assumption)])
       ·(try simp only [aA] at h7)
        refine iR (Z (dU O O) (fG O (bD O (fun h8 => ?_) (fun h8 => ?_))))
        ·(try simp only [aA] at h8)
         refine jM O (aT (aB (dL oU O ?_)))
         refine ⟨congrArg Value.string ?_, O⟩
         unfold pU
         repeat (first | (rw [if_pos (by assumption)]; done) | rw [if_neg (by assumption)])
        ·(try simp only [aA] at h8)
         refine cZ (aK (aX (jM O (dL oU O ?_))))
         refine ⟨congrArg Value.string ?_, O⟩
         unfold pU
         repeat (first | (rw [if_pos (by assumption)]; done) | rw [if_neg (by assumption)])
theorem afa (h : keys.length = 0) : M.tgt l p keys n = (0, false, false) ∧ M.sought l p keys n = M := ⟨if_pos h, if_pos h⟩
theorem acz (h : ¬ keys.length = 0) (h1 : keys.getD 0 0 = 96) : M.tgt l p keys n = (M.at (if 1 < keys.length then keys.getD 1 0 else 0), false, decide (0 ≤ M.at (if 1 < keys.length then keys.getD 1 0 else 0) ∧ M.at (if 1 < keys.length then keys.getD 1 0 else 0) ≤ l.length)) ∧ M.sought l p keys n = M := by
  unfold VM.tgt VM.sought; rw [if_neg h, if_neg h, if_pos h1, if_pos h1]; exact ⟨rfl, rfl⟩
theorem afb (h : ¬ keys.length = 0) (h1 : ¬ keys.getD 0 0 = 96) (h2 : keys.getD 0 0 = 59 ∨ keys.getD 0 0 = 44) : M.tgt l p keys n = (if M.fk = 0 then (0, false, false) else xC l p (if keys.getD 0 0 = 44 then bits .xor .i32 M.fk 32 else M.fk) M.fc n) ∧ M.sought l p keys n = M := by
  unfold VM.tgt VM.sought; rw [if_neg h, if_neg h, if_neg h1, if_neg h1, if_pos h2, if_pos h2]; exact ⟨rfl, rfl⟩
theorem acA (h : ¬ keys.length = 0) (h1 : ¬ keys.getD 0 0 = 96) (h2 : ¬ (keys.getD 0 0 = 59 ∨ keys.getD 0 0 = 44)) : M.tgt l p keys n = xC l p (keys.getD 0 0) (if 1 < keys.length then keys.getD 1 0 else 0) n ∧ M.sought l p keys n = (if (xC l p (keys.getD 0 0) (if 1 < keys.length then keys.getD 1 0 else 0) n).2.2 = true ∧ keys.getD 0 0 ∈ zW U3 then { M with fk := keys.getD 0 0, fc := (if 1 < keys.length then keys.getD 1 0 else 0) } else M) := by
  unfold VM.tgt VM.sought; rw [if_neg h, if_neg h, if_neg h1, if_neg h1, if_neg h2, if_neg h2]; exact ⟨rfl, rfl⟩
theorem aaf (H : V w0 w (VC c m e name kv q g lv p • ku 21 .i32 lv l • oQ m M • F)) (hr : jF w0 F .i32 qv keys) (hT : Aq w0) (Ym : l.length ≤ 4611686018427387904) (hn : n ≤ 9223372036854775807) :
  iE prog 162 #[.pointer (some ⟨c, 0, none⟩), qv, .int .i64 n] w fun v w' => v = Xx (M.tgt l p keys n) ∧ V w0 w' (VC c m e name kv q g lv p • ku 21 .i32 lv l • oQ m (M.sought l p keys n) • F) := by
 refine zT func162 ntmps162 ?_
 refine iR (iK O (iK O (uZ O (bQ O (Z (iM (hr _ (H.right.right.right)) aj O) (Z (dX O O) (jB O (fun h1 => ?_) (fun h1 => ?_))))))))
 ·(try simp only [aA] at h1)
  refine iR (iK O (iK O (fB O (aB ?_))))
  refine ji (.inl O) results162 O O O ?_
  obtain ⟨h8, h9⟩ := afa (M := M) (l := l) (p := p) (n := n) (keys := keys) (by omega)
  exact ⟨by rw [h8]; rfl, by rw [h9]; exact H.f3.f3.f3⟩
 ·(try simp only [aA] at h1)
  refine gG (aN ?_)
  have hk0 : ¬ keys.length = 0 := by omega
  refine aC (bT O ?_)
  obtain ⟨bqv, oqv, cqv, eqv⟩ := gJ.rM (hr _ (H.right.right.right)) (by omega)
  cases eqv
  refine Z (dP aj bZ O O (by omega)) ?_
  refine Z (fK (dA bG O) O (by first | exact gJ.ni (hr _ (H.right.right.right)) (by omega) | exact gJ.yc (hr _ (H.right.right.right)) (by omega) | exact gJ.yx (hr _ (H.right.right.right)) (by omega))) ?_
  refine iK O (fG O ?_)
  refine kT [(0, _), (2, _), (9, _)] (fun (_ : Unit) => [(10, .int .i32 (if 1 < keys.length then keys.getD 1 0 else 0))]) (fun (_ : Unit) W => V w0 W (VC c m e name kv q g lv p • ku 21 .i32 lv l • oQ m M • F)) uK ?_ ?_
  ·rintro _ w1 HJ
   dsimp only [List.cons_append, List.nil_append]
   refine aN (bQ O (iJ (aY (iR (Z (dX O O) (fG O (bD O (fun h2 => ?_) (fun h2 => ?_))))))))
   ·(try simp only [aA] at h2)
    have hk1 : keys.getD 0 0 = 96 := h2
    refine bQ O (dK O (bJ 0 bC O sizeOf41 O (fM jJ O (HJ).get.2 O (bT O (dS O func183 (RG HJ.f3) ?_)))))
    rintro _ w2 ⟨rfl, H2⟩
    refine uZ O ?_
    have abJ := H2.drew
    have qj := V.kp (abJ.f3.f3.f3)
    refine yH [8] qj O (iQ 0 O qj O (iQ 1 O qj O (jC 2 O qj (fun _ => lV O O) ?_)))
    refine JQ 3 O O (by kernel_rfl) (by kernel_rfl) qj (oz O) (fun h3 => ?_) (fun h3 => ?_)
    ·(try simp only [aA] at h3)
     refine kQ 4 O O O (by kernel_rfl) (by kernel_rfl) qj (fun _ => Fj O) (oz O) ?_
     refine kQ 5 O O O (by kernel_rfl) (by kernel_rfl) qj (fun _ => Fj O) (oz O) ?_
     refine kQ 6 O O O (by kernel_rfl) (by kernel_rfl) qj (fun _ => Qn O) (oz O) ?_
     refine kQ 7 O O O (by kernel_rfl) (by kernel_rfl) qj (fun _ => Gi 6 bC O O dh (by decide) O rfl) (oz O) ?_
     refine Dl 8 O O O (by kernel_rfl) (by kernel_rfl) qj (by decide) (fun W hW => fK (dA aj O) O (kF ((Kp.h hW).f2).get.2 O)) (oz O) ?_
     refine kQ 9 O O O (by kernel_rfl) (by kernel_rfl) qj (fun _ => iM ((abJ.f3).aS) aj O) (oz O) ?_
     refine kQ 10 O O O (by kernel_rfl) (by kernel_rfl) qj (fun _ => sS O O) (oz O) ?_
     refine jC 11 O qj (fun _ => Gg O O) (jC 12 O qj (fun _ => dR O) (jC 13 O qj (fun _ => dR O) (jC 14 O qj (fun _ => dR O) (qV (aX (nI (aT (aB ?_))))))))
     refine ji (.inl O) results162 O O O ?_
     obtain ⟨e1, e2⟩ := acz (M := M) (l := l) (p := p) (n := n) hk0 hk1
     refine ⟨?_, by rw [e2]; exact abJ.f3.f3⟩
     rw [e1]
     refine congrArg (fun b => Value.tuple #[.int .i64 (M.at (if 1 < keys.length then keys.getD 1 0 else 0)), .bool false, .bool b]) ?_
     first | exact decide_eq_decide.2 (by omega) | exact (decide_eq_false (by omega)).symm
    ·(try simp only [aA] at h3)
     refine zk 4 O O O O (by kernel_rfl) (by kernel_rfl) qj (oz O) ?_
     refine zk 5 O O O O (by kernel_rfl) (by kernel_rfl) qj (oz O) ?_
     refine zk 6 O O O O (by kernel_rfl) (by kernel_rfl) qj (oz O) ?_
     refine zk 7 O O O O (by kernel_rfl) (by kernel_rfl) qj (oz O) ?_
     refine zk 8 O O O O (by kernel_rfl) (by kernel_rfl) qj (oz O) ?_
     refine zk 9 O O O O (by kernel_rfl) (by kernel_rfl) qj (oz O) ?_
     refine zk 10 O O O O (by kernel_rfl) (by kernel_rfl) qj (oz O) ?_
     refine jC 11 O qj (fun _ => Gh O O) (jC 12 O qj (fun _ => dR O) (jC 13 O qj (fun _ => dR O) (jC 14 O qj (fun _ => dR O) (qV (aX (nI (aT (aB ?_))))))))
     refine ji (.inl O) results162 O O O ?_
     obtain ⟨e1, e2⟩ := acz (M := M) (l := l) (p := p) (n := n) hk0 hk1
     refine ⟨?_, by rw [e2]; exact abJ.f3.f3⟩
     rw [e1]
     refine congrArg (fun b => Value.tuple #[.int .i64 (M.at (if 1 < keys.length then keys.getD 1 0 else 0)), .bool false, .bool b]) ?_
     first | exact decide_eq_decide.2 (by omega) | exact (decide_eq_false (by omega)).symm
   ·(try simp only [aA] at h2)
    have hk1 : ¬ keys.getD 0 0 = 96 := h2
    refine kT [(0, _), (2, _), (9, _), (10, _)] (fun (_ : Unit) => [(49, .bool (decide (keys.getD 0 0 = 59 ∨ keys.getD 0 0 = 44)))]) (fun (_ : Unit) W => V w0 W (VC c m e name kv q g lv p • ku 21 .i32 lv l • oQ m M • F)) OM ?_ ?_
    ·rintro _ w3 HK
     dsimp only [List.cons_append, List.nil_append]
     refine bD O (fun h4 => ?_) (fun h4 => ?_)
     ·(try simp only [aA] at h4)
      refine aN ?_
      obtain ⟨Rz, RD, RF, zK, zX⟩ := (HK.f3).vm
      have hk2 : keys.getD 0 0 = 59 ∨ keys.getD 0 0 = 44 := by omega
      obtain ⟨e1, e2⟩ := afb (M := M) (l := l) (p := p) (n := n) hk0 hk1 hk2
      refine aC (nG O O (bJ 0 bC O sizeOf41 O (fM jJ O (zX.f5).get.2 O (dK O (bJ 1 gZ O sizeOf115 O (Z (qx 1 (xs := [_, _]) og O sizeOf115 O O (zX).get.2 O) ?_))))))
      have Xg := zX.f4.f4.f4.f4
      have Xh := V.Fb (M := M) zK Xg
      refine kD (iC (l := [_, _]) Xh zeroValue115 O) ?_
      rintro _ w8 ⟨b8, rfl, H8⟩
      refine aJ (dB 0 (l' := [_, _]) (us := [_, _]) H8 sizeOf115 O O O (aG (aG bU)) O O) ?_
      rintro _ w9 H9
      refine qQ (iR (bJ 0 og O bZ O (fM bG O (H9).get.2 O (Z (dX O O) (jB O (fun h5 => ?_) (fun h5 => ?_))))))
      ·(try simp only [aA] at h5)
       have hf0 : M.fk = 0 := h5
       refine iR (iK O (iK O (fB O (aB (aT (aB ?_))))))
       refine ji (.inl O) results162 O O O ?_
       exact ⟨by rw [e1, if_pos hf0]; rfl, by rw [e2]; exact H9.right.f3.f3⟩
      ·(try simp only [aA] at h5)
       have hf0 : ¬ M.fk = 0 := h5
       refine gG ?_
       refine kT [(0, _), (2, _), (12, _)] (fun (_ : Unit) => []) (fun (_ : Unit) W => V w0 W (dW b8 (.cells #[.int .i32 (if keys.getD 0 0 = 44 then bits .xor .i32 M.fk 32 else M.fk), .int .i32 M.fc] 115 (0, 0)) • VC c m e name kv q g lv p • ku 21 .i32 lv l • oQ m M • F)) uK ?_ ?_
       ·rintro _ w10 HN
        dsimp only [List.cons_append, List.nil_append]
        refine aN ?_
        have aag := HN.drew
        have oh := V.kp (aag.f4.f4.f4.f4)
        refine yH [3, 7, 9, 11, 16] oh O (iQ 0 O oh O (jU 1 O oh O (gU 2 O oh 6 bC O dh O (jO 3 O oh (fun W hW => jV aj O ((Kp.h hW).f2).get.2 O) (iQ 4 O oh O (jU 5 O oh O (gU 6 O oh 7 bC O ay O (jO 7 O oh (fun W hW => jV aH O ((Kp.h hW).f2).get.2 O) (gU 8 O oh 0 og O bZ O (jO 9 O oh (fun W hW => jV bG O ((Kp.h hW)).get.2 O) (gU 10 O oh 1 og O bZ O (jO 11 O oh (fun W hW => jV bG O ((Kp.h hW)).get.2 O) (iQ 12 O oh O (iQ 13 O oh O (jU 14 O oh O (gU 15 O oh 5 bC O aP O (jO 16 O oh (fun W hW => jV bY O ((Kp.h hW).f2).get.2 O) (mZ 17 O (xq O func11 (D8 aag (fun W HW => (HW.f3).aS) hT (by omega) (by omega))) ?_))))))))))))))))))
        rintro _ Fv ⟨rfl, tq⟩
        have CV := V.kp (tq.f4.f4.f4.f4)
        refine iG CV (by kernel_rfl) ?_
        refine jC 18 O CV (fun _ => oI O O) (jC 19 O CV (fun _ => oI O O) (jC 20 O CV (fun _ => oI O O) (jC 21 O CV (fun _ => dR O) (jC 22 O CV (fun _ => dR O) (jC 23 O CV (fun _ => dR O) (qV (aX (nI (aT (aB ?_))))))))))
        refine ji (.inl O) results162 O O O ?_
        exact ⟨by rw [e1, if_neg hf0]; rfl, by rw [e2]; exact tq.right.f3.f3.f3⟩
       ·skip
        refine bQ O (Z (dX O O) (jB O (fun h6 => ?_) (fun h6 => ?_)))
        ·(try simp only [aA] at h6)
         refine aC (bJ 0 og O bZ O (fM bG O (H9).get.2 O ?_))
         refine Z (abp .xor O O (by simp)) ?_
         refine bJ 0 og O bZ O (aJ (st2 0 H9 bZ) ?_)
         rintro _ w12 vZ
         refine bW ?_
         refine dw (()) ?_ ?_ ?_
         ·exact (Sub.nil _)
         ·exact uK
         ·(try dsimp only)
          first | done | exact (by first | (rw [if_pos (by assumption)]; exact vZ.f2.f4.f4.f4) | (rw [if_neg (by assumption)]; exact vZ.f2.f4.f4.f4))
        ·(try simp only [aA] at h6)
         refine cZ ?_
         refine dw (()) ?_ ?_ ?_
         ·exact (Sub.nil _)
         ·exact uK
         ·(try dsimp only)
          first | done | exact (by first | (rw [if_pos (by assumption)]; exact H9.f2.f4.f4.f4) | (rw [if_neg (by assumption)]; exact H9.f2.f4.f4.f4))
     ·(try simp only [aA] at h4)
      refine cZ (aK (aX (aN ?_)))
      have hk2 : ¬ (keys.getD 0 0 = 59 ∨ keys.getD 0 0 = 44) := by omega
      obtain ⟨e1, e2⟩ := acA (M := M) (l := l) (p := p) (n := n) hk0 hk1 hk2
      have aah := HK.drew
      have pV := V.kp (aah.f3.f3.f3)
      refine yH [3, 7, 14] pV O (iQ 0 O pV O (jU 1 O pV O (gU 2 O pV 6 bC O dh O (jO 3 O pV (fun W hW => jV aj O ((Kp.h hW)).get.2 O) (iQ 4 O pV O (jU 5 O pV O (gU 6 O pV 7 bC O ay O (jO 7 O pV (fun W hW => jV aH O ((Kp.h hW)).get.2 O) (iQ 8 O pV O (iQ 9 O pV O (iQ 10 O pV O (iQ 11 O pV O (jU 12 O pV O (gU 13 O pV 5 bC O aP O (jO 14 O pV (fun W hW => jV bY O ((Kp.h hW)).get.2 O) (mZ 15 O (xq O func11 (D8 aah (fun W HW => (HW.f2).aS) hT (by omega) (by omega))) ?_))))))))))))))))
      rintro _ Qh ⟨rfl, wo⟩
      have yB := V.kp (wo.f3.f3.f3)
      refine iG yB (by kernel_rfl) ?_
      refine iQ 16 O yB O (jC 17 O yB (fun _ => oI O O) (jC 18 O yB (fun _ => oI O O) (jC 19 O yB (fun _ => oI O O) (jC 20 O yB (fun _ => dR O) (jC 21 O yB (fun _ => dR O) (jC 22 O yB (fun _ => dR O) (qV (aX (aN (bQ O (jG O (fun h7 => ?_) (fun h7 => ?_))))))))))))
      ·(try simp only [aA] at h7)
       refine bg (bT O (bg (dS O func50 (BZ (s := U3) (by decide)) ?_)))
       rintro _ _ ⟨rfl, rfl⟩
       refine iU O O (jB O (fun h8 => ?_) (fun h8 => ?_))
       ·(try simp only [aA] at h8)
        obtain ⟨Rz, RD, RF, zK, zX⟩ := (wo.f3).vm
        refine aC (nG O O (bJ 0 bC O sizeOf41 O (fM jJ O (zX.f5).get.2 O (jR O O ?_))))
        refine Z (fC (zl := [.int .i32 0, .int .i32 0]) (pl := [(0, 1), (1, 1)]) [_, _] og zeroValue115 O (fun w => by kernel_rfl) O (.on (.on .nil)) O) ?_
        refine dK O (bJ 1 gZ O sizeOf115 O (aJ (dB 1 (l' := [_, _, _, _, _, _, _, _]) (us := [_, _]) zX sizeOf115 O O O (aG (aG bU)) O O) ?_))
        rintro _ w16 vw
        have Um := vw.f4.f4.f4.f4
        have Un := V.Fb (M := { M with fk := keys.getD 0 0, fc := (if 1 < keys.length then keys.getD 1 0 else 0) }) zK Um
        refine rG O (jR O O (iK O (iK O (fB O ?_))))
        refine ji (.inl O) results162 O O O ?_
        refine ⟨by rw [e1]; rfl, ?_⟩
        rw [e2]
        first | (rw [if_pos ⟨by assumption, by assumption⟩]; exact Un.f3.f3) | (rw [if_neg (fun hc => absurd hc.2 (by assumption))]; exact Un.f3.f3) | (rw [if_neg (fun hc => absurd hc.1 (by simp only [*]; decide))]; exact Un.f3.f3)
       ·(try simp only [aA] at h8)
        refine gG (bQ O (jR O O (iK O (iK O (fB O ?_)))))
        refine ji (.inl O) results162 O O O ?_
        refine ⟨by rw [e1]; rfl, ?_⟩
        rw [e2]
        first | (rw [if_pos ⟨by assumption, by assumption⟩]; exact wo.f3.f3.f3) | (rw [if_neg (fun hc => absurd hc.2 (by assumption))]; exact wo.f3.f3.f3) | (rw [if_neg (fun hc => absurd hc.1 (by simp only [*]; decide))]; exact wo.f3.f3.f3)
      ·(try simp only [aA] at h7)
       refine bF (bF (iH O O (iJ (qo (gG (bQ O (jR O O (iK O (iK O (fB O ?_))))))))))
       refine ji (.inl O) results162 O O O ?_
       refine ⟨by rw [e1]; rfl, ?_⟩
       rw [e2]
       first | (rw [if_pos ⟨by assumption, by assumption⟩]; exact wo.f3.f3.f3) | (rw [if_neg (fun hc => absurd hc.2 (by assumption))]; exact wo.f3.f3.f3) | (rw [if_neg (fun hc => absurd hc.1 (by simp only [*]; decide))]; exact wo.f3.f3.f3)
    ·skip
     refine iR (Z (dX O O) (fG O (bD O (fun h9 => ?_) (fun h9 => ?_))))
     ·(try simp only [aA] at h9)
      refine cZ ?_
      refine dw (()) ?_ ?_ ?_
      ·exact (Sub.jv O (congrArg Value.bool (decide_eq_decide.2 (by omega))) (Sub.nil _))
      ·exact OM
      ·(try dsimp only)
       first | done | exact HJ.f3.f3.f3
     ·(try simp only [aA] at h9)
      refine aC (Z (dX O O) (iK O (bW ?_)))
      refine dw (()) ?_ ?_ ?_
      ·exact (Sub.jv O (congrArg Value.bool (decide_eq_decide.2 (by omega))) (Sub.nil _))
      ·exact OM
      ·(try dsimp only)
       first | done | exact HJ.f3.f3.f3
  ·skip
   refine bQ O (Z (jd aj O) (Z (dY O O) (jB O (fun h10 => ?_) (fun h10 => ?_))))
   ·(try simp only [aA] at h10)
    refine aC (bT O (Z (dP aj bZ O O (by omega)) ?_))
    refine Z (fK (dA bG O) O (by first | exact gJ.ni (hr _ (H.right.right.right)) (by omega) | exact gJ.yc (hr _ (H.right.right.right)) (by omega) | exact gJ.yx (hr _ (H.right.right.right)) (by omega))) ?_
    refine iK O (bW ?_)
    refine dw (()) ?_ ?_ ?_
    ·exact (Sub.jv O (by first | (rw [if_pos (by omega)]; rfl) | rw [if_neg (by omega)]) (Sub.nil _))
    ·exact uK
    ·(try dsimp only)
     first | done | exact H.f3.f3.f3
   ·(try simp only [aA] at h10)
    refine cZ ?_
    refine dw (()) ?_ ?_ ?_
    ·exact (Sub.jv O (by first | (rw [if_pos (by omega)]; rfl) | rw [if_neg (by omega)]) (Sub.nil _))
    ·exact uK
    ·(try dsimp only)
     first | done | exact H.f3.f3.f3
end
theorem kV {a b : ByteArray} (h : a.data.toList ≠ b.data.toList) : ¬ a.toList = b.toList := by rw [ByteArray.toList_eq, ByteArray.toList_eq]; exact h
theorem U4 : pU vW = ⟨#[]⟩ := by
  unfold pU
  rw [if_neg (kV (by decide)), if_neg (kV (by decide)), if_neg (kV (by decide)), if_neg (kV (by decide)), if_neg (kV (by decide)), if_neg (kV (by decide)), if_neg (kV (by decide)), if_neg (kV (by decide))]
theorem JH {w0 w : World} {F : HP} {e : Nat} {s : bn} (H : V w0 w (eP e s • F)) : s.c.L.length ≤ 1024 ∧ (0 ≤ s.c.pt ∧ s.c.pt ≤ s.c.L.length) := by
  obtain ⟨pb, pr, pw, pt, pm, ph, bl, pv, es, u0, u1, u2, u3, u4, u5, u6, u7, u8, u9, ua, h, _, _, H2⟩ := H.GI
  obtain ⟨a, c, xs, f, t, h1, h2, h3, h4, h5, h6, h7, _⟩ := H2.f2.buf
  exact ⟨h4, h6⟩
namespace bn
variable (s : bn)
def U5 (M : VM) (keys : List Int) (n : Int) : Int := if (M.tgt s.c.L s.c.pt keys n).2.2 = true then s.sU (M.tgt s.c.L s.c.pt keys n).1 else 6
def U6 (M : VM) (keys : List Int) (n : Int) : bn := if (M.tgt s.c.L s.c.pt keys n).2.2 = true then s.lC (M.tgt s.c.L s.c.pt keys n).1 else s
end bn
section
variable {w0 : World} {s : bn} {keys : List Int} {n : Int} {g : Bool} {M : VM}
theorem XU (hT : Aq w0) (hn : n ≤ 9223372036854775807) : Z8 w0 vW keys n g s M fun x t M' => x = s.U5 M keys n ∧ t = s.U6 M keys n ∧ M' = M.sought s.c.L s.c.pt keys n := by
 intro F w c m e kv lv H hk
 have hln := (JH H.f4).1
 refine iZ func124 ntmps124 ?_
 refine jQ O (aN (bQ O (dK O (bJ 2 bC O nD O (fM jS O (H).get.2 O (dS O func160 (D9) ?_))))))
 rintro _ _ ⟨rfl, rfl⟩
 refine fG O (bQ O (Z (Ei O O) (jG O (fun h => by exfalso; (try simp only [aA] at h); exact h (by rw [U4])) (fun h1 => ?_))))
 (try simp only [aA] at h1)
 refine bF (bF (bF (bF (bF (bF (bF (bF (bF (iH O O (iJ (qo (gG (aN (bQ O (dK O (bJ 2 bC O nD O (fM jS O (H).get.2 O (iJ (aY (iR (Z (dU O O) (fG O (bD O (fun h => by exfalso; (try simp only [aA] at h); exact absurd h (kV (by decide))) (fun h2 => ?_))))))))))))))))))))))))
 (try simp only [aA] at h2)
 refine iR (Z (dU O O) (fG O (bD O (fun h3 => ?_) (fun h => by exfalso; (try simp only [aA] at h); exact h O))))
 (try simp only [aA] at h3)
 refine aN ?_
 have afc := H.drew
 have Fh := V.kp (afc.f4.f4.f4.f4)
 refine yH [4, 8] Fh O (iQ 0 O Fh O (iQ 1 O Fh O (jU 2 O Fh O (gU 3 O Fh 3 bC O dh O (jO 4 O Fh (fun W hW => jV aj O ((Kp.h hW)).get.2 O) (iQ 5 O Fh O (jU 6 O Fh O (gU 7 O Fh 4 bC O ay O (jO 8 O Fh (fun W hW => jV aH O ((Kp.h hW)).get.2 O) (mZ 9 O (xq O func162 (aaf afc.f3.f3.f3 (fun W HW => hk _ (HW.right)) hT (by omega) (by omega))) ?_))))))))))
 rintro _ w2 ⟨rfl, H2⟩
 have AL := V.kp (H2.f4.f4.f4.f4)
 refine iG AL (by kernel_rfl) ?_
 refine iQ 10 O AL O (jC 11 O AL (fun _ => oI O O) (jC 12 O AL (fun _ => oI O O) (jC 13 O AL (fun _ => oI O O) (jC 14 O AL (fun _ => dR O) (jC 15 O AL (fun _ => dR O) (jC 16 O AL (fun _ => dR O) (qV (aX (aN (bQ O (Z (lJ O) (jB O (fun h4 => ?_) (fun h4 => ?_)))))))))))))
 ·(try simp only [aA] at h4)
  have hok : ¬ (M.tgt s.c.L s.c.pt keys n).2.2 = true := by have h9 := h4; simpa using h9
  refine jM O (aB (aT (aB (dL results124 O ?_))))
  exact ⟨_, _, _, ⟨by unfold bn.U5; rw [if_neg hok], by unfold bn.U6; rw [if_neg hok], O⟩, O, H2.f4.f4.f4.f4⟩
 ·(try simp only [aA] at h4)
  have hok : (M.tgt s.c.L s.c.pt keys n).2.2 = true := by have h9 := h4; simpa using h9
  refine gG (bQ O (dK O (bJ 1 bC O sizeOf37 O (fM iD O (H2).get.2 O (bT O (dS O func30 (uY H2.f4) ?_))))))
  rintro _ w3 ⟨rfl, H3⟩
  refine fB O (aT (aB (dL results124 O ?_)))
  exact ⟨_, _, _, ⟨by unfold bn.U5; rw [if_pos hok], by unfold bn.U6; rw [if_pos hok], O⟩, O, H3.f4.f4.f4⟩
end
namespace bn
variable (s : bn)
def U7 (i j : Int) : Int := if i = j then 6 else if s.EU i j false = 0 then (s.oD i j false).sU i else s.EU i j false
def U8 (i j : Int) : bn := if i = j then s else if s.EU i j false = 0 then (s.oD i j false).lC i else s.oD i j false
def vdA (keys : List Int) (n : Int) : Int := if keys.getD 0 0 = 88 then s.c.pt - min n s.c.pt else s.c.pt
def vdB (keys : List Int) (n : Int) : Int := if keys.getD 0 0 = 88 then s.c.pt else s.c.pt + min n (s.c.L.length - s.c.pt)
def BD (keys : List Int) (n : Int) : Int := if keys.getD 0 0 ∈ zW ⟨#[120, 88]⟩ then s.U7 (s.vdA keys n) (s.vdB keys n) else 6
def BF (keys : List Int) (n : Int) : bn := if keys.getD 0 0 ∈ zW ⟨#[120, 88]⟩ then s.U8 (s.vdA keys n) (s.vdB keys n) else s
end bn
section
variable {w0 w : World} {F : HP} {c m e : Nat} {s : bn} {name : ByteArray} {kv lv : Value} {n p i j q : Int} {g : Bool}
theorem abK (H : V w0 w (VC c m e name kv q g lv p • eP e s • F)) : iE prog 164 #[.pointer (some ⟨c, 0, none⟩), .int .i64 i, .int .i64 j] w fun v w' => v = .int .i64 (s.U7 i j) ∧ V w0 w' (VC c m e name kv q g lv p • eP e (s.U8 i j) • F) := by
  refine zT func164 ntmps164 ?_
  refine jQ O (aN (bQ O (bT O (Z (dX O O) (jB O (fun h1 => ?_) (fun h1 => ?_))))))
  · (try simp only [aA] at h1)
    have hij := h1
    refine jM O (aB (dL results164 O ?_))
    exact ⟨by unfold bn.U7; rw [if_pos hij], by unfold bn.U8; rw [if_pos hij]; exact H.f2.f2⟩
  · (try simp only [aA] at h1)
    have hij : ¬ i = j := h1
    refine gG (aN (bQ O (dK O (bJ 1 bC O sizeOf37 O (fM iD O (H).get.2 O (jR O O (dS O func186 (RP H.f2) ?_)))))))
    rintro _ w1 ⟨rfl, H1⟩
    refine fG O (bQ O (Z (ig O O) (jB O (fun h2 => ?_) (fun h2 => ?_))))
    · (try simp only [aA] at h2)
      have hke : ¬ s.EU i j false = 0 := h2
      refine bQ O (fB O (aB (dL results164 O ?_)))
      exact ⟨by unfold bn.U7; rw [if_neg hij, if_neg hke], by unfold bn.U8; rw [if_neg hij, if_neg hke]; exact H1.f2⟩
    · (try simp only [aA] at h2)
      have hke : s.EU i j false = 0 := by have h9 := h2; omega
      refine gG (bQ O (dK O (bJ 1 bC O sizeOf37 O (fM iD O (H1.f2).get.2 O (bT O (dS O func30 (uY H1) ?_))))))
      rintro _ w2 ⟨rfl, H2⟩
      refine fB O (dL results164 O ?_)
      exact ⟨by unfold bn.U7; rw [if_neg hij, if_pos hke], by unfold bn.U8; rw [if_neg hij, if_pos hke]; exact H2.f2⟩
end
theorem Cm : pU Fa = ⟨#[120, 88]⟩ := by
  unfold pU
  rw [if_neg (kV (by decide)), if_neg (kV (by decide)), if_neg (kV (by decide)), if_pos rfl]
section
variable {w0 : World} {s : bn} {keys : List Int} {n : Int} {g : Bool} {M : VM}
theorem aai (hk1 : 1 ≤ keys.length) (hn : 1 ≤ n ∧ n ≤ 1000000) : Z8 w0 Fa keys n g s M fun x t M' => x = s.BD keys n ∧ t = s.BF keys n ∧ M' = M := by
 intro F w c m e kv lv H hk
 obtain ⟨hln, hpt⟩ := JH H.f4
 refine iZ func124 ntmps124 ?_
 refine jQ O (aN (bQ O (dK O (bJ 2 bC O nD O (fM jS O (H).get.2 O (dS O func160 (D9) ?_))))))
 rintro _ _ ⟨rfl, rfl⟩
 refine fG O (bQ O (Z (Ei O O) (jG O (fun h1 => ?_) (fun h => by exfalso; (try simp only [aA] at h); exact absurd h (by rw [Cm]; exact kV (by decide))))))
 (try simp only [aA] at h1)
 refine bg (bT O (bg (dK O (bg (bJ 3 bC O dh O (bg (fM aj O (H).get.2 O (bg ?_))))))))
 obtain ⟨bkv, okv, ckv, ekv⟩ := gJ.rM (hk _ (H.right.right.right.right)) (by omega)
 cases ekv
 refine Z (dP aj bZ O O (by omega)) (bg ?_)
 refine Z (fK (dA bG O) O (by first | exact gJ.ni (hk _ (H.right.right.right.right)) (by omega) | exact gJ.yc (hk _ (H.right.right.right.right)) (by omega) | exact gJ.yx (hk _ (H.right.right.right.right)) (by omega))) ?_
 refine bg (bT O (bg (dS O func50 (BZ (by rw [Cm]; decide)) ?_)))
 rintro _ _ ⟨rfl, rfl⟩
 refine bg (Z (lJ O) (iU O O (jB O (fun h2 => ?_) (fun h2 => ?_))))
 ·(try simp only [aA] at h2)
  have hin : ¬ keys.getD 0 0 ∈ zW ⟨#[120, 88]⟩ := by have h9 := h2; rw [Cm] at h9; exact h9
  refine jM O (aB (dL results124 O ?_))
  exact ⟨_, _, _, ⟨by unfold bn.BD; rw [if_neg hin], by unfold bn.BF; rw [if_neg hin], O⟩, O, H.f4.f4.f4.f4⟩
 ·(try simp only [aA] at h2)
  have hin : keys.getD 0 0 ∈ zW ⟨#[120, 88]⟩ := by have h9 := h2; rw [Cm] at h9; exact h9
  refine gG (aN (bQ O (dK O (bJ 2 bC O nD O (fM jS O (H).get.2 O (iJ (aY (iR (Z (dU O O) (fG O (bD O (fun h => by exfalso; (try simp only [aA] at h); exact absurd h (kV (by decide))) (fun h3 => ?_))))))))))))
  (try simp only [aA] at h3)
  refine iR (Z (dU O O) (fG O (bD O (fun h => by exfalso; (try simp only [aA] at h); exact absurd h (kV (by decide))) (fun h4 => ?_))))
  (try simp only [aA] at h4)
  refine aN (iR (Z (dU O O) (fG O (bD O (fun h => by exfalso; (try simp only [aA] at h); exact absurd h (kV (by decide))) (fun h5 => ?_)))))
  (try simp only [aA] at h5)
  refine iR (Z (dU O O) (fG O (bD O (fun h => by exfalso; (try simp only [aA] at h); exact absurd h (kV (by decide))) (fun h6 => ?_))))
  (try simp only [aA] at h6)
  refine aC (Z (dU O O) (fG O (bD O (fun h => by exfalso; (try simp only [aA] at h); exact absurd h (kV (by decide))) (fun h7 => ?_))))
  (try simp only [aA] at h7)
  refine iR (Z (dU O O) (fG O (bD O (fun h8 => ?_) (fun h => by exfalso; (try simp only [aA] at h); exact h O))))
  (try simp only [aA] at h8)
  refine aN ?_
  have Jd := H.drew
  have lI := V.kp (Jd.f4.f4.f4.f4)
  refine yH [3, 7, 11, 15, 20] lI O (iQ 0 O lI O (jU 1 O lI O (gU 2 O lI 7 bC O ay O (jO 3 O lI (fun W hW => jV aH O ((Kp.h hW)).get.2 O) (iQ 4 O lI O (jU 5 O lI O (gU 6 O lI 7 bC O ay O (jO 7 O lI (fun W hW => jV aH O ((Kp.h hW)).get.2 O) (iQ 8 O lI O (jU 9 O lI O (gU 10 O lI 4 bC O ay O (jO 11 O lI (fun W hW => jV aH O ((Kp.h hW)).get.2 O) (iQ 12 O lI O (jU 13 O lI O (gU 14 O lI 6 bC O dh O (jO 15 O lI (fun W hW => jV aj O ((Kp.h hW)).get.2 O) (jC 16 O lI (fun _ => iM ((Jd.f2).aS) aj O) (iQ 17 O lI O (jU 18 O lI O (gU 19 O lI 7 bC O ay O (jO 20 O lI (fun W hW => jV aH O ((Kp.h hW)).get.2 O) (jC 21 O lI (fun _ => iV O O (by omega)) (jC 22 O lI (fun _ => zZ O O) (jC 23 O lI (fun _ => fJ O O (by omega)) (jC 24 O lI (fun _ => dR O) (jC 25 O lI (fun _ => dR O) (qV (aX ?_))))))))))))))))))))))))))))
  refine kT [(0, _)] (fun (_ : Unit) => [(7, .int .i64 (s.vdA keys n)), (8, .int .i64 (s.vdB keys n))]) (fun (_ : Unit) W => V w0 W (VC c m e Fa (.slice (some ⟨bkv, okv, none⟩) (keys.length) ckv) n g lv s.c.pt • ku 21 .i32 lv s.c.L • oQ m M • eP e s • F)) lU ?_ ?_
  ·rintro _ w3 HJ
   dsimp only [List.cons_append, List.nil_append]
   refine bQ O (jR O O (dS O func164 (abK HJ.f4.f2) ?_))
   rintro _ w4 ⟨rfl, H4⟩
   refine fB O (aT (aB (dL results124 O ?_)))
   exact ⟨_, _, _, ⟨by unfold bn.BD; rw [if_pos hin], by unfold bn.BF; rw [if_pos hin], O⟩, O, H4.f2.f4.f4.f4⟩
  ·skip
   refine bQ O (dK O (bJ 3 bC O dh O (fM aj O (Jd).get.2 O (Z (dP aj bZ O O (by omega)) ?_))))
   refine Z (fK (dA bG O) O (by first | exact gJ.ni (hk _ (Jd.right.right.right.right)) (by omega) | exact gJ.yc (hk _ (Jd.right.right.right.right)) (by omega) | exact gJ.yx (hk _ (Jd.right.right.right.right)) (by omega))) ?_
   refine Z (dX O O) (jB O (fun h9 => ?_) (fun h9 => ?_))
   ·(try simp only [aA] at h9)
    have acB := Jd.drew
    have pI := V.kp (acB.f4.f4.f4.f4)
    refine yH [3, 7, 11, 17] pI O (iQ 0 O pI O (jU 1 O pI O (gU 2 O pI 7 bC O ay O (jO 3 O pI (fun W hW => jV aH O ((Kp.h hW)).get.2 O) (iQ 4 O pI O (jU 5 O pI O (gU 6 O pI 4 bC O ay O (jO 7 O pI (fun W hW => jV aH O ((Kp.h hW)).get.2 O) (iQ 8 O pI O (jU 9 O pI O (gU 10 O pI 7 bC O ay O (jO 11 O pI (fun W hW => jV aH O ((Kp.h hW)).get.2 O) (jC 12 O pI (fun _ => zZ O O) (jC 13 O pI (fun _ => iV O O (by omega)) (iQ 14 O pI O (jU 15 O pI O (gU 16 O pI 7 bC O ay O (jO 17 O pI (fun W hW => jV aH O ((Kp.h hW)).get.2 O) (jC 18 O pI (fun _ => dR O) (jC 19 O pI (fun _ => dR O) (qV ?_)))))))))))))))))))))
    refine dw (()) ?_ ?_ ?_
    ·exact (Sub.jv O (by unfold bn.vdA; by_cases hz : keys.getD 0 0 = 88 <;> simp_all) (Sub.jv O (by unfold bn.vdB; by_cases hz : keys.getD 0 0 = 88 <;> simp_all) (Sub.nil _)))
    ·exact lU
    ·(try dsimp only)
     first | done | exact acB.f4.f4.f4.f4
   ·(try simp only [aA] at h9)
    refine cZ ?_
    refine dw (()) ?_ ?_ ?_
    ·exact (Sub.jv O (by unfold bn.vdA; by_cases hz : keys.getD 0 0 = 88 <;> simp_all) (Sub.jv O (by unfold bn.vdB; by_cases hz : keys.getD 0 0 = 88 <;> simp_all) (Sub.nil _)))
    ·exact lU
    ·(try dsimp only)
     first | done | exact Jd.f4.f4.f4.f4
end
end Go.Proofs.YtpdeedplgmbopaaGreatDoor
end
