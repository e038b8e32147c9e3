import Derived.Test.YtpdeedplgmbopaaGreatDoorZ4
import Derived.Test.YtpdeedplgmbopaaGreatDoorZ16
import Derived.Test.YtpdeedplgmbopaaGreatDoorZ9
import Derived.Test.YtpdeedplgmbopaaGreatDoorZ11
import Derived.Test.YtpdeedplgmbopaaGreatDoorZ8
import Derived.Test.YtpdeedplgmbopaaGreatDoorZ7
import Derived.Test.YtpdeedplgmbopaaGreatDoorZ6
set_option linter.unusedSimpArgs false
set_option linter.unusedVariables false
/- Texts of mine, joined, their names in short: VGo2 VT VO VMove RLs Ref7. -/
section
namespace Go.Proofs.YtpdeedplgmbopaaGreatDoor
open Go.RowKit
open _root_.Go.Proofs.Tryz
def oC (k : Nat) : Value := .func (.func k) #[] #[]
def EH (q1 q2 q3 q4 q5 q6 : MP) : HP := mZ q6 (oC 97) true true (oC 94) • mZ q5 (oC 97) false true (oC 94) • mZ q4 (oC 96) true false (oC 93) • mZ q3 (oC 96) false false (oC 93) • mZ q2 (oC 95) true false (oC 92) • mZ q1 (oC 95) false false (oC 92)
def zW (q1 q2 q3 q4 q5 q6 : MP) : Int → Option Value := upd (upd (upd (upd (upd (upd (fun _ => none) 119 (NT q1)) 87 (NT q2)) 98 (NT q3)) 66 (NT q4)) 101 (NT q5)) 69 (NT q6)
section
variable {w0 w : World} {F : HP} {v sv mv : Value} {l : List Int} {x n key : Int} {b t : Bool} {q1 q2 q3 q4 q5 q6 : MP}
theorem Ec {k1 k2 : Nat} (H : V w0 w F) : qU prog (oC 88) [oC k1, .bool b, .bool t, oC k2] w fun u w' => ∃ p, u = NT p ∧ V w0 w' (mZ p (oC k1) b t (oC k2) • F) := by
  refine ⟨_, [], [], _, _, O, func88, O, O, ?_⟩
  simp only [List.nil_append, List.append_nil]
  refine XB func88 ntmps88 ?_
  refine iE (jr (iD (l := [_]) H O O) ?_)
  rintro _ w1 ⟨b1, rfl, H1⟩
  refine jr (iD (l := [_]) H1 O O) ?_
  rintro _ w2 ⟨b2, rfl, H2⟩
  refine jr (iD (l := [_]) H2 O O) ?_
  rintro _ w3 ⟨b3, rfl, H3⟩
  refine jr (iD (l := [_]) H3 O O) ?_
  rintro _ w4 ⟨b4, rfl, H4⟩
  refine gJ O (iE (aV (vN O O) (eY O (dG results88 O ?_))))
  exact ⟨⟨_, _, _, _⟩, O, (H4).of_eq (by unfold mZ; simp only [bW])⟩
theorem qU.mono {P : Program} {fv : Value} {vs : List Value} {w : World} {T T' : Value → World → Prop} (h : qU P fv vs w T) (k : ∀ v w', T v w' → T' v w') : qU P fv vs w T' := by
  obtain ⟨f, a, c, fn, b, h1, h2, h3, h4, h5⟩ := h
  exact ⟨f, a, c, fn, b, h1, h2, h3, h4, h5.mono k⟩
theorem Qi (H : V w0 w F) : gI prog 39 #[] w fun u w' => ∃ b q1 q2 q3 q4 q5 q6, u = .map (some b) ∧ V w0 w' (fD (vY .i32) b (zW q1 q2 q3 q4 q5 q6) • EH q1 q2 q3 q4 q5 q6 • F) := by
  refine RQ func39 ntmps39 ?_
  refine jg O (jg O (jg O (jg O (jg O (iE (jr (jH (vY .i32) H) ?_))))))
  rintro _ w1 ⟨b1, rfl, H1⟩
  refine jJ O O (jr (nI O O (Ec (k1 := 95) (k2 := 92) H1)) ?_)
  rintro _ w2 ⟨q1, rfl, H2⟩
  refine aH (yj H2.f2 ng bg O O O) ?_
  rintro _ w3 H3
  refine jJ O O (jr (nI O O (Ec (k1 := 95) (k2 := 92) H3)) ?_)
  rintro _ w4 ⟨q2, rfl, H4⟩
  refine aH (yj H4.f2 ng bg O O O) ?_
  rintro _ w5 H5
  refine jJ O O (jr (nI O O (Ec (k1 := 96) (k2 := 93) H5)) ?_)
  rintro _ w6 ⟨q3, rfl, H6⟩
  refine aH (yj H6.f2 ng bg O O O) ?_
  rintro _ w7 H7
  refine jJ O O (jr (nI O O (Ec (k1 := 96) (k2 := 93) H7)) ?_)
  rintro _ w8 ⟨q4, rfl, H8⟩
  refine aH (yj H8.f2 ng bg O O O) ?_
  rintro _ w9 H9
  refine jJ O O (jr (nI O O (Ec (k1 := 97) (k2 := 94) H9)) ?_)
  rintro _ w10 ⟨q5, rfl, pV⟩
  refine aH (yj pV.f2 ng bg O O O) ?_
  rintro _ DU qo
  refine jJ O O (jr (nI O O (Ec (k1 := 97) (k2 := 94) qo)) ?_)
  rintro _ w12 ⟨q6, rfl, um⟩
  refine aH (yj um.f2 ng bg O O O) ?_
  rintro _ Oz uS
  refine bQ O (eY O (dG results39 O ?_))
  exact ⟨_, q1, q2, q3, q4, q5, q6, O, (uS).of_eq (by unfold EH; simp only [bW]; rfl)⟩
theorem NU (h : ¬ (key = 119 ∨ key = 87 ∨ key = 98 ∨ key = 66 ∨ key = 101 ∨ key = 69)) : zW q1 q2 q3 q4 q5 q6 key = none := by
  unfold zW upd
  rw [if_neg (by omega), if_neg (by omega), if_neg (by omega), if_neg (by omega), if_neg (by omega), if_neg (by omega)]
theorem NV (h : key = 119 ∨ key = 87 ∨ key = 98 ∨ key = 66 ∨ key = 101 ∨ key = 69) : (zW q1 q2 q3 q4 q5 q6 key).isSome = true := by
  rcases h with rfl | rfl | rfl | rfl | rfl | rfl <;> rfl
theorem NW (H : V w0 w (EH q1 q2 q3 q4 q5 q6 • F)) (hk : key = 119 ∨ key = 87 ∨ key = 98 ∨ key = 66 ∨ key = 101 ∨ key = 69) (hT : yG w0) (hr : jZ w0 F .i32 v l) (hl : l.length ≤ 4611686018427387904) (hx : inL l x) (hn : n ≤ 9223372036854775807) (z : Value) :
    qU prog ((zW q1 q2 q3 q4 q5 q6 key).getD z) [v, .int .i64 x, .int .i64 n] w fun u w' => u = SQ (wo l x key n) ∧ V w0 w' (EH q1 q2 q3 q4 q5 q6 • F) := by
  unfold EH at H ⊢
  have hI1 : ∀ y, decide (y < (l.length : Int) - 1) = true → inL l y → acv l y := fun y h1 h2 => ⟨h2.1, by have := of_decide_eq_true h1; omega⟩
  rcases hk with rfl | rfl | rfl | rfl | rfl | rfl
  · refine qU.mono (yA (p := q1) (F := mZ q6 (oC 97) true true (oC 94) • mZ q5 (oC 97) false true (oC 94) • mZ q4 (oC 96) true false (oC 93) • mZ q3 (oC 96) false false (oC 93) • mZ q2 (oC 95) true false (oC 92) • F) (H.of_eq (by ac_rfl)) (JG hT) Hu (fun y h1 h2 => h2) (fun W HW => hr W HW.right.right.right.right.right) hl hx hn) fun u W h => ⟨h.1.trans (by unfold wo; simp), h.2.of_eq (by ac_rfl)⟩
  · refine qU.mono (yA (p := q2) (F := mZ q6 (oC 97) true true (oC 94) • mZ q5 (oC 97) false true (oC 94) • mZ q4 (oC 96) true false (oC 93) • mZ q3 (oC 96) false false (oC 93) • mZ q1 (oC 95) false false (oC 92) • F) (H.of_eq (by ac_rfl)) (JG hT) Hu (fun y h1 h2 => h2) (fun W HW => hr W HW.right.right.right.right.right) hl hx hn) fun u W h => ⟨h.1.trans (by unfold wo; simp), h.2.of_eq (by ac_rfl)⟩
  · refine qU.mono (yA (p := q3) (F := mZ q6 (oC 97) true true (oC 94) • mZ q5 (oC 97) false true (oC 94) • mZ q4 (oC 96) true false (oC 93) • mZ q2 (oC 95) true false (oC 92) • mZ q1 (oC 95) false false (oC 92) • F) (H.of_eq (by ac_rfl)) (JH hT) JI (fun y h1 h2 => h2) (fun W HW => hr W HW.right.right.right.right.right) hl hx hn) fun u W h => ⟨h.1.trans (by unfold wo; simp), h.2.of_eq (by ac_rfl)⟩
  · refine qU.mono (yA (p := q4) (F := mZ q6 (oC 97) true true (oC 94) • mZ q5 (oC 97) false true (oC 94) • mZ q3 (oC 96) false false (oC 93) • mZ q2 (oC 95) true false (oC 92) • mZ q1 (oC 95) false false (oC 92) • F) (H.of_eq (by ac_rfl)) (JH hT) JI (fun y h1 h2 => h2) (fun W HW => hr W HW.right.right.right.right.right) hl hx hn) fun u W h => ⟨h.1.trans (by unfold wo; simp), h.2.of_eq (by ac_rfl)⟩
  · refine qU.mono (yA (p := q5) (F := mZ q6 (oC 97) true true (oC 94) • mZ q4 (oC 96) true false (oC 93) • mZ q3 (oC 96) false false (oC 93) • mZ q2 (oC 95) true false (oC 92) • mZ q1 (oC 95) false false (oC 92) • F) (H.of_eq (by ac_rfl)) (step_end hT) Hw (fun y h1 h2 => hI1 y h1 h2) (fun W HW => hr W HW.right.right.right.right.right) hl hx hn) fun u W h => ⟨h.1.trans (by unfold wo; simp), h.2.of_eq (by ac_rfl)⟩
  · refine qU.mono (yA (p := q6) (F := mZ q5 (oC 97) false true (oC 94) • mZ q4 (oC 96) true false (oC 93) • mZ q3 (oC 96) false false (oC 93) • mZ q2 (oC 95) true false (oC 92) • mZ q1 (oC 95) false false (oC 92) • F) (H.of_eq (by ac_rfl)) (step_end hT) Hw (fun y h1 h2 => hI1 y h1 h2) (fun W HW => hr W HW.right.right.right.right.right) hl hx hn) fun u W h => ⟨h.1.trans (by unfold wo; simp), h.2.of_eq (by ac_rfl)⟩
end
section
variable {w0 w : World} {F : HP} {v fv : Value} {l : List Int} {x n key c r : Int} {P : Int → Bool} {given : Bool}
theorem Qj (H : V w0 w F) (hr : jZ w0 F .i32 v l) (hf : ∀ W r, V w0 W F → qU prog fv [.int .i32 r] W fun u W' => u = .bool (!P r) ∧ V w0 W' F) : gI prog 40 #[v, fv] w fun u w' => u = .int .i64 (if jV P l 0 < l.length then jV P l 0 else -1) ∧ V w0 w' F := by
 have Xi : l.length ≤ 9223372036854775807 := by have := (hr _ H).open; obtain ⟨a, c, e, h3, h4, _⟩ := this; omega
 refine oq func40 ntmps40 ?_
 refine jg O (aP (bP O (aV (jk (hr _ (H)) aB O) (bQ O (iJ (aY ?_))))))
 refine fF [(0, _), (1, _), (7, _)] (fun (i : Int) => [(8, .int .i64 i)]) (fun (i : Int) W => ((0 ≤ i ∧ i ≤ l.length) ∧ jV P l i = jV P l 0) ∧ V w0 W F) (fun (i : Int) => (l.length - i).toNat) (0) uM lI ⟨⟨by omega, O⟩, H⟩ ?_
 rintro i w1 ⟨⟨hi, hE⟩, HL⟩
 dsimp only [List.cons_append, List.nil_append]
 refine iE (aV (iL O O) (pJ (bJ O (fun h1 => ?_) (fun h1 => ?_))))
 ·(try simp only [Z] at h1)
  refine fZ (aP (aY (bP O (gJ O (bP O (jJ O O ?_))))))
  obtain ⟨bv, ov, cv, ev⟩ := fP.pW (hr _ (HL)) (by omega)
  cases ev
  refine aV (dI aB bT O O (by omega)) ?_
  refine aV (fA (dn bg O) O (by first | exact fP.lW (hr _ (HL)) (by omega) | exact fP.wK (hr _ (HL)) (by omega) | exact fP.wH (hr _ (HL)) (by omega))) ?_
  refine jr (nI O O (hf _ (l.getD i.toNat 0) HL)) ?_
  rintro _ w2 ⟨rfl, H2⟩
  refine jh O (fun h2 => ?_) (fun h2 => ?_)
  ·(try simp only [Z] at h2)
   have hP : ¬ P (l.getD i.toNat 0) = true := by have h9 := h2; simpa using h9
   refine bP O (eY O (aT (aF (aF (aT (aF (dG results40 O ?_)))))))
   exact ⟨by rw [← hE, kN hi.1 (by omega) hP, if_pos (by omega)], H2⟩
  ·(try simp only [Z] at h2)
   have hP : P (l.getD i.toNat 0) = true := by have h9 := h2; simpa using h9
   refine bY (aJ (aX (aC (aV (gy O O (by omega)) (bQ O (bM ?_))))))
   refine dL (i + 1) ?_ ?_ ?_ ?_
   ·exact lI
   ·exact uM
   ·(try dsimp only)
    first | done | exact ⟨⟨by omega, (qc hi.1 (by omega) hP).symm.trans hE⟩, H2⟩
   ·(try dsimp only); omega
 ·(try simp only [Z] at h1)
  refine dB (aI (aI (aZ (aX (jC O (dG results40 O ?_))))))
  exact ⟨by rw [← hE, jo (by omega), if_neg (by omega)], HL⟩
theorem Qk (H : V w0 w F) (hT : yG w0) : gI prog 41 #[.int .i32 r] w fun u w' => u = .bool (!(eF r == 0)) ∧ V w0 w' F := by
  refine gG func41 ntmps41 ?_
  refine jg O (bP O (dS O func14 (nV H hT) ?_))
  rintro _ w1 ⟨rfl, H1⟩
  refine aV (iO O O) (eY O (dG results41 O ?_))
  exact ⟨O, H1⟩
theorem Wy (h : key = 119 ∨ key = 87 ∨ key = 98 ∨ key = 66 ∨ key = 101 ∨ key = 69) : kP l x key c n = wo l x key n := by
  unfold kP
  rw [if_neg (by omega), if_neg (by omega), if_neg (by omega), if_neg (by omega), if_neg (by omega), if_neg (by omega), if_neg (by omega), if_neg (by omega)]
theorem Yt (h : ¬ (key = 119 ∨ key = 87 ∨ key = 98 ∨ key = 66 ∨ key = 101 ∨ key = 69)) : wo l x key n = (0, false, false) := by
  unfold wo
  rw [if_neg (by omega), if_neg (by omega), if_neg (by omega)]
theorem zX (H : V w0 w F) (hr : jZ w0 F .i32 v l) (hT : yG w0) (hl8 : l.length ≤ 4611686018427387904) (hn : n ≤ 9223372036854775807) : gI prog 11 #[v, .int .i64 x, .int .i32 key, .int .i32 c, .int .i64 n, .bool given] w fun u w' => u = SQ (uU l x key c n) ∧ V w0 w' F := by
 obtain ⟨y, hy⟩ : ∃ y, y = min (max x 0) (l.length : Int) := ⟨_, rfl⟩
 obtain ⟨m, hm⟩ : ∃ m, m = max n 1 := ⟨_, rfl⟩
 unfold uU
 rw [← hy, ← hm]
 have hy2 : 0 ≤ y ∧ y ≤ l.length := by omega
 have hm2 : 1 ≤ m ∧ m ≤ 9223372036854775807 := by omega
 refine TW func11 ntmps11 ?_
 dsimp only [vJ, Nat.reduceAdd]
 refine iE (fU O (fU O (gJ O (bP O (aV (Ui O O) (bQ O (aV (jk (hr _ (H)) aB O) (aV (Ls (Cc O O) (congrArg (Value.int .i64) hy.symm)) (gJ O (bP O (aV (Ls (Ui O O) (congrArg (Value.int .i64) hm.symm)) (vk O (iE (dS O func39 (Qi H) ?_))))))))))))))
 rintro _ w1 ⟨b1, q1, q2, q3, q4, q5, q6, rfl, H1⟩
 refine bQ O (aV (zN (H1) ng bg zeroValue85 O O) (bQ O (rG O O (rG O O (fU O (gJ O (bP O (jh O (fun h1 => ?_) (fun h1 => ?_)))))))))
 ·(try simp only [Z] at h1)
  try (exfalso; first | contradiction | omega)
  all_goals
   have hk : key = 119 ∨ key = 87 ∨ key = 98 ∨ key = 66 ∨ key = 101 ∨ key = 69 := Decidable.byContradiction fun hc => by have h9 := h1; rw [NU hc] at h9; exact absurd h9 (by decide)
   refine bP O (jJ O O (bQ O (jr (nI O O (NW H1.f2 hk hT (fun W HW => hr W HW.right) hl8 hy2 hm2.2 _)) ?_)))
   rintro _ w2 ⟨rfl, H2⟩
   refine rG O O (rG O O (rG O O (fU O (fU O (eY O (aF ?_))))))
   refine gY (.inl O) kW O O O ?_
   exact ⟨by rw [Wy hk]; rfl, H2.right.right⟩
 ·(try simp only [Z] at h1)
  try (exfalso; first | contradiction | omega)
  all_goals
   have hk : ¬ (key = 119 ∨ key = 87 ∨ key = 98 ∨ key = 66 ∨ key = 101 ∨ key = 69) := fun hc => by have h9 := h1; rw [NV hc] at h9; exact absurd h9 (by decide)
   refine fZ (aP (bP O (iJ (aY (iE (aV (dV O O) (gJ O (bJ O (fun h2 => ?_) (fun h2 => ?_)))))))))
   ·(try simp only [Z] at h2)
    try (exfalso; first | contradiction | omega)
    all_goals
     refine aP (bP O (aV (dV O O) (jh O (fun h3 => ?_) (fun h3 => ?_))))
     ·(try simp only [Z] at h3)
      try (exfalso; first | contradiction | omega)
      all_goals
       refine iE (fU O (fU O (eY O (aF (aT (aF ?_))))))
       refine gY (.inl O) kW O O O ?_
       exact ⟨by unfold kP; rw [if_pos (by omega), if_pos (by omega)]; rfl, H1.right.right⟩
     ·(try simp only [Z] at h3)
      try (exfalso; first | contradiction | omega)
      all_goals
       refine fZ (bP O (jJ O O (aV (Cc O O) (aV (kX O O (by omega)) (fU O (fU O (eY O (aT (aF ?_)))))))))
       refine gY (.inl O) kW O O O ?_
       exact ⟨by unfold kP; rw [if_pos (by omega), if_neg (by omega)]; rfl, H1.right.right⟩
   ·(try simp only [Z] at h2)
    try (exfalso; first | contradiction | omega)
    all_goals
     refine kM [(0, _), (1, _), (2, _), (3, _), (4, _), (40, _)] (fun (_ : Unit) => [(50, .bool (decide (key = 108 ∨ key = 32)))]) (fun (_ : Unit) W => V w0 W (fD (vY .i32) b1 (zW q1 q2 q3 q4 q5 q6) • EH q1 q2 q3 q4 q5 q6 • F)) TY ?_ ?_
     ·rintro _ w3 HJ
      dsimp only [List.cons_append, List.nil_append]
      refine bJ O (fun h4 => ?_) (fun h4 => ?_)
      ·(try simp only [Z] at h4)
       try (exfalso; first | contradiction | omega)
       all_goals
        refine aP (bP O (bQ O (aV (jk (hr _ (HJ.right.right)) aB O) (aV (dV O O) (jh O (fun h5 => ?_) (fun h5 => ?_))))))
        ·(try simp only [Z] at h5)
         try (exfalso; first | contradiction | omega)
         all_goals
          refine iE (fU O (fU O (eY O (aF (aT (aF ?_))))))
          refine gY (.inl O) kW O O O ?_
          exact ⟨by unfold kP; rw [if_neg (by omega), if_pos (by omega), if_pos (by omega)]; rfl, HJ.right.right⟩
        ·(try simp only [Z] at h5)
         try (exfalso; first | contradiction | omega)
         all_goals
          refine fZ (bP O (jJ O O (aV (jk (hr _ (HJ.right.right)) aB O) (bQ O (aV (kX O O (by omega)) (aV (Cc O O) (aV (gy O O (by omega)) (fU O (fU O (eY O (aT (aF ?_))))))))))))
          refine gY (.inl O) kW O O O ?_
          exact ⟨by unfold kP; rw [if_neg (by omega), if_pos (by omega), if_neg (by omega)]; rfl, HJ.right.right⟩
      ·(try simp only [Z] at h4)
       try (exfalso; first | contradiction | omega)
       all_goals
        refine iE (aV (dV O O) (gJ O (bJ O (fun h6 => ?_) (fun h6 => ?_))))
        ·(try simp only [Z] at h6)
         try (exfalso; first | contradiction | omega)
         all_goals
          refine iE (fU O (fU O (eY O (aT (aF ?_)))))
          refine gY (.inl O) kW O O O ?_
          exact ⟨by unfold kP; rw [if_neg (by omega), if_neg (by omega), if_pos (by omega)]; rfl, HJ.right.right⟩
        ·(try simp only [Z] at h6)
         try (exfalso; first | contradiction | omega)
         all_goals
          refine iE (aV (dV O O) (gJ O (bJ O (fun h7 => ?_) (fun h7 => ?_))))
          ·(try simp only [Z] at h7)
           try (exfalso; first | contradiction | omega)
           all_goals
            refine bP O (aV (jk (hr _ (HJ.right.right)) aB O) (fU O (fU O (eY O (aT (aF ?_))))))
            refine gY (.inl O) kW O O O ?_
            exact ⟨by unfold kP; rw [if_neg (by omega), if_neg (by omega), if_neg (by omega), if_pos (by omega)]; rfl, HJ.right.right⟩
          ·(try simp only [Z] at h7)
           try (exfalso; first | contradiction | omega)
           all_goals
            refine iE (aV (dV O O) (gJ O (bJ O (fun h8 => ?_) (fun h8 => ?_))))
            ·(try simp only [Z] at h8)
             try (exfalso; first | contradiction | omega)
             all_goals
              refine bP O (aV (kX O O (by omega)) (bQ O (aV (jk (hr _ (HJ.right.right)) aB O) (aV (Cc O O) (fU O (fU O (eY O (aT (aF ?_)))))))))
              refine gY (.inl O) kW O O O ?_
              exact ⟨by unfold kP; rw [if_neg (by omega), if_neg (by omega), if_neg (by omega), if_neg (by omega), if_neg (by omega), if_pos (by omega)]; rfl, HJ.right.right⟩
            ·(try simp only [Z] at h8)
             try (exfalso; first | contradiction | omega)
             all_goals
              refine iE (aV (dV O O) (gJ O (bJ O (fun h9 => ?_) (fun h9 => ?_))))
              ·(try simp only [Z] at h9)
               try (exfalso; first | contradiction | omega)
               all_goals
                refine bP O (dS O func40 (Qj (P := fun r => eF r == 0) HJ (fun W HW => hr _ (HW.right.right)) (fun W r HW => ⟨41, [], [], _, _, O, func41, O, O, Qk HW hT⟩)) ?_)
                rintro _ w4 ⟨rfl, H4⟩
                have hrb := qF (P := fun r => eF r == 0) (l := l) (x := 0) (by omega) (by omega)
                refine gJ O ?_
                refine kM [] (fun (_ : Unit) => [(17, .int .i64 (jV (fun r => eF r == 0) l 0))]) (fun (_ : Unit) W => V w0 W (fD (vY .i32) b1 (zW q1 q2 q3 q4 q5 q6) • EH q1 q2 q3 q4 q5 q6 • F)) (Sub.nil _) ?_ ?_
                ·rintro _ w5 HN
                 dsimp only [List.cons_append, List.nil_append]
                 refine bP O (fU O (fU O (eY O (aT (aF ?_)))))
                 refine gY (.inl O) kW O O O ?_
                 exact ⟨by unfold kP; rw [if_neg (by omega), if_neg (by omega), if_neg (by omega), if_neg (by omega), if_pos (by omega)]; rfl, HN.right.right⟩
                ·skip
                 refine bP O (aV (iL O O) (jh O (fun h10 => ?_) (fun h10 => ?_)))
                 ·(try simp only [Z] at h10)
                  try (exfalso; first | contradiction | omega)
                  all_goals
                   refine aC (bQ O (aV (jk (hr _ (H4.right.right)) aB O) (fU O (bM ?_))))
                   refine dh (()) ?_ ?_ ?_
                   ·exact (Sub.jE O (by congr 1; by_cases hq : jV (fun r => eF r == 0) l 0 < l.length <;> simp_all <;> omega) (Sub.nil _))
                   ·exact (Sub.nil _)
                   ·(try dsimp only)
                    first | done | exact H4.f2.f2
                 ·(try simp only [Z] at h10)
                  try (exfalso; first | contradiction | omega)
                  all_goals
                   refine bY ?_
                   refine dh (()) ?_ ?_ ?_
                   ·exact (Sub.jE O (by congr 1; by_cases hq : jV (fun r => eF r == 0) l 0 < l.length <;> simp_all <;> omega) (Sub.nil _))
                   ·exact (Sub.nil _)
                   ·(try dsimp only)
                    first | done | exact H4.f2.f2
              ·(try simp only [Z] at h9)
               try (exfalso; first | contradiction | omega)
               all_goals
                refine kM [(0, _), (1, _), (2, _), (3, _), (4, _), (40, _)] (fun (_ : Unit) => [(87, .bool (decide (key = 102 ∨ key = 70 ∨ key = 116 ∨ key = 84)))]) (fun (_ : Unit) W => V w0 W (fD (vY .i32) b1 (zW q1 q2 q3 q4 q5 q6) • EH q1 q2 q3 q4 q5 q6 • F)) TY ?_ ?_
                ·rintro _ w6 HK
                 dsimp only [List.cons_append, List.nil_append]
                 refine bJ O (fun h11 => ?_) (fun h11 => ?_)
                 ·(try simp only [Z] at h11)
                  try (exfalso; first | contradiction | omega)
                  all_goals
                   refine bP O (jJ O O (jJ O O (dS O func42 (PK HK (fun W HW => hr _ (HW.right.right)) (by omega) (by omega) (by omega) (by omega)) ?_)))
                   rintro _ w7 ⟨rfl, H7⟩
                   refine rG O O (rG O O (rG O O (fU O (fU O (eY O (aT (aF ?_)))))))
                   refine gY (.inl O) kW O O O ?_
                   exact ⟨by unfold kP; rw [if_neg (by omega), if_neg (by omega), if_neg (by omega), if_neg (by omega), if_neg (by omega), if_neg (by omega), if_pos (by omega)]; rfl, H7.right.right⟩
                 ·(try simp only [Z] at h11)
                  try (exfalso; first | contradiction | omega)
                  all_goals
                   refine iE (aV (dV O O) (gJ O (bJ O (fun h12 => ?_) (fun h12 => ?_))))
                   ·(try simp only [Z] at h12)
                    try (exfalso; first | contradiction | omega)
                    all_goals
                     refine bP O (bQ O (dS O func43 (KZ HK (fun W HW => hr _ (HW.right.right)) (by omega) (by omega)) ?_))
                     rintro _ w8 ⟨rfl, H8⟩
                     refine rG O O (rG O O (rG O O (fU O (fU O (eY O (aT (aF ?_)))))))
                     refine gY (.inl O) kW O O O ?_
                     exact ⟨by unfold kP; rw [if_neg (by omega), if_neg (by omega), if_neg (by omega), if_neg (by omega), if_neg (by omega), if_neg (by omega), if_neg (by omega), if_pos (by omega)]; rfl, H8.right.right⟩
                   ·(try simp only [Z] at h12)
                    try (exfalso; first | contradiction | omega)
                    all_goals
                     refine bY (aJ (aX (iE (fU O (fU O (eY O ?_))))))
                     refine gY (.inl O) kW O O O ?_
                     exact ⟨by unfold kP; rw [if_neg (by omega), if_neg (by omega), if_neg (by omega), if_neg (by omega), if_neg (by omega), if_neg (by omega), if_neg (by omega), if_neg (by omega), Yt hk]; rfl, HK.right.right⟩
                ·skip
                 refine iE (aV (dV O O) (gJ O (bJ O (fun h13 => ?_) (fun h13 => ?_))))
                 ·(try simp only [Z] at h13)
                  try (exfalso; first | contradiction | omega)
                  all_goals
                   refine bY ?_
                   refine dh (()) ?_ ?_ ?_
                   ·exact (Sub.jE O (congrArg Value.bool (decide_eq_decide.2 (by omega))) (Sub.nil _))
                   ·exact TY
                   ·(try dsimp only)
                    first | done | exact HJ.f2.f2
                 ·(try simp only [Z] at h13)
                  try (exfalso; first | contradiction | omega)
                  all_goals
                   refine iE (aV (dV O O) (gJ O (bJ O (fun h14 => ?_) (fun h14 => ?_))))
                   ·(try simp only [Z] at h14)
                    try (exfalso; first | contradiction | omega)
                    all_goals
                     refine bY ?_
                     refine dh (()) ?_ ?_ ?_
                     ·exact (Sub.jE O (congrArg Value.bool (decide_eq_decide.2 (by omega))) (Sub.nil _))
                     ·exact TY
                     ·(try dsimp only)
                      first | done | exact HJ.f2.f2
                   ·(try simp only [Z] at h14)
                    try (exfalso; first | contradiction | omega)
                    all_goals
                     refine iE (aV (dV O O) (gJ O (bJ O (fun h15 => ?_) (fun h15 => ?_))))
                     ·(try simp only [Z] at h15)
                      try (exfalso; first | contradiction | omega)
                      all_goals
                       refine bY ?_
                       refine dh (()) ?_ ?_ ?_
                       ·exact (Sub.jE O (congrArg Value.bool (decide_eq_decide.2 (by omega))) (Sub.nil _))
                       ·exact TY
                       ·(try dsimp only)
                        first | done | exact HJ.f2.f2
                     ·(try simp only [Z] at h15)
                      try (exfalso; first | contradiction | omega)
                      all_goals
                       refine aC (aV (dV O O) (fU O (bM ?_)))
                       refine dh (()) ?_ ?_ ?_
                       ·exact (Sub.jE O (congrArg Value.bool (decide_eq_decide.2 (by omega))) (Sub.nil _))
                       ·exact TY
                       ·(try dsimp only)
                        first | done | exact HJ.f2.f2
     ·skip
      refine iE (aV (dV O O) (gJ O (bJ O (fun h16 => ?_) (fun h16 => ?_))))
      ·(try simp only [Z] at h16)
       try (exfalso; first | contradiction | omega)
       all_goals
        refine bY ?_
        refine dh (()) ?_ ?_ ?_
        ·exact (Sub.jE O (congrArg Value.bool (decide_eq_decide.2 (by omega))) (Sub.nil _))
        ·exact TY
        ·(try dsimp only)
         first | done | exact H1.f2.f2
      ·(try simp only [Z] at h16)
       try (exfalso; first | contradiction | omega)
       all_goals
        refine aC (aV (dV O O) (fU O (bM ?_)))
        refine dh (()) ?_ ?_ ?_
        ·exact (Sub.jE O (congrArg Value.bool (decide_eq_decide.2 (by omega))) (Sub.nil _))
        ·exact TY
        ·(try dsimp only)
         first | done | exact H1.f2.f2
end
def Ql : ByteArray := ⟨#[102, 70, 116, 84]⟩
def qx (n : ByteArray) : ByteArray :=
  if n.toList = yS.toList then ⟨#[100, 68]⟩ else if n.toList = BI.toList then ⟨#[99, 67]⟩ else if n.toList = D9.toList then ⟨#[121, 89]⟩ else if n.toList = Vx.toList then ⟨#[120, 88]⟩ else
  if n.toList = VB.toList then ⟨#[115, 83]⟩ else if n.toList = VA.toList then ⟨#[112, 80]⟩ else if n.toList = Vy.toList then ⟨#[105, 97, 73, 65]⟩ else if n.toList = VD.toList then ⟨#[117, 85]⟩ else ⟨#[]⟩
namespace VM
variable (M : VM)
def tgt (l : List Int) (p : Int) (keys : List Int) (n : Int) : Int × Bool × Bool :=
  if keys.length = 0 then (0, false, false)
  else if keys.getD 0 0 = 96 then (M.at (if 1 < keys.length then keys.getD 1 0 else 0), false, decide (0 ≤ M.at (if 1 < keys.length then keys.getD 1 0 else 0) ∧ M.at (if 1 < keys.length then keys.getD 1 0 else 0) ≤ l.length))
  else if keys.getD 0 0 = 59 ∨ keys.getD 0 0 = 44 then (if M.fk = 0 then (0, false, false) else uU l p (if keys.getD 0 0 = 44 then bits .xor .i32 M.fk 32 else M.fk) M.fc n)
  else uU l p (keys.getD 0 0) (if 1 < keys.length then keys.getD 1 0 else 0) n
def sought (l : List Int) (p : Int) (keys : List Int) (n : Int) : VM :=
  if keys.length = 0 then M else if keys.getD 0 0 = 96 then M else if keys.getD 0 0 = 59 ∨ keys.getD 0 0 = 44 then M
  else if (uU l p (keys.getD 0 0) (if 1 < keys.length then keys.getD 1 0 else 0) n).2.2 = true ∧ keys.getD 0 0 ∈ D6 Ql then { M with fk := keys.getD 0 0, fc := if 1 < keys.length then keys.getD 1 0 else 0 } else M
end VM
section
variable {w0 w : World} {F : HP} {c m e : Nat} {s : dF} {name : ByteArray} {kv lv qv : Value} {keys l ks : List Int} {n p x q : Int} {g : Bool} {M M' : VM}
theorem NY : gI prog 160 #[.string name] w fun v w' => v = .string (qx name) ∧ w = w' := by
 refine gG func160 ntmps160 ?_
 refine jg O (aP (bP O (iJ (aY (iE (aV (fO O O) (gJ O (bJ O (fun h1 => ?_) (fun h1 => ?_)))))))))
 ·(try simp only [Z] at h1)
  refine jC O (aT (aF (dG mQ O ?_)))
  refine ⟨congrArg Value.string ?_, O⟩
  unfold qx
  repeat (first | (rw [if_pos (by assumption)]; done) | rw [if_neg (by assumption)])
 ·(try simp only [Z] at h1)
  refine iE (aV (fO O O) (gJ O (bJ O (fun h2 => ?_) (fun h2 => ?_))))
  ·(try simp only [Z] at h2)
   refine jC O (aT (aF (dG mQ O ?_)))
   refine ⟨congrArg Value.string ?_, O⟩
   unfold qx
   repeat (first | (rw [if_pos (by assumption)]; done) | rw [if_neg (by assumption)])
  ·(try simp only [Z] at h2)
   refine iE (aV (fO O O) (gJ O (bJ O (fun h3 => ?_) (fun h3 => ?_))))
   ·(try simp only [Z] at h3)
    refine jC O (aT (aF (dG mQ O ?_)))
    refine ⟨congrArg Value.string ?_, O⟩
    unfold qx
    repeat (first | (rw [if_pos (by assumption)]; done) | rw [if_neg (by assumption)])
   ·(try simp only [Z] at h3)
    refine iE (aV (fO O O) (gJ O (bJ O (fun h4 => ?_) (fun h4 => ?_))))
    ·(try simp only [Z] at h4)
     refine jC O (aT (aF (dG mQ O ?_)))
     refine ⟨congrArg Value.string ?_, O⟩
     unfold qx
     repeat (first | (rw [if_pos (by assumption)]; done) | rw [if_neg (by assumption)])
    ·(try simp only [Z] at h4)
     refine iE (aV (fO O O) (gJ O (bJ O (fun h5 => ?_) (fun h5 => ?_))))
     ·(try simp only [Z] at h5)
      refine jC O (aT (aF (dG mQ O ?_)))
      refine ⟨congrArg Value.string ?_, O⟩
      unfold qx
      repeat (first | (rw [if_pos (by assumption)]; done) | rw [if_neg (by assumption)])
     ·(try simp only [Z] at h5)
      refine iE (aV (fO O O) (gJ O (bJ O (fun h6 => ?_) (fun h6 => ?_))))
      ·(try simp only [Z] at h6)
       refine jC O (aT (aF (dG mQ O ?_)))
       refine ⟨congrArg Value.string ?_, O⟩
       unfold qx
       repeat (first | (rw [if_pos (by assumption)]; done) | rw [if_neg (by assumption)])
      ·(try simp only [Z] at h6)
       refine iE (aV (fO O O) (gJ O (bJ O (fun h7 => ?_) (fun h7 => ?_))))
       ·(try simp only [Z] at h7)
        refine jC O (aT (aF (dG mQ O ?_)))
        refine ⟨congrArg Value.string ?_, O⟩
        unfold qx
        repeat (first | (rw [if_pos (by assumption)]; done) | rw [if_neg (by assumption)])
       ·(try simp only [Z] at h7)
        refine iE (aV (fO O O) (gJ O (bJ O (fun h8 => ?_) (fun h8 => ?_))))
        ·(try simp only [Z] at h8)
         refine jC O (aT (aF (dG mQ O ?_)))
         refine ⟨congrArg Value.string ?_, O⟩
         unfold qx
         repeat (first | (rw [if_pos (by assumption)]; done) | rw [if_neg (by assumption)])
        ·(try simp only [Z] at h8)
         refine bY (aJ (aX (jC O (dG mQ O ?_))))
         refine ⟨congrArg Value.string ?_, O⟩
         unfold qx
         repeat (first | (rw [if_pos (by assumption)]; done) | rw [if_neg (by assumption)])
theorem acw (h : keys.length = 0) : M.tgt l p keys n = (0, false, false) ∧ M.sought l p keys n = M := ⟨if_pos h, if_pos h⟩
theorem Zr (h : ¬ keys.length = 0) (h1 : keys.getD 0 0 = 96) : M.tgt l p keys n = (M.at (if 1 < keys.length then keys.getD 1 0 else 0), false, decide (0 ≤ M.at (if 1 < keys.length then keys.getD 1 0 else 0) ∧ M.at (if 1 < keys.length then keys.getD 1 0 else 0) ≤ l.length)) ∧ M.sought l p keys n = M := by
  unfold VM.tgt VM.sought; rw [if_neg h, if_neg h, if_pos h1, if_pos h1]; exact ⟨rfl, rfl⟩
theorem acx (h : ¬ keys.length = 0) (h1 : ¬ keys.getD 0 0 = 96) (h2 : keys.getD 0 0 = 59 ∨ keys.getD 0 0 = 44) : M.tgt l p keys n = (if M.fk = 0 then (0, false, false) else uU l p (if keys.getD 0 0 = 44 then bits .xor .i32 M.fk 32 else M.fk) M.fc n) ∧ M.sought l p keys n = M := by
  unfold VM.tgt VM.sought; rw [if_neg h, if_neg h, if_neg h1, if_neg h1, if_pos h2, if_pos h2]; exact ⟨rfl, rfl⟩
theorem acy (h : ¬ keys.length = 0) (h1 : ¬ keys.getD 0 0 = 96) (h2 : ¬ (keys.getD 0 0 = 59 ∨ keys.getD 0 0 = 44)) : M.tgt l p keys n = uU l p (keys.getD 0 0) (if 1 < keys.length then keys.getD 1 0 else 0) n ∧ M.sought l p keys n = (if (uU l p (keys.getD 0 0) (if 1 < keys.length then keys.getD 1 0 else 0) n).2.2 = true ∧ keys.getD 0 0 ∈ D6 Ql then { M with fk := keys.getD 0 0, fc := (if 1 < keys.length then keys.getD 1 0 else 0) } else M) := by
  unfold VM.tgt VM.sought; rw [if_neg h, if_neg h, if_neg h1, if_neg h1, if_neg h2, if_neg h2]; exact ⟨rfl, rfl⟩
theorem WA (H : V w0 w (VC c m e name kv q g lv p • kQ 21 .i32 lv l • oL m M • F)) (hr : jZ w0 F .i32 qv keys) (hT : yG w0) (Xi : l.length ≤ 4611686018427387904) (hn : n ≤ 9223372036854775807) :
  gI prog 162 #[.pointer (some ⟨c, 0, none⟩), qv, .int .i64 n] w fun v w' => v = SQ (M.tgt l p keys n) ∧ V w0 w' (VC c m e name kv q g lv p • kQ 21 .i32 lv l • oL m (M.sought l p keys n) • F) := by
 refine FM func162 ntmps162 ?_
 refine iE (fU O (fU O (vk O (bP O (aV (jk (hr _ (H.right.right.right)) aB O) (aV (dV O O) (jh O (fun h1 => ?_) (fun h1 => ?_))))))))
 ·(try simp only [Z] at h1)
  refine iE (fU O (fU O (eY O (aF ?_))))
  refine gY (.inl O) results162 O O O ?_
  obtain ⟨h8, h9⟩ := acw (M := M) (l := l) (p := p) (n := n) (keys := keys) (by omega)
  exact ⟨by rw [h8]; rfl, by rw [h9]; exact H.f3.f3.f3⟩
 ·(try simp only [Z] at h1)
  refine fZ (aP ?_)
  have hk0 : ¬ keys.length = 0 := by omega
  refine aC (bQ O ?_)
  obtain ⟨bqv, oqv, cqv, eqv⟩ := fP.pW (hr _ (H.right.right.right)) (by omega)
  cases eqv
  refine aV (dI aB bT O O (by omega)) ?_
  refine aV (fA (dn bg O) O (by first | exact fP.lW (hr _ (H.right.right.right)) (by omega) | exact fP.wK (hr _ (H.right.right.right)) (by omega) | exact fP.wH (hr _ (H.right.right.right)) (by omega))) ?_
  refine fU O (gJ O ?_)
  refine kM [(0, _), (2, _), (9, _)] (fun (_ : Unit) => [(10, .int .i32 (if 1 < keys.length then keys.getD 1 0 else 0))]) (fun (_ : Unit) W => V w0 W (VC c m e name kv q g lv p • kQ 21 .i32 lv l • oL m M • F)) uM ?_ ?_
  ·rintro _ w1 HJ
   dsimp only [List.cons_append, List.nil_append]
   refine aP (bP O (iJ (aY (iE (aV (dV O O) (gJ O (bJ O (fun h2 => ?_) (fun h2 => ?_))))))))
   ·(try simp only [Z] at h2)
    have hk1 : keys.getD 0 0 = 96 := h2
    refine bP O (dJ O (bD 0 dw O sizeOf41 O (fG lG O (HJ).get.2 O (bQ O (dS O func183 (Nq HJ.f3) ?_)))))
    rintro _ w2 ⟨rfl, H2⟩
    refine vk O ?_
    have Yu := H2.drew
    have nP := V.kp (Yu.f3.f3.f3)
    refine yC [8] nP O (jG 0 O nP O (jG 1 O nP O (jB 2 O nP (fun _ => lK O O) ?_)))
    refine FH 3 O O (by kernel_rfl) (by kernel_rfl) nP (lX O) (fun h3 => ?_) (fun h3 => ?_)
    ·(try simp only [Z] at h3)
     refine jv 4 O O O (by kernel_rfl) (by kernel_rfl) nP (fun _ => Bl O) (lX O) ?_
     refine jv 5 O O O (by kernel_rfl) (by kernel_rfl) nP (fun _ => Bl O) (lX O) ?_
     refine jv 6 O O O (by kernel_rfl) (by kernel_rfl) nP (fun _ => Lu O) (lX O) ?_
     refine jv 7 O O O (by kernel_rfl) (by kernel_rfl) nP (fun _ => Ce 6 dw O O dH (by decide) O rfl) (lX O) ?_
     refine zy 8 O O O (by kernel_rfl) (by kernel_rfl) nP (by decide) (fun W hW => fA (dn aB O) O (je ((Kp.h hW).f2).get.2 O)) (lX O) ?_
     refine jv 9 O O O (by kernel_rfl) (by kernel_rfl) nP (fun _ => jk ((Yu.f3).aS) aB O) (lX O) ?_
     refine jv 10 O O O (by kernel_rfl) (by kernel_rfl) nP (fun _ => pI O O) (lX O) ?_
     refine jB 11 O nP (fun _ => BZ O O) (jB 12 O nP (fun _ => dN O) (jB 13 O nP (fun _ => dN O) (jB 14 O nP (fun _ => dN O) (qR (aX (mD (aT (aF ?_))))))))
     refine gY (.inl O) results162 O O O ?_
     obtain ⟨e1, e2⟩ := Zr (M := M) (l := l) (p := p) (n := n) hk0 hk1
     refine ⟨?_, by rw [e2]; exact Yu.f3.f3⟩
     rw [e1]
     refine congrArg (fun b => Value.tuple #[.int .i64 (M.at (if 1 < keys.length then keys.getD 1 0 else 0)), .bool false, .bool b]) ?_
     first | exact decide_eq_decide.2 (by omega) | exact (decide_eq_false (by omega)).symm
    ·(try simp only [Z] at h3)
     refine vS 4 O O O O (by kernel_rfl) (by kernel_rfl) nP (lX O) ?_
     refine vS 5 O O O O (by kernel_rfl) (by kernel_rfl) nP (lX O) ?_
     refine vS 6 O O O O (by kernel_rfl) (by kernel_rfl) nP (lX O) ?_
     refine vS 7 O O O O (by kernel_rfl) (by kernel_rfl) nP (lX O) ?_
     refine vS 8 O O O O (by kernel_rfl) (by kernel_rfl) nP (lX O) ?_
     refine vS 9 O O O O (by kernel_rfl) (by kernel_rfl) nP (lX O) ?_
     refine vS 10 O O O O (by kernel_rfl) (by kernel_rfl) nP (lX O) ?_
     refine jB 11 O nP (fun _ => Cb O O) (jB 12 O nP (fun _ => dN O) (jB 13 O nP (fun _ => dN O) (jB 14 O nP (fun _ => dN O) (qR (aX (mD (aT (aF ?_))))))))
     refine gY (.inl O) results162 O O O ?_
     obtain ⟨e1, e2⟩ := Zr (M := M) (l := l) (p := p) (n := n) hk0 hk1
     refine ⟨?_, by rw [e2]; exact Yu.f3.f3⟩
     rw [e1]
     refine congrArg (fun b => Value.tuple #[.int .i64 (M.at (if 1 < keys.length then keys.getD 1 0 else 0)), .bool false, .bool b]) ?_
     first | exact decide_eq_decide.2 (by omega) | exact (decide_eq_false (by omega)).symm
   ·(try simp only [Z] at h2)
    have hk1 : ¬ keys.getD 0 0 = 96 := h2
    refine kM [(0, _), (2, _), (9, _), (10, _)] (fun (_ : Unit) => [(49, .bool (decide (keys.getD 0 0 = 59 ∨ keys.getD 0 0 = 44)))]) (fun (_ : Unit) W => V w0 W (VC c m e name kv q g lv p • kQ 21 .i32 lv l • oL m M • F)) J3 ?_ ?_
    ·rintro _ w3 HK
     dsimp only [List.cons_append, List.nil_append]
     refine bJ O (fun h4 => ?_) (fun h4 => ?_)
     ·(try simp only [Z] at h4)
      refine aP ?_
      obtain ⟨Nk, Nl, Np, wz, wO⟩ := (HK.f3).vm
      have hk2 : keys.getD 0 0 = 59 ∨ keys.getD 0 0 = 44 := by omega
      obtain ⟨e1, e2⟩ := acx (M := M) (l := l) (p := p) (n := n) hk0 hk1 hk2
      refine aC (nD O O (bD 0 dw O sizeOf41 O (fG lG O (wO.f5).get.2 O (dJ O (bD 1 fC O sizeOf115 O (aV (nS 1 (xs := [_, _]) lS O sizeOf115 O O (wO).get.2 O) ?_))))))
      have XT := wO.f4.f4.f4.f4
      have XU := V.Bc (M := M) wz XT
      refine jr (fH (l := [_, _]) XU zeroValue115 O) ?_
      rintro _ w8 ⟨b8, rfl, H8⟩
      refine aH (bU 0 (l' := [_, _]) (us := [_, _]) H8 sizeOf115 O O O (ay (ay bF)) O O) ?_
      rintro _ w9 H9
      refine pJ (iE (bD 0 lS O bT O (fG bg O (H9).get.2 O (aV (dV O O) (jh O (fun h5 => ?_) (fun h5 => ?_))))))
      ·(try simp only [Z] at h5)
       have hf0 : M.fk = 0 := h5
       refine iE (fU O (fU O (eY O (aF (aT (aF ?_))))))
       refine gY (.inl O) results162 O O O ?_
       exact ⟨by rw [e1, if_pos hf0]; rfl, by rw [e2]; exact H9.right.f3.f3⟩
      ·(try simp only [Z] at h5)
       have hf0 : ¬ M.fk = 0 := h5
       refine fZ ?_
       refine kM [(0, _), (2, _), (12, _)] (fun (_ : Unit) => []) (fun (_ : Unit) W => V w0 W (dK b8 (.cells #[.int .i32 (if keys.getD 0 0 = 44 then bits .xor .i32 M.fk 32 else M.fk), .int .i32 M.fc] 115 (0, 0)) • VC c m e name kv q g lv p • kQ 21 .i32 lv l • oL m M • F)) uM ?_ ?_
       ·rintro _ w10 HN
        dsimp only [List.cons_append, List.nil_append]
        refine aP ?_
        have WB := HN.drew
        have lU := V.kp (WB.f4.f4.f4.f4)
        refine yC [3, 7, 9, 11, 16] lU O (jG 0 O lU O (kD 1 O lU O (gV 2 O lU 6 dw O dH O (jS 3 O lU (fun W hW => jX aB O ((Kp.h hW).f2).get.2 O) (jG 4 O lU O (kD 5 O lU O (gV 6 O lU 7 dw O aj O (jS 7 O lU (fun W hW => jX aK O ((Kp.h hW).f2).get.2 O) (gV 8 O lU 0 lS O bT O (jS 9 O lU (fun W hW => jX bg O ((Kp.h hW)).get.2 O) (gV 10 O lU 1 lS O bT O (jS 11 O lU (fun W hW => jX bg O ((Kp.h hW)).get.2 O) (jG 12 O lU O (jG 13 O lU O (kD 14 O lU O (gV 15 O lU 5 dw O aO O (jS 16 O lU (fun W hW => jX bK O ((Kp.h hW).f2).get.2 O) (og 17 O (yF O func11 (zX WB (fun W HW => (HW.f3).aS) hT (by omega) (by omega))) ?_))))))))))))))))))
        rintro _ DU ⟨rfl, qo⟩
        have y7 := V.kp (qo.f4.f4.f4.f4)
        refine gW y7 (by kernel_rfl) ?_
        refine jB 18 O y7 (fun _ => mG O O) (jB 19 O y7 (fun _ => mG O O) (jB 20 O y7 (fun _ => mG O O) (jB 21 O y7 (fun _ => dN O) (jB 22 O y7 (fun _ => dN O) (jB 23 O y7 (fun _ => dN O) (qR (aX (mD (aT (aF ?_))))))))))
        refine gY (.inl O) results162 O O O ?_
        exact ⟨by rw [e1, if_neg hf0]; rfl, by rw [e2]; exact qo.right.f3.f3.f3⟩
       ·skip
        refine bP O (aV (dV O O) (jh O (fun h6 => ?_) (fun h6 => ?_)))
        ·(try simp only [Z] at h6)
         refine aC (bD 0 lS O bT O (fG bg O (H9).get.2 O ?_))
         refine aV (X3 .xor O O (by simp)) ?_
         refine bD 0 lS O bT O (aH (st2 0 H9 bT) ?_)
         rintro _ w12 um
         refine bM ?_
         refine dh (()) ?_ ?_ ?_
         ·exact (Sub.nil _)
         ·exact uM
         ·(try dsimp only)
          first | done | exact (by first | (rw [if_pos (by assumption)]; exact um.f2.f4.f4.f4) | (rw [if_neg (by assumption)]; exact um.f2.f4.f4.f4))
        ·(try simp only [Z] at h6)
         refine bY ?_
         refine dh (()) ?_ ?_ ?_
         ·exact (Sub.nil _)
         ·exact uM
         ·(try dsimp only)
          first | done | exact (by first | (rw [if_pos (by assumption)]; exact H9.f2.f4.f4.f4) | (rw [if_neg (by assumption)]; exact H9.f2.f4.f4.f4))
     ·(try simp only [Z] at h4)
      refine bY (aJ (aX (aP ?_)))
      have hk2 : ¬ (keys.getD 0 0 = 59 ∨ keys.getD 0 0 = 44) := by omega
      obtain ⟨e1, e2⟩ := acy (M := M) (l := l) (p := p) (n := n) hk0 hk1 hk2
      have WE := HK.drew
      have nH := V.kp (WE.f3.f3.f3)
      refine yC [3, 7, 14] nH O (jG 0 O nH O (kD 1 O nH O (gV 2 O nH 6 dw O dH O (jS 3 O nH (fun W hW => jX aB O ((Kp.h hW)).get.2 O) (jG 4 O nH O (kD 5 O nH O (gV 6 O nH 7 dw O aj O (jS 7 O nH (fun W hW => jX aK O ((Kp.h hW)).get.2 O) (jG 8 O nH O (jG 9 O nH O (jG 10 O nH O (jG 11 O nH O (kD 12 O nH O (gV 13 O nH 5 dw O aO O (jS 14 O nH (fun W hW => jX bK O ((Kp.h hW)).get.2 O) (og 15 O (yF O func11 (zX WE (fun W HW => (HW.f2).aS) hT (by omega) (by omega))) ?_))))))))))))))))
      rintro _ Oz ⟨rfl, uS⟩
      have uG := V.kp (uS.f3.f3.f3)
      refine gW uG (by kernel_rfl) ?_
      refine jG 16 O uG O (jB 17 O uG (fun _ => mG O O) (jB 18 O uG (fun _ => mG O O) (jB 19 O uG (fun _ => mG O O) (jB 20 O uG (fun _ => dN O) (jB 21 O uG (fun _ => dN O) (jB 22 O uG (fun _ => dN O) (qR (aX (aP (bP O (jP O (fun h7 => ?_) (fun h7 => ?_))))))))))))
      ·(try simp only [Z] at h7)
       refine bC (bQ O (bC (dS O func50 (Df (s := Ql) (by decide)) ?_)))
       rintro _ _ ⟨rfl, rfl⟩
       refine jF O O (jh O (fun h8 => ?_) (fun h8 => ?_))
       ·(try simp only [Z] at h8)
        obtain ⟨Nk, Nl, Np, wz, wO⟩ := (uS.f3).vm
        refine aC (nD O O (bD 0 dw O sizeOf41 O (fG lG O (wO.f5).get.2 O (jJ O O ?_))))
        refine aV (dP (zl := [.int .i32 0, .int .i32 0]) (pl := [(0, 1), (1, 1)]) [_, _] lS zeroValue115 O (fun w => by kernel_rfl) O (.on (.on .nil)) O) ?_
        refine dJ O (bD 1 fC O sizeOf115 O (aH (bU 1 (l' := [_, _, _, _, _, _, _, _]) (us := [_, _]) wO sizeOf115 O O O (ay (ay bF)) O O) ?_))
        rintro _ w16 yH
        have Px := yH.f4.f4.f4.f4
        have Py := V.Bc (M := { M with fk := keys.getD 0 0, fc := (if 1 < keys.length then keys.getD 1 0 else 0) }) wz Px
        refine qH O (jJ O O (fU O (fU O (eY O ?_))))
        refine gY (.inl O) results162 O O O ?_
        refine ⟨by rw [e1]; rfl, ?_⟩
        rw [e2]
        first | (rw [if_pos ⟨by assumption, by assumption⟩]; exact Py.f3.f3) | (rw [if_neg (fun hc => absurd hc.2 (by assumption))]; exact Py.f3.f3) | (rw [if_neg (fun hc => absurd hc.1 (by simp only [*]; decide))]; exact Py.f3.f3)
       ·(try simp only [Z] at h8)
        refine fZ (bP O (jJ O O (fU O (fU O (eY O ?_)))))
        refine gY (.inl O) results162 O O O ?_
        refine ⟨by rw [e1]; rfl, ?_⟩
        rw [e2]
        first | (rw [if_pos ⟨by assumption, by assumption⟩]; exact uS.f3.f3.f3) | (rw [if_neg (fun hc => absurd hc.2 (by assumption))]; exact uS.f3.f3.f3) | (rw [if_neg (fun hc => absurd hc.1 (by simp only [*]; decide))]; exact uS.f3.f3.f3)
      ·(try simp only [Z] at h7)
       refine bI (bI (iM O O (iJ (qy (fZ (bP O (jJ O O (fU O (fU O (eY O ?_))))))))))
       refine gY (.inl O) results162 O O O ?_
       refine ⟨by rw [e1]; rfl, ?_⟩
       rw [e2]
       first | (rw [if_pos ⟨by assumption, by assumption⟩]; exact uS.f3.f3.f3) | (rw [if_neg (fun hc => absurd hc.2 (by assumption))]; exact uS.f3.f3.f3) | (rw [if_neg (fun hc => absurd hc.1 (by simp only [*]; decide))]; exact uS.f3.f3.f3)
    ·skip
     refine iE (aV (dV O O) (gJ O (bJ O (fun h9 => ?_) (fun h9 => ?_))))
     ·(try simp only [Z] at h9)
      refine bY ?_
      refine dh (()) ?_ ?_ ?_
      ·exact (Sub.jE O (congrArg Value.bool (decide_eq_decide.2 (by omega))) (Sub.nil _))
      ·exact J3
      ·(try dsimp only)
       first | done | exact HJ.f3.f3.f3
     ·(try simp only [Z] at h9)
      refine aC (aV (dV O O) (fU O (bM ?_)))
      refine dh (()) ?_ ?_ ?_
      ·exact (Sub.jE O (congrArg Value.bool (decide_eq_decide.2 (by omega))) (Sub.nil _))
      ·exact J3
      ·(try dsimp only)
       first | done | exact HJ.f3.f3.f3
  ·skip
   refine bP O (aV (ny aB O) (aV (iV O O) (jh O (fun h10 => ?_) (fun h10 => ?_))))
   ·(try simp only [Z] at h10)
    refine aC (bQ O (aV (dI aB bT O O (by omega)) ?_))
    refine aV (fA (dn bg O) O (by first | exact fP.lW (hr _ (H.right.right.right)) (by omega) | exact fP.wK (hr _ (H.right.right.right)) (by omega) | exact fP.wH (hr _ (H.right.right.right)) (by omega))) ?_
    refine fU O (bM ?_)
    refine dh (()) ?_ ?_ ?_
    ·exact (Sub.jE O (by first | (rw [if_pos (by omega)]; rfl) | rw [if_neg (by omega)]) (Sub.nil _))
    ·exact uM
    ·(try dsimp only)
     first | done | exact H.f3.f3.f3
   ·(try simp only [Z] at h10)
    refine bY ?_
    refine dh (()) ?_ ?_ ?_
    ·exact (Sub.jE O (by first | (rw [if_pos (by omega)]; rfl) | rw [if_neg (by omega)]) (Sub.nil _))
    ·exact uM
    ·(try dsimp only)
     first | done | exact H.f3.f3.f3
end
theorem Bh {a b : ByteArray} (h : a.data.toList ≠ b.data.toList) : ¬ a.toList = b.toList := by rw [ByteArray.toList_eq, ByteArray.toList_eq]; exact h
theorem Qm : qx rC = ⟨#[]⟩ := by
  unfold qx
  rw [if_neg (Bh (by decide)), if_neg (Bh (by decide)), if_neg (Bh (by decide)), if_neg (Bh (by decide)), if_neg (Bh (by decide)), if_neg (Bh (by decide)), if_neg (Bh (by decide)), if_neg (Bh (by decide))]
theorem Yv {w0 w : World} {F : HP} {e : Nat} {s : dF} (H : V w0 w (gB e s • F)) : s.c.L.length ≤ 1024 ∧ (0 ≤ s.c.pt ∧ s.c.pt ≤ s.c.L.length) := by
  obtain ⟨pb, pr, pw, pt, pm, ph, bl, pv, es, u0, u1, u2, u3, u4, u5, u6, u7, u8, u9, ua, h, _, _, H2⟩ := H.Gp
  obtain ⟨a, c, xs, f, t, h1, h2, h3, h4, h5, h6, h7, _⟩ := H2.f2.buf
  exact ⟨h4, h6⟩
namespace dF
variable (s : dF)
def WG (M : VM) (keys : List Int) (n : Int) : Int := if (M.tgt s.c.L s.c.pt keys n).2.2 = true then s.Js (M.tgt s.c.L s.c.pt keys n).1 else 6
def WH (M : VM) (keys : List Int) (n : Int) : dF := if (M.tgt s.c.L s.c.pt keys n).2.2 = true then s.Eu (M.tgt s.c.L s.c.pt keys n).1 else s
end dF
section
variable {w0 : World} {s : dF} {keys : List Int} {n : Int} {g : Bool} {M : VM}
theorem TF (hT : yG w0) (hn : n ≤ 9223372036854775807) : aaH w0 rC keys n g s M fun x t M' => x = s.WG M keys n ∧ t = s.WH M keys n ∧ M' = M.sought s.c.L s.c.pt keys n := by
 intro F w c m e kv lv H hk
 have hln := (Yv H.f4).1
 refine gG func124 ntmps124 ?_
 refine jg O (aP (bP O (dJ O (bD 2 dw O lN O (fG iW O (H).get.2 O (dS O func160 (NY) ?_))))))
 rintro _ _ ⟨rfl, rfl⟩
 refine gJ O (bP O (aV (DI O O) (jP O (fun h => by exfalso; (try simp only [Z] at h); exact h (by rw [Qm])) (fun h1 => ?_))))
 (try simp only [Z] at h1)
 refine bI (bI (bI (bI (bI (bI (bI (bI (bI (iM O O (iJ (qy (fZ (aP (bP O (dJ O (bD 2 dw O lN O (fG iW O (H).get.2 O (iJ (aY (iE (aV (fO O O) (gJ O (bJ O (fun h => by exfalso; (try simp only [Z] at h); exact absurd h (Bh (by decide))) (fun h2 => ?_))))))))))))))))))))))))
 (try simp only [Z] at h2)
 refine iE (aV (fO O O) (gJ O (bJ O (fun h3 => ?_) (fun h => by exfalso; (try simp only [Z] at h); exact h O))))
 (try simp only [Z] at h3)
 refine aP ?_
 have acz := H.drew
 have Bj := V.kp (acz.f4.f4.f4.f4)
 refine yC [4, 8] Bj O (jG 0 O Bj O (jG 1 O Bj O (kD 2 O Bj O (gV 3 O Bj 3 dw O dH O (jS 4 O Bj (fun W hW => jX aB O ((Kp.h hW)).get.2 O) (jG 5 O Bj O (kD 6 O Bj O (gV 7 O Bj 4 dw O aj O (jS 8 O Bj (fun W hW => jX aK O ((Kp.h hW)).get.2 O) (og 9 O (yF O func162 (WA acz.f3.f3.f3 (fun W HW => hk _ (HW.right)) hT (by omega) (by omega))) ?_))))))))))
 rintro _ w2 ⟨rfl, H2⟩
 have xw := V.kp (H2.f4.f4.f4.f4)
 refine gW xw (by kernel_rfl) ?_
 refine jG 10 O xw O (jB 11 O xw (fun _ => mG O O) (jB 12 O xw (fun _ => mG O O) (jB 13 O xw (fun _ => mG O O) (jB 14 O xw (fun _ => dN O) (jB 15 O xw (fun _ => dN O) (jB 16 O xw (fun _ => dN O) (qR (aX (aP (bP O (aV (lY O) (jh O (fun h4 => ?_) (fun h4 => ?_)))))))))))))
 ·(try simp only [Z] at h4)
  have hok : ¬ (M.tgt s.c.L s.c.pt keys n).2.2 = true := by have h9 := h4; simpa using h9
  refine jC O (aF (aT (aF (dG results124 O ?_))))
  exact ⟨_, _, _, ⟨by unfold dF.WG; rw [if_neg hok], by unfold dF.WH; rw [if_neg hok], O⟩, O, H2.f4.f4.f4.f4⟩
 ·(try simp only [Z] at h4)
  have hok : (M.tgt s.c.L s.c.pt keys n).2.2 = true := by have h9 := h4; simpa using h9
  refine fZ (bP O (dJ O (bD 1 dw O sizeOf37 O (fG iU O (H2).get.2 O (bQ O (dS O func30 (EC H2.f4) ?_))))))
  rintro _ w3 ⟨rfl, H3⟩
  refine eY O (aT (aF (dG results124 O ?_)))
  exact ⟨_, _, _, ⟨by unfold dF.WG; rw [if_pos hok], by unfold dF.WH; rw [if_pos hok], O⟩, O, H3.f4.f4.f4⟩
end
end Go.Proofs.YtpdeedplgmbopaaGreatDoor
end
section
namespace Go.Proofs.YtpdeedplgmbopaaGreatDoor
open Go.RowKit
def uh (sz : Nat) (v : Value) (n : Nat) (xs : List Value) : HP := know (fun I => Aw I sz v n xs) fun _ _ hl h => h.mono hl
abbrev LE := Int × Value × List (Value × List dQ)
def zY (gs : List (Value × List dQ)) : List (List iR) := gs.map fun g => g.2.map dQ.says
def EU (A : List LE) (k : Int) : List (List iR) := ((A.find? fun x => x.1 == k).map fun x => zY x.2.2).getD []
def yB (A : List LE) (k : Int) (u : Value) (gs : List (Value × List dQ)) : List LE := A.filter (fun x => x.1 != k) ++ [(k, u, gs)]
def Zt (I : Hp) (v : Value) (gs : List (Value × List dQ)) : Prop := Aw I 1 v gs.length (gs.map (·.1)) ∧ Bo I gs
theorem Zt.mono {I I' : Hp} {v : Value} {gs : List (Value × List dQ)} (hl : Hp.le I I') (h : Zt I v gs) : Zt I' v gs := ⟨h.1.mono hl, h.2.mono hl⟩
def glK (v : Value) (gs : List (Value × List dQ)) : HP := uh 1 v gs.length (gs.map (·.1)) • nJ gs
def Yw (I : Hp) (A : List LE) : Prop := ∀ k, k < A.length → Zt I (A.getD k default).2.1 (A.getD k default).2.2
def pU (A : List LE) : HP := know (fun I => Yw I A) fun _ _ hl h k hk => (h k hk).mono hl
def lsK (pv gv : Value) (A : List LE) : HP := mO .i64 pv (A.map (·.1)) • uh 1 gv A.length (A.map (·.2.1)) • pU A
theorem Yx (A : List LE) (k : Int) (u : Value) (gs : List (Value × List dQ)) : EU (yB A k u gs) = wL (EU A) k (zY gs) := by
  funext j
  unfold EU yB wL
  rw [List.find?_append]
  by_cases hj : j = k
  · subst hj
    rw [if_pos rfl, List.find?_eq_none.2 (by intro x hx; simp at hx; simpa using hx.2)]
    simp
  · rw [if_neg hj, List.find?_filter]
    have h1 : (fun a : LE => decide (a.1 != k ∧ (a.1 == j) = true)) = fun a : LE => a.1 == j := by
      funext a
      by_cases ha : a.1 = j
      · simp [ha, hj]
      · simp [ha]
    have h2 : (fun a : LE => (a.1 != k) && (a.1 == j)) = fun a : LE => a.1 == j := by
      funext a
      by_cases ha : a.1 = j
      · simp [ha, hj]
      · simp [ha]
    have h3 : ([(k, u, gs)] : List LE).find? (fun x => x.1 == j) = none := by
      rw [List.find?_eq_none]; intro x hx; rw [List.mem_singleton.1 hx]; simpa using Ne.symm hj
    first
      | rw [h3, Option.or_none, h2]
      | rw [h3, Option.or_none, h1]
      | (simp only [h3, Option.or_none, h2, h1])
theorem aaK {A : List LE} {k : Int} {i : Nat} (hi : i < A.length) (hn : ∀ j, j < i → (A.getD j default).1 ≠ k) (he : (A.getD i default).1 = k) : EU A k = zY (A.getD i default).2.2 := by
  induction A generalizing i with
  | nil => simp at hi
  | cons x r ih =>
    unfold EU
    rw [List.find?_cons]
    cases i with
    | zero =>
      have : x.1 = k := he
      rw [show (x.1 == k) = true from by simpa using this]; rfl
    | succ m =>
      have h0 : x.1 ≠ k := hn 0 (by omega)
      rw [show (x.1 == k) = false from by simpa using h0]
      exact ih (i := m) (by simpa using hi) (fun j hj => hn (j + 1) (by omega)) he
theorem WI {A : List LE} {k : Int} (hn : ∀ j, j < A.length → (A.getD j default).1 ≠ k) : EU A k = [] := by
  unfold EU
  rw [List.find?_eq_none.2]
  · rfl
  · intro x hx
    obtain ⟨j, hj, rfl⟩ := List.getElem_of_mem hx
    have := hn j hj
    rw [List.getD_eq_getElem?_getD, List.getElem?_eq_getElem hj] at this
    simpa using this
theorem JJ : ∀ (n : Nat) (l : List Int), l.Nodup → (∀ x ∈ l, 0 ≤ x ∧ x < n) → l.length ≤ n
  | 0, l, _, h => by
    cases l with
    | nil => simp
    | cons x r => have := h x (List.mem_cons_self ..); omega
  | n + 1, l, hn, h => by
    have h1 : (l.erase (n : Int)).length ≤ n := JJ n (l.erase n) (hn.erase _) (fun x hx => by
      have hm := (List.Nodup.mem_erase_iff hn).1 hx
      have := h x hm.2
      have := hm.1
      omega)
    have h2 : l.length ≤ (l.erase (n : Int)).length + 1 := by rw [List.length_erase]; split <;> omega
    omega
theorem NZ (A : List LE) (k : Int) (u : Value) (gs : List (Value × List dQ)) : (yB A k u gs).map (·.1) = (A.map (·.1)).filter (· != k) ++ [k] := by
  unfold yB
  rw [List.map_append, List.filter_map]; rfl
theorem Yy {A : List LE} {n : Int} {k : Int} {u : Value} {gs : List (Value × List dQ)} (h : (A.map (·.1)).Nodup ∧ ∀ x ∈ A.map (·.1), 0 ≤ x ∧ x ≤ n) (hk : 0 ≤ k ∧ k ≤ n) :
    ((yB A k u gs).map (·.1)).Nodup ∧ ∀ x ∈ (yB A k u gs).map (·.1), 0 ≤ x ∧ x ≤ n := by
  rw [NZ]
  refine ⟨List.nodup_append.2 ⟨h.1.filter _, by simp, fun a ha b hb => ?_⟩, fun x hx => ?_⟩
  · rw [List.mem_singleton.1 hb]
    have := (List.mem_filter.1 ha).2
    simpa using this
  · rcases List.mem_append.1 hx with hx | hx
    · exact h.2 x (List.mem_filter.1 hx).1
    · rw [List.mem_singleton.1 hx]; exact hk
theorem Qn {A : List LE} {n : Int} (h : (A.map (·.1)).Nodup ∧ ∀ x ∈ A.map (·.1), 0 ≤ x ∧ x ≤ n) (hn : 0 ≤ n ∧ n ≤ 4096) : A.length ≤ 4097 := by
  have := JJ (n.toNat + 1) _ h.1 (fun x hx => by have := h.2 x hx; omega)
  rw [List.length_map] at this
  omega
section
variable {w0 w : World} {F : HP} {v u pv gv : Value} {n sz k : Nat} {xs : List Value} {es : List dQ} {gs : List (Value × List dQ)} {A : List LE} {x : LE}
theorem V.oD (H : V w0 w (uh sz v n xs • F)) : Rd w sz v n xs := let ⟨I, h, hI⟩ := H.ql; h.rd hI
theorem V.WJ (H : V w0 w (uh sz v n xs • F)) : V w0 w (uh sz v n xs • uh sz v n xs • F) := H.qO
theorem V.Qo (H : V w0 w F) (a : Option Addr) : V w0 w (uh sz (.slice a 0 0) 0 [] • F) := H.uN fun I => ⟨by simp, a, 0, rfl, by omega, by decide, fun h => by omega⟩
theorem V.Ed {t : TypeId} (H : V w0 w (Row t sz v n xs • F)) : V w0 w (uh sz v n xs • F) := by
  have hl := H.wQ
  rcases H.sW with ⟨a, rfl, h1, h2, H1⟩ | ⟨g, o, c, cur, rfl, h2, h3, h4, h5, H1⟩
  · subst h1; exact H1.uN fun I => ⟨hl, a, 0, rfl, by omega, by decide, fun h => by omega⟩
  · exact H1.freeze.DC (oz (fun I hI => ⟨hl, _, c, rfl, h2, h3, fun _ => ⟨g, o, cur, _, (0, 0), rfl, hI, h5⟩⟩) F)
theorem V.Ru (H : V w0 w (glK v gs • F)) : V w0 w (uh 1 v gs.length (gs.map (·.1)) • nJ gs • F) := H.flat
theorem V.Yz (H : V w0 w F) (a : Option Addr) : V w0 w (glK (.slice a 0 0) [] • F) := V.deep (H.FX.Qo (sz := 1) a)
theorem V.zZ (H : V w0 w (Bq v gs • F)) : V w0 w (glK v gs • F) := V.deep (H.XL.Ed)
theorem V.Rw {p : Int} (H : V w0 w (pU A • F)) (hk : k < A.length) (hx : A.getD k default = (p, v, gs)) : V w0 w (uh 1 v gs.length (gs.map (·.1)) • nJ gs • pU A • F) := by
  have H2 : V w0 w (uh 1 (A.getD k default).2.1 (A.getD k default).2.2.length ((A.getD k default).2.2.map (·.1)) • pU A • pU A • F) := H.qO.qO.DC (oz (fun I h => (h k hk).1) _)
  have H3 : V w0 w (nJ (A.getD k default).2.2 • uh 1 (A.getD k default).2.1 (A.getD k default).2.2.length ((A.getD k default).2.2.map (·.1)) • pU A • F) := H2.f2.DC (oz (fun I h => (h k hk).2) _)
  rw [hx] at H3
  exact H3.f2
theorem Yw.set {I : Hp} {p : Int} (h : Yw I A) (g : Zt I u gs) : Yw I (yB A p u gs) := by
  have hm : ∀ x ∈ A, Zt I x.2.1 x.2.2 := fun x hx => by
    obtain ⟨j, hj, rfl⟩ := List.getElem_of_mem hx
    have := h j hj
    rwa [List.getD_eq_getElem?_getD, List.getElem?_eq_getElem hj] at this
  have hm2 : ∀ x ∈ yB A p u gs, Zt I x.2.1 x.2.2 := fun x hx => by
    rcases List.mem_append.1 hx with hx | hx
    · exact hm x (List.mem_filter.1 hx).1
    · rw [List.mem_singleton.1 hx]; exact g
  intro j hj
  rw [List.getD_eq_getElem?_getD, List.getElem?_eq_getElem hj]
  exact hm2 _ (List.getElem_mem hj)
theorem V.WM {p : Int} (H : V w0 w (pU A • uh 1 u gs.length (gs.map (·.1)) • nJ gs • F)) : V w0 w (pU (yB A p u gs) • F) := by
  have H1 : V w0 w (know (fun I => Zt I u gs) (fun _ _ hl h => h.mono hl) • pU A • F) := (H.f3.f3 : V w0 w (uh 1 u gs.length (gs.map (·.1)) • nJ gs • pU A • F)).DC (sZ (fun I h g => ⟨h, g⟩) _)
  exact H1.f2.DC (sZ (fun I h g => h.set g) _)
theorem V.N7 (H : V w0 w F) : V w0 w (pU [] • F) := H.uN fun I k hk => by simp at hk
theorem V.N8 {k : IntKind} (H : V w0 w F) (a : Option Addr) : V w0 w (mO k (.slice a 0 0) [] • F) := H.uN fun I => ⟨a, 0, rfl, by simp, by decide, fun h => by simp at h⟩
end
end Go.Proofs.YtpdeedplgmbopaaGreatDoor
end
section
namespace Go.Proofs.YtpdeedplgmbopaaGreatDoor
open Go.RowKit
open _root_.Go.Proofs.Tryz
def Dt (v : Value) (pt mk : Int) : Array Value := #[v, .int .i64 pt, .int .i64 mk]
def nR (p : Nat) (L : List Int) (pt mk : Int) : HP := rH fun (v : Value) => fact (L.length ≤ 1024 ∧ (0 ≤ pt ∧ pt ≤ L.length) ∧ (-1 ≤ mk ∧ mk ≤ L.length)) • dK p (.cells (Dt v pt mk) 222 (0, 0)) • kQ 21 .i32 v L
section
variable {w0 w : World} {F : HP} {p : Nat} {L : List Int} {pt mk : Int} {v : Value} {l : List Int} {i j : Int}
theorem V.ref (H : V w0 w (nR p L pt mk • F)) : ∃ (a : Option Addr) (c : Nat), L.length ≤ 1024 ∧ (0 ≤ pt ∧ pt ≤ L.length) ∧ (-1 ≤ mk ∧ mk ≤ L.length) ∧ L.length ≤ c ∧ (c : Int) ≤ 9223372036854775807 ∧
    V w0 w (dK p (.cells (Dt (.slice a L.length c) pt mk) 222 (0, 0)) • kQ 21 .i32 (.slice a L.length c) L • F) := by
  obtain ⟨v, H⟩ := H.lJ
  obtain ⟨⟨h1, h2, h3⟩, H⟩ := H.flat.fact
  have H := H.flat
  obtain ⟨a, c, hv, hc1, hc2, _⟩ := (H.swap.aS).form
  subst hv
  exact ⟨a, c, h1, h2, h3, hc1, hc2, H⟩
theorem V.Qp (h1 : L.length ≤ 1024) (h2 : 0 ≤ pt ∧ pt ≤ L.length) (h3 : -1 ≤ mk ∧ mk ≤ L.length) (H : V w0 w (dK p (.cells (Dt v pt mk) 222 (0, 0)) • kQ 21 .i32 v L • F)) : V w0 w (nR p L pt mk • F) :=
  V.iy v (V.deep (V.jY ⟨h1, h2, h3⟩ (V.deep H)))
theorem La (H : V w0 w F) (hr : jZ w0 F .i32 v l) (hl : 1024 < l.length) : gI prog 112 #[v] w fun v' w' => v' = .tuple #[.pointer none, .int .i64 3] ∧ w = w' := by
  obtain ⟨a, c, rfl, _, _, _⟩ := (hr w H).open
  refine gG func112 ntmps112 ?_
  refine iE (fU O (vk O (bP O (aV (ny aB O) (aV (iV O O) (iJ (wcA O (fun h1 => ?_))))))))
  (try simp only [Z] at h1)
  refine iE (fU O (eY O (aF (Jl results112 O O ?_))))
  exact ⟨O, O⟩
theorem N9 (H : V w0 w F) (hr : jZ w0 F .i32 v l) (hl : l.length ≤ 1024) : gI prog 112 #[v] w fun v' w' => ∃ p, v' = .tuple #[.pointer (some ⟨p, 0, none⟩), .int .i64 0] ∧ V w0 w' (nR p l l.length (-1) • F) := by
  obtain ⟨a, c, rfl, hc1, hc2, _⟩ := (hr w H).open
  refine gG func112 ntmps112 ?_
  refine iE (fU O (vk O (bP O (aV (ny aB O) (aV (iV O O) (iJ (wcB O (fun h1 => ?_))))))))
  (try simp only [Z] at h1)
  refine fZ (jg O (bP O (bQ O (jr (lD (l := []) (H.iP none) (hr _ H) aB CJ O O (by simp only [List.length_nil]; omega) (by simp only [List.length_nil]; omega)) ?_))))
  rintro u w1 H1
  rw [List.nil_append] at H1
  obtain ⟨au, cu, hu, _⟩ := (H1.aS).form
  subst hu
  refine gJ O (bP O (bQ O (aV (ny aB O) (aV (oZ (pl := #[(0, 1), (1, 1), (2, 1)]) (Dt (.slice au l.length cu) l.length (-1)) underlying222 zeroValue222 (fun w => by kernel_rfl) O (by kernel_rfl)) (jr (Qy H1 O) ?_)))))
  rintro _ w2 ⟨b2, rfl, H2⟩
  refine fU O (eY O (Jl results112 O O ?_))
  exact ⟨_, O, V.Qp hl (by omega) (by omega) H2⟩
end
end Go.Proofs.YtpdeedplgmbopaaGreatDoor
end
