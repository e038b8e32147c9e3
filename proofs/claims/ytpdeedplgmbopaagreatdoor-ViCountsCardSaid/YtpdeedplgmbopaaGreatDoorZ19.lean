import Derived.Test.YtpdeedplgmbopaaGreatDoorZ4
import Derived.Test.YtpdeedplgmbopaaGreatDoorZ18
import Derived.Test.YtpdeedplgmbopaaGreatDoorZ11
import Derived.Test.YtpdeedplgmbopaaGreatDoorZ14
set_option linter.unusedSimpArgs false
set_option linter.unusedVariables false
/- Texts of mine, joined, their names in short: VGo2 VT VO VMove VDel. -/
section
namespace Go.Proofs.YtpdeedplgmbopaaGreatDoor
open Go.RowKit
open _root_.Go.Proofs.Tryz
def qL (k : Nat) : Value := .func (.func k) #[] #[]
def Jc (q1 q2 q3 q4 q5 q6 : MP) : HP := oV q6 (qL 97) true true (qL 94) • oV q5 (qL 97) false true (qL 94) • oV q4 (qL 96) true false (qL 93) • oV q3 (qL 96) false false (qL 93) • oV q2 (qL 95) true false (qL 92) • oV q1 (qL 95) false false (qL 92)
def DW (q1 q2 q3 q4 q5 q6 : MP) : Int → Option Value := upd (upd (upd (upd (upd (upd (fun _ => none) 119 (RS q1)) 87 (RS q2)) 98 (RS q3)) 66 (RS q4)) 101 (RS q5)) 69 (RS q6)
section
variable {w0 w : World} {F : HP} {v sv mv : Value} {l : List Int} {x n key : Int} {b t : Bool} {q1 q2 q3 q4 q5 q6 : MP}
theorem IC {k1 k2 : Nat} (H : V w0 w F) : uq prog (qL 88) [qL k1, .bool b, .bool t, qL k2] w fun u w' => ∃ p, u = RS p ∧ V w0 w' (oV p (qL k1) b t (qL k2) • F) := by
  refine ⟨_, [], [], _, _, O, func88, O, O, ?_⟩
  simp only [List.nil_append, List.append_nil]
  refine Ql func88 ntmps88 ?_
  refine iV (jV (jH (l := [_]) H O O) ?_)
  rintro _ w1 ⟨b1, rfl, H1⟩
  refine jV (jH (l := [_]) H1 O O) ?_
  rintro _ w2 ⟨b2, rfl, H2⟩
  refine jV (jH (l := [_]) H2 O O) ?_
  rintro _ w3 ⟨b3, rfl, H3⟩
  refine jV (jH (l := [_]) H3 O O) ?_
  rintro _ w4 ⟨b4, rfl, H4⟩
  refine fP O (iV (Z (y5 O O) (fC O (dK results88 O ?_))))
  exact ⟨⟨_, _, _, _⟩, O, (H4).of_eq (by unfold oV; simp only [dD])⟩
theorem uq.mono {P : Program} {fv : Value} {vs : List Value} {w : World} {T T' : Value → World → Prop} (h : uq P fv vs w T) (k : ∀ v w', T v w' → T' v w') : uq P fv vs w T' := by
  obtain ⟨f, a, c, fn, b, h1, h2, h3, h4, h5⟩ := h
  exact ⟨f, a, c, fn, b, h1, h2, h3, h4, h5.mono k⟩
theorem UQ (H : V w0 w F) : iI prog 39 #[] w fun u w' => ∃ b q1 q2 q3 q4 q5 q6, u = .map (some b) ∧ V w0 w' (gX (zo .i32) b (DW q1 q2 q3 q4 q5 q6) • Jc q1 q2 q3 q4 q5 q6 • F) := by
  refine WB func39 ntmps39 ?_
  refine jR O (jR O (jR O (jR O (jR O (iV (jV (kP (zo .i32) H) ?_))))))
  rintro _ w1 ⟨b1, rfl, H1⟩
  refine jO O O (jV (pG O O (IC (k1 := 95) (k2 := 92) H1)) ?_)
  rintro _ w2 ⟨q1, rfl, H2⟩
  refine aI (AZ H2.f2 oW bG O O O) ?_
  rintro _ w3 H3
  refine jO O O (jV (pG O O (IC (k1 := 95) (k2 := 92) H3)) ?_)
  rintro _ w4 ⟨q2, rfl, H4⟩
  refine aI (AZ H4.f2 oW bG O O O) ?_
  rintro _ w5 H5
  refine jO O O (jV (pG O O (IC (k1 := 96) (k2 := 93) H5)) ?_)
  rintro _ w6 ⟨q3, rfl, H6⟩
  refine aI (AZ H6.f2 oW bG O O O) ?_
  rintro _ w7 H7
  refine jO O O (jV (pG O O (IC (k1 := 96) (k2 := 93) H7)) ?_)
  rintro _ w8 ⟨q4, rfl, H8⟩
  refine aI (AZ H8.f2 oW bG O O O) ?_
  rintro _ w9 H9
  refine jO O O (jV (pG O O (IC (k1 := 97) (k2 := 94) H9)) ?_)
  rintro _ w10 ⟨q5, rfl, pW⟩
  refine aI (AZ pW.f2 oW bG O O O) ?_
  rintro _ FX sW
  refine jO O O (jV (pG O O (IC (k1 := 97) (k2 := 94) sW)) ?_)
  rintro _ w12 ⟨q6, rfl, wL⟩
  refine aI (AZ wL.f2 oW bG O O O) ?_
  rintro _ Qs xZ
  refine bP O (fC O (dK results39 O ?_))
  exact ⟨_, q1, q2, q3, q4, q5, q6, O, (xZ).of_eq (by unfold Jc; simp only [dD]; rfl)⟩
theorem RU (h : ¬ (key = 119 ∨ key = 87 ∨ key = 98 ∨ key = 66 ∨ key = 101 ∨ key = 69)) : DW q1 q2 q3 q4 q5 q6 key = none := by
  unfold DW upd
  rw [if_neg (by omega), if_neg (by omega), if_neg (by omega), if_neg (by omega), if_neg (by omega), if_neg (by omega)]
theorem RY (h : key = 119 ∨ key = 87 ∨ key = 98 ∨ key = 66 ∨ key = 101 ∨ key = 69) : (DW q1 q2 q3 q4 q5 q6 key).isSome = true := by
  rcases h with rfl | rfl | rfl | rfl | rfl | rfl <;> rfl
theorem RZ (H : V w0 w (Jc q1 q2 q3 q4 q5 q6 • F)) (hk : key = 119 ∨ key = 87 ∨ key = 98 ∨ key = 66 ∨ key = 101 ∨ key = 69) (hT : Ae w0) (hr : jE w0 F .i32 v l) (hl : l.length ≤ 4611686018427387904) (hx : inL l x) (hn : n ≤ 9223372036854775807) (z : Value) :
    uq prog ((DW q1 q2 q3 q4 q5 q6 key).getD z) [v, .int .i64 x, .int .i64 n] w fun u w' => u = Xj (zA l x key n) ∧ V w0 w' (Jc q1 q2 q3 q4 q5 q6 • F) := by
  unfold Jc at H ⊢
  have hI1 : ∀ y, decide (y < (l.length : Int) - 1) = true → inL l y → aeW l y := fun y h1 h2 => ⟨h2.1, by have := of_decide_eq_true h1; omega⟩
  rcases hk with rfl | rfl | rfl | rfl | rfl | rfl
  · refine uq.mono (Bf (p := q1) (F := oV q6 (qL 97) true true (qL 94) • oV q5 (qL 97) false true (qL 94) • oV q4 (qL 96) true false (qL 93) • oV q3 (qL 96) false false (qL 93) • oV q2 (qL 95) true false (qL 92) • F) (H.of_eq (by ac_rfl)) (Oe hT) LC (fun y h1 h2 => h2) (fun W HW => hr W HW.right.right.right.right.right) hl hx hn) fun u W h => ⟨h.1.trans (by unfold zA; simp), h.2.of_eq (by ac_rfl)⟩
  · refine uq.mono (Bf (p := q2) (F := oV q6 (qL 97) true true (qL 94) • oV q5 (qL 97) false true (qL 94) • oV q4 (qL 96) true false (qL 93) • oV q3 (qL 96) false false (qL 93) • oV q1 (qL 95) false false (qL 92) • F) (H.of_eq (by ac_rfl)) (Oe hT) LC (fun y h1 h2 => h2) (fun W HW => hr W HW.right.right.right.right.right) hl hx hn) fun u W h => ⟨h.1.trans (by unfold zA; simp), h.2.of_eq (by ac_rfl)⟩
  · refine uq.mono (Bf (p := q3) (F := oV q6 (qL 97) true true (qL 94) • oV q5 (qL 97) false true (qL 94) • oV q4 (qL 96) true false (qL 93) • oV q2 (qL 95) true false (qL 92) • oV q1 (qL 95) false false (qL 92) • F) (H.of_eq (by ac_rfl)) (Og hT) Oh (fun y h1 h2 => h2) (fun W HW => hr W HW.right.right.right.right.right) hl hx hn) fun u W h => ⟨h.1.trans (by unfold zA; simp), h.2.of_eq (by ac_rfl)⟩
  · refine uq.mono (Bf (p := q4) (F := oV q6 (qL 97) true true (qL 94) • oV q5 (qL 97) false true (qL 94) • oV q3 (qL 96) false false (qL 93) • oV q2 (qL 95) true false (qL 92) • oV q1 (qL 95) false false (qL 92) • F) (H.of_eq (by ac_rfl)) (Og hT) Oh (fun y h1 h2 => h2) (fun W HW => hr W HW.right.right.right.right.right) hl hx hn) fun u W h => ⟨h.1.trans (by unfold zA; simp), h.2.of_eq (by ac_rfl)⟩
  · refine uq.mono (Bf (p := q5) (F := oV q6 (qL 97) true true (qL 94) • oV q4 (qL 96) true false (qL 93) • oV q3 (qL 96) false false (qL 93) • oV q2 (qL 95) true false (qL 92) • oV q1 (qL 95) false false (qL 92) • F) (H.of_eq (by ac_rfl)) (step_end hT) LD (fun y h1 h2 => hI1 y h1 h2) (fun W HW => hr W HW.right.right.right.right.right) hl hx hn) fun u W h => ⟨h.1.trans (by unfold zA; simp), h.2.of_eq (by ac_rfl)⟩
  · refine uq.mono (Bf (p := q6) (F := oV q5 (qL 97) false true (qL 94) • oV q4 (qL 96) true false (qL 93) • oV q3 (qL 96) false false (qL 93) • oV q2 (qL 95) true false (qL 92) • oV q1 (qL 95) false false (qL 92) • F) (H.of_eq (by ac_rfl)) (step_end hT) LD (fun y h1 h2 => hI1 y h1 h2) (fun W HW => hr W HW.right.right.right.right.right) hl hx hn) fun u W h => ⟨h.1.trans (by unfold zA; simp), h.2.of_eq (by ac_rfl)⟩
end
section
variable {w0 w : World} {F : HP} {v fv : Value} {l : List Int} {x n key c r : Int} {P : Int → Bool} {given : Bool}
theorem UR (H : V w0 w F) (hr : jE w0 F .i32 v l) (hf : ∀ W r, V w0 W F → uq prog fv [.int .i32 r] W fun u W' => u = .bool (!P r) ∧ V w0 W' F) : iI prog 40 #[v, fv] w fun u w' => u = .int .i64 (if lF P l 0 < l.length then lF P l 0 else -1) ∧ V w0 w' F := by
 have hl9 : l.length ≤ 9223372036854775807 := by have := (hr _ H).open; obtain ⟨a, c, e, h3, h4, _⟩ := this; omega
 refine oN func40 ntmps40 ?_
 refine jR O (aO (bT O (Z (jy (hr _ (H)) aj O) (bP O (iL (aY ?_))))))
 refine gV [(0, _), (1, _), (7, _)] (fun (i : Int) => [(8, .int .i64 i)]) (fun (i : Int) W => ((0 ≤ i ∧ i ≤ l.length) ∧ lF P l i = lF P l 0) ∧ V w0 W F) (fun (i : Int) => (l.length - i).toNat) (0) vZ mG ⟨⟨by omega, O⟩, H⟩ ?_
 rintro i w1 ⟨⟨hi, hE⟩, HL⟩
 dsimp only [List.cons_append, List.nil_append]
 refine iV (Z (gB O O) (qR (bH O (fun h1 => ?_) (fun h1 => ?_))))
 ·(try simp only [aA] at h1)
  refine gQ (aO (aY (bT O (fP O (bT O (jO O O ?_))))))
  obtain ⟨bv, ov, cv, ev⟩ := gJ.rG (hr _ (HL)) (by omega)
  cases ev
  refine Z (dP aj bV O O (by omega)) ?_
  refine Z (fG (dA bG O) O (by first | exact gJ.mZ (hr _ (HL)) (by omega) | exact gJ.yA (hr _ (HL)) (by omega) | exact gJ.xX (hr _ (HL)) (by omega))) ?_
  refine jV (pG O O (hf _ (l.getD i.toNat 0) HL)) ?_
  rintro _ w2 ⟨rfl, H2⟩
  refine jL O (fun h2 => ?_) (fun h2 => ?_)
  ·(try simp only [aA] at h2)
   have hP : ¬ P (l.getD i.toNat 0) = true := by have h9 := h2; simpa using h9
   refine bT O (fC O (aT (aB (aB (aT (aB (dK results40 O ?_)))))))
   exact ⟨by rw [← hE, mM hi.1 (by omega) hP, if_pos (by omega)], H2⟩
  ·(try simp only [aA] at h2)
   have hP : P (l.getD i.toNat 0) = true := by have h9 := h2; simpa using h9
   refine dn (aK (aW (aC (Z (fO O O (by omega)) (bP O (bY ?_))))))
   refine dU (i + 1) ?_ ?_ ?_ ?_
   ·exact mG
   ·exact vZ
   ·(try dsimp only)
    first | done | exact ⟨⟨by omega, (tN hi.1 (by omega) hP).symm.trans hE⟩, H2⟩
   ·(try dsimp only); omega
 ·(try simp only [aA] at h1)
  refine dO (aN (aN (bn (aW (jP O (dK results40 O ?_))))))
  exact ⟨by rw [← hE, kK (by omega), if_neg (by omega)], HL⟩
theorem UU (H : V w0 w F) (hT : Ae w0) : iI prog 41 #[.int .i32 r] w fun u w' => u = .bool (!(fQ r == 0)) ∧ V w0 w' F := by
  refine jr func41 ntmps41 ?_
  refine jR O (bT O (dS O func14 (qC H hT) ?_))
  rintro _ w1 ⟨rfl, H1⟩
  refine Z (iM O O) (fC O (dK results41 O ?_))
  exact ⟨O, H1⟩
theorem ZR (h : key = 119 ∨ key = 87 ∨ key = 98 ∨ key = 66 ∨ key = 101 ∨ key = 69) : lG l x key c n = zA l x key n := by
  unfold lG
  rw [if_neg (by omega), if_neg (by omega), if_neg (by omega), if_neg (by omega), if_neg (by omega), if_neg (by omega), if_neg (by omega), if_neg (by omega)]
theorem abo (h : ¬ (key = 119 ∨ key = 87 ∨ key = 98 ∨ key = 66 ∨ key = 101 ∨ key = 69)) : zA l x key n = (0, false, false) := by
  unfold zA
  rw [if_neg (by omega), if_neg (by omega), if_neg (by omega)]
theorem DX (H : V w0 w F) (hr : jE w0 F .i32 v l) (hT : Ae w0) (hl8 : l.length ≤ 4611686018427387904) (hn : n ≤ 9223372036854775807) : iI prog 11 #[v, .int .i64 x, .int .i32 key, .int .i32 c, .int .i64 n, .bool given] w fun u w' => u = Xj (wY l x key c n) ∧ V w0 w' F := by
 obtain ⟨y, hy⟩ : ∃ y, y = min (max x 0) (l.length : Int) := ⟨_, rfl⟩
 obtain ⟨m, hm⟩ : ∃ m, m = max n 1 := ⟨_, rfl⟩
 unfold wY
 rw [← hy, ← hm]
 have hy2 : 0 ≤ y ∧ y ≤ l.length := by omega
 have hm2 : 1 ≤ m ∧ m ≤ 9223372036854775807 := by omega
 refine X3 func11 ntmps11 ?_
 dsimp only [yY, Nat.reduceAdd]
 refine iV (iJ O (iJ O (fP O (bT O (Z (Vd O O) (bP O (Z (jy (hr _ (H)) aj O) (Z (Qb (Cb O O) (congrArg (Value.int .i64) hy.symm)) (fP O (bT O (Z (Qb (Vd O O) (congrArg (Value.int .i64) hm.symm)) (vY O (iV (dS O func39 (UQ H) ?_))))))))))))))
 rintro _ w1 ⟨b1, q1, q2, q3, q4, q5, q6, rfl, H1⟩
 refine bP O (Z (DC (H1) oW bG zeroValue85 O O) (bP O (uf O O (uf O O (iJ O (fP O (bT O (jL O (fun h1 => ?_) (fun h1 => ?_)))))))))
 ·(try simp only [aA] at h1)
  try (exfalso; first | contradiction | omega)
  all_goals
   have hk : key = 119 ∨ key = 87 ∨ key = 98 ∨ key = 66 ∨ key = 101 ∨ key = 69 := Decidable.byContradiction fun hc => by have h9 := h1; rw [RU hc] at h9; exact absurd h9 (by decide)
   refine bT O (jO O O (bP O (jV (pG O O (RZ H1.f2 hk hT (fun W HW => hr W HW.right) hl8 hy2 hm2.2 _)) ?_)))
   rintro _ w2 ⟨rfl, H2⟩
   refine uf O O (uf O O (uf O O (iJ O (iJ O (fC O (aB ?_))))))
   refine ji (.inl O) mW O O O ?_
   exact ⟨by rw [ZR hk]; rfl, H2.right.right⟩
 ·(try simp only [aA] at h1)
  try (exfalso; first | contradiction | omega)
  all_goals
   have hk : ¬ (key = 119 ∨ key = 87 ∨ key = 98 ∨ key = 66 ∨ key = 101 ∨ key = 69) := fun hc => by have h9 := h1; rw [RY hc] at h9; exact absurd h9 (by decide)
   refine gQ (aO (bT O (iL (aY (iV (Z (dX O O) (fP O (bH O (fun h2 => ?_) (fun h2 => ?_)))))))))
   ·(try simp only [aA] at h2)
    try (exfalso; first | contradiction | omega)
    all_goals
     refine aO (bT O (Z (dX O O) (jL O (fun h3 => ?_) (fun h3 => ?_))))
     ·(try simp only [aA] at h3)
      try (exfalso; first | contradiction | omega)
      all_goals
       refine iV (iJ O (iJ O (fC O (aB (aT (aB ?_))))))
       refine ji (.inl O) mW O O O ?_
       exact ⟨by unfold lG; rw [if_pos (by omega), if_pos (by omega)]; rfl, H1.right.right⟩
     ·(try simp only [aA] at h3)
      try (exfalso; first | contradiction | omega)
      all_goals
       refine gQ (bT O (jO O O (Z (Cb O O) (Z (iZ O O (by omega)) (iJ O (iJ O (fC O (aT (aB ?_)))))))))
       refine ji (.inl O) mW O O O ?_
       exact ⟨by unfold lG; rw [if_pos (by omega), if_neg (by omega)]; rfl, H1.right.right⟩
   ·(try simp only [aA] at h2)
    try (exfalso; first | contradiction | omega)
    all_goals
     refine lu [(0, _), (1, _), (2, _), (3, _), (4, _), (40, _)] (fun (_ : Unit) => [(50, .bool (decide (key = 108 ∨ key = 32)))]) (fun (_ : Unit) W => V w0 W (gX (zo .i32) b1 (DW q1 q2 q3 q4 q5 q6) • Jc q1 q2 q3 q4 q5 q6 • F)) Vh ?_ ?_
     ·rintro _ w3 HJ
      dsimp only [List.cons_append, List.nil_append]
      refine bH O (fun h4 => ?_) (fun h4 => ?_)
      ·(try simp only [aA] at h4)
       try (exfalso; first | contradiction | omega)
       all_goals
        refine aO (bT O (bP O (Z (jy (hr _ (HJ.right.right)) aj O) (Z (dX O O) (jL O (fun h5 => ?_) (fun h5 => ?_))))))
        ·(try simp only [aA] at h5)
         try (exfalso; first | contradiction | omega)
         all_goals
          refine iV (iJ O (iJ O (fC O (aB (aT (aB ?_))))))
          refine ji (.inl O) mW O O O ?_
          exact ⟨by unfold lG; rw [if_neg (by omega), if_pos (by omega), if_pos (by omega)]; rfl, HJ.right.right⟩
        ·(try simp only [aA] at h5)
         try (exfalso; first | contradiction | omega)
         all_goals
          refine gQ (bT O (jO O O (Z (jy (hr _ (HJ.right.right)) aj O) (bP O (Z (iZ O O (by omega)) (Z (Cb O O) (Z (fO O O (by omega)) (iJ O (iJ O (fC O (aT (aB ?_))))))))))))
          refine ji (.inl O) mW O O O ?_
          exact ⟨by unfold lG; rw [if_neg (by omega), if_pos (by omega), if_neg (by omega)]; rfl, HJ.right.right⟩
      ·(try simp only [aA] at h4)
       try (exfalso; first | contradiction | omega)
       all_goals
        refine iV (Z (dX O O) (fP O (bH O (fun h6 => ?_) (fun h6 => ?_))))
        ·(try simp only [aA] at h6)
         try (exfalso; first | contradiction | omega)
         all_goals
          refine iV (iJ O (iJ O (fC O (aT (aB ?_)))))
          refine ji (.inl O) mW O O O ?_
          exact ⟨by unfold lG; rw [if_neg (by omega), if_neg (by omega), if_pos (by omega)]; rfl, HJ.right.right⟩
        ·(try simp only [aA] at h6)
         try (exfalso; first | contradiction | omega)
         all_goals
          refine iV (Z (dX O O) (fP O (bH O (fun h7 => ?_) (fun h7 => ?_))))
          ·(try simp only [aA] at h7)
           try (exfalso; first | contradiction | omega)
           all_goals
            refine bT O (Z (jy (hr _ (HJ.right.right)) aj O) (iJ O (iJ O (fC O (aT (aB ?_))))))
            refine ji (.inl O) mW O O O ?_
            exact ⟨by unfold lG; rw [if_neg (by omega), if_neg (by omega), if_neg (by omega), if_pos (by omega)]; rfl, HJ.right.right⟩
          ·(try simp only [aA] at h7)
           try (exfalso; first | contradiction | omega)
           all_goals
            refine iV (Z (dX O O) (fP O (bH O (fun h8 => ?_) (fun h8 => ?_))))
            ·(try simp only [aA] at h8)
             try (exfalso; first | contradiction | omega)
             all_goals
              refine bT O (Z (iZ O O (by omega)) (bP O (Z (jy (hr _ (HJ.right.right)) aj O) (Z (Cb O O) (iJ O (iJ O (fC O (aT (aB ?_)))))))))
              refine ji (.inl O) mW O O O ?_
              exact ⟨by unfold lG; rw [if_neg (by omega), if_neg (by omega), if_neg (by omega), if_neg (by omega), if_neg (by omega), if_pos (by omega)]; rfl, HJ.right.right⟩
            ·(try simp only [aA] at h8)
             try (exfalso; first | contradiction | omega)
             all_goals
              refine iV (Z (dX O O) (fP O (bH O (fun h9 => ?_) (fun h9 => ?_))))
              ·(try simp only [aA] at h9)
               try (exfalso; first | contradiction | omega)
               all_goals
                refine bT O (dS O func40 (UR (P := fun r => fQ r == 0) HJ (fun W HW => hr _ (HW.right.right)) (fun W r HW => ⟨41, [], [], _, _, O, func41, O, O, UU HW hT⟩)) ?_)
                rintro _ w4 ⟨rfl, H4⟩
                have hrb := uj (P := fun r => fQ r == 0) (l := l) (x := 0) (by omega) (by omega)
                refine fP O ?_
                refine lu [] (fun (_ : Unit) => [(17, .int .i64 (lF (fun r => fQ r == 0) l 0))]) (fun (_ : Unit) W => V w0 W (gX (zo .i32) b1 (DW q1 q2 q3 q4 q5 q6) • Jc q1 q2 q3 q4 q5 q6 • F)) (Sub.nil _) ?_ ?_
                ·rintro _ w5 HN
                 dsimp only [List.cons_append, List.nil_append]
                 refine bT O (iJ O (iJ O (fC O (aT (aB ?_)))))
                 refine ji (.inl O) mW O O O ?_
                 exact ⟨by unfold lG; rw [if_neg (by omega), if_neg (by omega), if_neg (by omega), if_neg (by omega), if_pos (by omega)]; rfl, HN.right.right⟩
                ·skip
                 refine bT O (Z (gB O O) (jL O (fun h10 => ?_) (fun h10 => ?_)))
                 ·(try simp only [aA] at h10)
                  try (exfalso; first | contradiction | omega)
                  all_goals
                   refine aC (bP O (Z (jy (hr _ (H4.right.right)) aj O) (iJ O (bY ?_))))
                   refine dF (()) ?_ ?_ ?_
                   ·exact (Sub.jG O (by congr 1; by_cases hq : lF (fun r => fQ r == 0) l 0 < l.length <;> simp_all <;> omega) (Sub.nil _))
                   ·exact (Sub.nil _)
                   ·(try dsimp only)
                    first | done | exact H4.f2.f2
                 ·(try simp only [aA] at h10)
                  try (exfalso; first | contradiction | omega)
                  all_goals
                   refine dn ?_
                   refine dF (()) ?_ ?_ ?_
                   ·exact (Sub.jG O (by congr 1; by_cases hq : lF (fun r => fQ r == 0) l 0 < l.length <;> simp_all <;> omega) (Sub.nil _))
                   ·exact (Sub.nil _)
                   ·(try dsimp only)
                    first | done | exact H4.f2.f2
              ·(try simp only [aA] at h9)
               try (exfalso; first | contradiction | omega)
               all_goals
                refine lu [(0, _), (1, _), (2, _), (3, _), (4, _), (40, _)] (fun (_ : Unit) => [(87, .bool (decide (key = 102 ∨ key = 70 ∨ key = 116 ∨ key = 84)))]) (fun (_ : Unit) W => V w0 W (gX (zo .i32) b1 (DW q1 q2 q3 q4 q5 q6) • Jc q1 q2 q3 q4 q5 q6 • F)) Vh ?_ ?_
                ·rintro _ w6 HK
                 dsimp only [List.cons_append, List.nil_append]
                 refine bH O (fun h11 => ?_) (fun h11 => ?_)
                 ·(try simp only [aA] at h11)
                  try (exfalso; first | contradiction | omega)
                  all_goals
                   refine bT O (jO O O (jO O O (dS O func42 (Uu HK (fun W HW => hr _ (HW.right.right)) (by omega) (by omega) (by omega) (by omega)) ?_)))
                   rintro _ w7 ⟨rfl, H7⟩
                   refine uf O O (uf O O (uf O O (iJ O (iJ O (fC O (aT (aB ?_)))))))
                   refine ji (.inl O) mW O O O ?_
                   exact ⟨by unfold lG; rw [if_neg (by omega), if_neg (by omega), if_neg (by omega), if_neg (by omega), if_neg (by omega), if_neg (by omega), if_pos (by omega)]; rfl, H7.right.right⟩
                 ·(try simp only [aA] at h11)
                  try (exfalso; first | contradiction | omega)
                  all_goals
                   refine iV (Z (dX O O) (fP O (bH O (fun h12 => ?_) (fun h12 => ?_))))
                   ·(try simp only [aA] at h12)
                    try (exfalso; first | contradiction | omega)
                    all_goals
                     refine bT O (bP O (dS O func43 (PO HK (fun W HW => hr _ (HW.right.right)) (by omega) (by omega)) ?_))
                     rintro _ w8 ⟨rfl, H8⟩
                     refine uf O O (uf O O (uf O O (iJ O (iJ O (fC O (aT (aB ?_)))))))
                     refine ji (.inl O) mW O O O ?_
                     exact ⟨by unfold lG; rw [if_neg (by omega), if_neg (by omega), if_neg (by omega), if_neg (by omega), if_neg (by omega), if_neg (by omega), if_neg (by omega), if_pos (by omega)]; rfl, H8.right.right⟩
                   ·(try simp only [aA] at h12)
                    try (exfalso; first | contradiction | omega)
                    all_goals
                     refine dn (aK (aW (iV (iJ O (iJ O (fC O ?_))))))
                     refine ji (.inl O) mW O O O ?_
                     exact ⟨by unfold lG; rw [if_neg (by omega), if_neg (by omega), if_neg (by omega), if_neg (by omega), if_neg (by omega), if_neg (by omega), if_neg (by omega), if_neg (by omega), abo hk]; rfl, HK.right.right⟩
                ·skip
                 refine iV (Z (dX O O) (fP O (bH O (fun h13 => ?_) (fun h13 => ?_))))
                 ·(try simp only [aA] at h13)
                  try (exfalso; first | contradiction | omega)
                  all_goals
                   refine dn ?_
                   refine dF (()) ?_ ?_ ?_
                   ·exact (Sub.jG O (congrArg Value.bool (decide_eq_decide.2 (by omega))) (Sub.nil _))
                   ·exact Vh
                   ·(try dsimp only)
                    first | done | exact HJ.f2.f2
                 ·(try simp only [aA] at h13)
                  try (exfalso; first | contradiction | omega)
                  all_goals
                   refine iV (Z (dX O O) (fP O (bH O (fun h14 => ?_) (fun h14 => ?_))))
                   ·(try simp only [aA] at h14)
                    try (exfalso; first | contradiction | omega)
                    all_goals
                     refine dn ?_
                     refine dF (()) ?_ ?_ ?_
                     ·exact (Sub.jG O (congrArg Value.bool (decide_eq_decide.2 (by omega))) (Sub.nil _))
                     ·exact Vh
                     ·(try dsimp only)
                      first | done | exact HJ.f2.f2
                   ·(try simp only [aA] at h14)
                    try (exfalso; first | contradiction | omega)
                    all_goals
                     refine iV (Z (dX O O) (fP O (bH O (fun h15 => ?_) (fun h15 => ?_))))
                     ·(try simp only [aA] at h15)
                      try (exfalso; first | contradiction | omega)
                      all_goals
                       refine dn ?_
                       refine dF (()) ?_ ?_ ?_
                       ·exact (Sub.jG O (congrArg Value.bool (decide_eq_decide.2 (by omega))) (Sub.nil _))
                       ·exact Vh
                       ·(try dsimp only)
                        first | done | exact HJ.f2.f2
                     ·(try simp only [aA] at h15)
                      try (exfalso; first | contradiction | omega)
                      all_goals
                       refine aC (Z (dX O O) (iJ O (bY ?_)))
                       refine dF (()) ?_ ?_ ?_
                       ·exact (Sub.jG O (congrArg Value.bool (decide_eq_decide.2 (by omega))) (Sub.nil _))
                       ·exact Vh
                       ·(try dsimp only)
                        first | done | exact HJ.f2.f2
     ·skip
      refine iV (Z (dX O O) (fP O (bH O (fun h16 => ?_) (fun h16 => ?_))))
      ·(try simp only [aA] at h16)
       try (exfalso; first | contradiction | omega)
       all_goals
        refine dn ?_
        refine dF (()) ?_ ?_ ?_
        ·exact (Sub.jG O (congrArg Value.bool (decide_eq_decide.2 (by omega))) (Sub.nil _))
        ·exact Vh
        ·(try dsimp only)
         first | done | exact H1.f2.f2
      ·(try simp only [aA] at h16)
       try (exfalso; first | contradiction | omega)
       all_goals
        refine aC (Z (dX O O) (iJ O (bY ?_)))
        refine dF (()) ?_ ?_ ?_
        ·exact (Sub.jG O (congrArg Value.bool (decide_eq_decide.2 (by omega))) (Sub.nil _))
        ·exact Vh
        ·(try dsimp only)
         first | done | exact H1.f2.f2
end
def UW : ByteArray := ⟨#[102, 70, 116, 84]⟩
def qZ (n : ByteArray) : ByteArray :=
  if n.toList = BK.toList then ⟨#[100, 68]⟩ else if n.toList = FI.toList then ⟨#[99, 67]⟩ else if n.toList = Iq.toList then ⟨#[121, 89]⟩ else if n.toList = EX.toList then ⟨#[120, 88]⟩ else
  if n.toList = Zq.toList then ⟨#[115, 83]⟩ else if n.toList = Zp.toList then ⟨#[112, 80]⟩ else if n.toList = Zn.toList then ⟨#[105, 97, 73, 65]⟩ else if n.toList = Zr.toList then ⟨#[117, 85]⟩ else ⟨#[]⟩
namespace VM
variable (M : VM)
def tgt (l : List Int) (p : Int) (keys : List Int) (n : Int) : Int × Bool × Bool :=
  if keys.length = 0 then (0, false, false)
  else if keys.getD 0 0 = 96 then (M.at (if 1 < keys.length then keys.getD 1 0 else 0), false, decide (0 ≤ M.at (if 1 < keys.length then keys.getD 1 0 else 0) ∧ M.at (if 1 < keys.length then keys.getD 1 0 else 0) ≤ l.length))
  else if keys.getD 0 0 = 59 ∨ keys.getD 0 0 = 44 then (if M.fk = 0 then (0, false, false) else wY l p (if keys.getD 0 0 = 44 then bits .xor .i32 M.fk 32 else M.fk) M.fc n)
  else wY l p (keys.getD 0 0) (if 1 < keys.length then keys.getD 1 0 else 0) n
def sought (l : List Int) (p : Int) (keys : List Int) (n : Int) : VM :=
  if keys.length = 0 then M else if keys.getD 0 0 = 96 then M else if keys.getD 0 0 = 59 ∨ keys.getD 0 0 = 44 then M
  else if (wY l p (keys.getD 0 0) (if 1 < keys.length then keys.getD 1 0 else 0) n).2.2 = true ∧ keys.getD 0 0 ∈ CV UW then { M with fk := keys.getD 0 0, fc := if 1 < keys.length then keys.getD 1 0 else 0 } else M
end VM
section
variable {w0 w : World} {F : HP} {c m e : Nat} {s : bC} {name : ByteArray} {kv lv qv : Value} {keys l ks : List Int} {n p x q : Int} {g : Bool} {M M' : VM}
theorem Jd : iI prog 160 #[.string name] w fun v w' => v = .string (qZ name) ∧ w = w' := by
 refine jr func160 ntmps160 ?_
 refine jR O (aO (bT O (iL (aY (iV (Z (fJ O O) (fP O (bH O (fun h1 => ?_) (fun h1 => ?_)))))))))
 ·(try simp only [aA] at h1)
  refine jP O (aT (aB (dK oL O ?_)))
  refine ⟨congrArg Value.string ?_, O⟩
  unfold qZ
  repeat (first | (rw [if_pos (by assumption)]; done) | rw [if_neg (by assumption)])
 ·(try simp only [aA] at h1)
  refine iV (Z (fJ O O) (fP O (bH O (fun h2 => ?_) (fun h2 => ?_))))
  ·(try simp only [aA] at h2)
   refine jP O (aT (aB (dK oL O ?_)))
   refine ⟨congrArg Value.string ?_, O⟩
   unfold qZ
   repeat (first | (rw [if_pos (by assumption)]; done) | rw [if_neg (by assumption)])
  ·(try simp only [aA] at h2)
   refine iV (Z (fJ O O) (fP O (bH O (fun h3 => ?_) (fun h3 => ?_))))
   ·(try simp only [aA] at h3)
    refine jP O (aT (aB (dK oL O ?_)))
    refine ⟨congrArg Value.string ?_, O⟩
    unfold qZ
    repeat (first | (rw [if_pos (by assumption)]; done) | rw [if_neg (by assumption)])
   ·(try simp only [aA] at h3)
    refine iV (Z (fJ O O) (fP O (bH O (fun h4 => ?_) (fun h4 => ?_))))
    ·(try simp only [aA] at h4)
     refine jP O (aT (aB (dK oL O ?_)))
     refine ⟨congrArg Value.string ?_, O⟩
     unfold qZ
     repeat (first | (rw [if_pos (by assumption)]; done) | rw [if_neg (by assumption)])
    ·(try simp only [aA] at h4)
     refine iV (Z (fJ O O) (fP O (bH O (fun h5 => ?_) (fun h5 => ?_))))
     ·(try simp only [aA] at h5)
      refine jP O (aT (aB (dK oL O ?_)))
      refine ⟨congrArg Value.string ?_, O⟩
      unfold qZ
      repeat (first | (rw [if_pos (by assumption)]; done) | rw [if_neg (by assumption)])
     ·(try simp only [aA] at h5)
      refine iV (Z (fJ O O) (fP O (bH O (fun h6 => ?_) (fun h6 => ?_))))
      ·(try simp only [aA] at h6)
       refine jP O (aT (aB (dK oL O ?_)))
       refine ⟨congrArg Value.string ?_, O⟩
       unfold qZ
       repeat (first | (rw [if_pos (by assumption)]; done) | rw [if_neg (by assumption)])
      ·(try simp only [aA] at h6)
       refine iV (Z (fJ O O) (fP O (bH O (fun h7 => ?_) (fun h7 => ?_))))
       ·(try simp only [aA] at h7)
        refine jP O (aT (aB (dK oL O ?_)))
        refine ⟨congrArg Value.string ?_, O⟩
        unfold qZ
        repeat (first | (rw [if_pos (by assumption)]; done) | rw [if_neg (by assumption)])
       ·(try simp only [aA] at h7)
        refine iV (Z (fJ O O) (fP O (bH O (fun h8 => ?_) (fun h8 => ?_))))
        ·(try simp only [aA] at h8)
         refine jP O (aT (aB (dK oL O ?_)))
         refine ⟨congrArg Value.string ?_, O⟩
         unfold qZ
         repeat (first | (rw [if_pos (by assumption)]; done) | rw [if_neg (by assumption)])
        ·(try simp only [aA] at h8)
         refine dn (aK (aW (jP O (dK oL O ?_))))
         refine ⟨congrArg Value.string ?_, O⟩
         unfold qZ
         repeat (first | (rw [if_pos (by assumption)]; done) | rw [if_neg (by assumption)])
theorem aeX (h : keys.length = 0) : M.tgt l p keys n = (0, false, false) ∧ M.sought l p keys n = M := ⟨if_pos h, if_pos h⟩
theorem acb (h : ¬ keys.length = 0) (h1 : keys.getD 0 0 = 96) : M.tgt l p keys n = (M.at (if 1 < keys.length then keys.getD 1 0 else 0), false, decide (0 ≤ M.at (if 1 < keys.length then keys.getD 1 0 else 0) ∧ M.at (if 1 < keys.length then keys.getD 1 0 else 0) ≤ l.length)) ∧ M.sought l p keys n = M := by
  unfold VM.tgt VM.sought; rw [if_neg h, if_neg h, if_pos h1, if_pos h1]; exact ⟨rfl, rfl⟩
theorem aeY (h : ¬ keys.length = 0) (h1 : ¬ keys.getD 0 0 = 96) (h2 : keys.getD 0 0 = 59 ∨ keys.getD 0 0 = 44) : M.tgt l p keys n = (if M.fk = 0 then (0, false, false) else wY l p (if keys.getD 0 0 = 44 then bits .xor .i32 M.fk 32 else M.fk) M.fc n) ∧ M.sought l p keys n = M := by
  unfold VM.tgt VM.sought; rw [if_neg h, if_neg h, if_neg h1, if_neg h1, if_pos h2, if_pos h2]; exact ⟨rfl, rfl⟩
theorem acd (h : ¬ keys.length = 0) (h1 : ¬ keys.getD 0 0 = 96) (h2 : ¬ (keys.getD 0 0 = 59 ∨ keys.getD 0 0 = 44)) : M.tgt l p keys n = wY l p (keys.getD 0 0) (if 1 < keys.length then keys.getD 1 0 else 0) n ∧ M.sought l p keys n = (if (wY l p (keys.getD 0 0) (if 1 < keys.length then keys.getD 1 0 else 0) n).2.2 = true ∧ keys.getD 0 0 ∈ CV UW then { M with fk := keys.getD 0 0, fc := (if 1 < keys.length then keys.getD 1 0 else 0) } else M) := by
  unfold VM.tgt VM.sought; rw [if_neg h, if_neg h, if_neg h1, if_neg h1, if_neg h2, if_neg h2]; exact ⟨rfl, rfl⟩
theorem ZT (H : V w0 w (VC c m e name kv q g lv p • jW 21 .i32 lv l • pR m M • F)) (hr : jE w0 F .i32 qv keys) (hT : Ae w0) (hl9 : l.length ≤ 4611686018427387904) (hn : n ≤ 9223372036854775807) :
  iI prog 162 #[.pointer (some ⟨c, 0, none⟩), qv, .int .i64 n] w fun v w' => v = Xj (M.tgt l p keys n) ∧ V w0 w' (VC c m e name kv q g lv p • jW 21 .i32 lv l • pR m (M.sought l p keys n) • F) := by
 refine AB func162 ntmps162 ?_
 refine iV (iJ O (iJ O (vY O (bT O (Z (jy (hr _ (H.right.right.right)) aj O) (Z (dX O O) (jL O (fun h1 => ?_) (fun h1 => ?_))))))))
 ·(try simp only [aA] at h1)
  refine iV (iJ O (iJ O (fC O (aB ?_))))
  refine ji (.inl O) results162 O O O ?_
  obtain ⟨h8, h9⟩ := aeX (M := M) (l := l) (p := p) (n := n) (keys := keys) (by omega)
  exact ⟨by rw [h8]; rfl, by rw [h9]; exact H.f3.f3.f3⟩
 ·(try simp only [aA] at h1)
  refine gQ (aO ?_)
  have hk0 : ¬ keys.length = 0 := by omega
  refine aC (bP O ?_)
  obtain ⟨bqv, oqv, cqv, eqv⟩ := gJ.rG (hr _ (H.right.right.right)) (by omega)
  cases eqv
  refine Z (dP aj bV O O (by omega)) ?_
  refine Z (fG (dA bG O) O (by first | exact gJ.mZ (hr _ (H.right.right.right)) (by omega) | exact gJ.yA (hr _ (H.right.right.right)) (by omega) | exact gJ.xX (hr _ (H.right.right.right)) (by omega))) ?_
  refine iJ O (fP O ?_)
  refine lu [(0, _), (2, _), (9, _)] (fun (_ : Unit) => [(10, .int .i32 (if 1 < keys.length then keys.getD 1 0 else 0))]) (fun (_ : Unit) W => V w0 W (VC c m e name kv q g lv p • jW 21 .i32 lv l • pR m M • F)) vZ ?_ ?_
  ·rintro _ w1 HJ
   dsimp only [List.cons_append, List.nil_append]
   refine aO (bT O (iL (aY (iV (Z (dX O O) (fP O (bH O (fun h2 => ?_) (fun h2 => ?_))))))))
   ·(try simp only [aA] at h2)
    have hk1 : keys.getD 0 0 = 96 := h2
    refine bT O (dL O (bJ 0 bW O sizeOf41 O (fV iK O (HJ).get.2 O (bP O (dS O func183 (Ro HJ.f3) ?_)))))
    rintro _ w2 ⟨rfl, H2⟩
    refine vY O ?_
    have abp := H2.drew
    have pU := V.kp (abp.f3.f3.f3)
    refine y9 [8] pU O (iU 0 O pU O (iU 1 O pU O (jB 2 O pU (fun _ => mX O O) ?_)))
    refine AA 3 O O (by kernel_rfl) (by kernel_rfl) pU (kY O) (fun h3 => ?_) (fun h3 => ?_)
    ·(try simp only [aA] at h3)
     refine dV 4 O O O (by kernel_rfl) (by kernel_rfl) pU (fun _ => sO O) (kY O) ?_
     refine dV 5 O O O (by kernel_rfl) (by kernel_rfl) pU (fun _ => sO O) (kY O) ?_
     refine dV 6 O O O (by kernel_rfl) (by kernel_rfl) pU (fun _ => Qc O) (kY O) ?_
     refine dV 7 O O O (by kernel_rfl) (by kernel_rfl) pU (fun _ => F6 6 bW O O dh (by decide) O rfl) (kY O) ?_
     refine xk 8 O O O (by kernel_rfl) (by kernel_rfl) pU (by decide) (fun W hW => fG (dA aj O) O (kC ((Kp.h hW).f2).get.2 O)) (kY O) ?_
     refine dV 9 O O O (by kernel_rfl) (by kernel_rfl) pU (fun _ => jy ((abp.f3).aQ) aj O) (kY O) ?_
     refine dV 10 O O O (by kernel_rfl) (by kernel_rfl) pU (fun _ => sG O O) (kY O) ?_
     refine jB 11 O pU (fun _ => yZ O O) (jB 12 O pU (fun _ => dR O) (jB 13 O pU (fun _ => dR O) (jB 14 O pU (fun _ => dR O) (ru (aW (nO (aT (aB ?_))))))))
     refine ji (.inl O) results162 O O O ?_
     obtain ⟨e1, e2⟩ := acb (M := M) (l := l) (p := p) (n := n) hk0 hk1
     refine ⟨?_, by rw [e2]; exact abp.f3.f3⟩
     rw [e1]
     refine congrArg (fun b => Value.tuple #[.int .i64 (M.at (if 1 < keys.length then keys.getD 1 0 else 0)), .bool false, .bool b]) ?_
     first | exact decide_eq_decide.2 (by omega) | exact (decide_eq_false (by omega)).symm
    ·(try simp only [aA] at h3)
     refine y8 4 O O O O (by kernel_rfl) (by kernel_rfl) pU (kY O) ?_
     refine y8 5 O O O O (by kernel_rfl) (by kernel_rfl) pU (kY O) ?_
     refine y8 6 O O O O (by kernel_rfl) (by kernel_rfl) pU (kY O) ?_
     refine y8 7 O O O O (by kernel_rfl) (by kernel_rfl) pU (kY O) ?_
     refine y8 8 O O O O (by kernel_rfl) (by kernel_rfl) pU (kY O) ?_
     refine y8 9 O O O O (by kernel_rfl) (by kernel_rfl) pU (kY O) ?_
     refine y8 10 O O O O (by kernel_rfl) (by kernel_rfl) pU (kY O) ?_
     refine jB 11 O pU (fun _ => F5 O O) (jB 12 O pU (fun _ => dR O) (jB 13 O pU (fun _ => dR O) (jB 14 O pU (fun _ => dR O) (ru (aW (nO (aT (aB ?_))))))))
     refine ji (.inl O) results162 O O O ?_
     obtain ⟨e1, e2⟩ := acb (M := M) (l := l) (p := p) (n := n) hk0 hk1
     refine ⟨?_, by rw [e2]; exact abp.f3.f3⟩
     rw [e1]
     refine congrArg (fun b => Value.tuple #[.int .i64 (M.at (if 1 < keys.length then keys.getD 1 0 else 0)), .bool false, .bool b]) ?_
     first | exact decide_eq_decide.2 (by omega) | exact (decide_eq_false (by omega)).symm
   ·(try simp only [aA] at h2)
    have hk1 : ¬ keys.getD 0 0 = 96 := h2
    refine lu [(0, _), (2, _), (9, _), (10, _)] (fun (_ : Unit) => [(49, .bool (decide (keys.getD 0 0 = 59 ∨ keys.getD 0 0 = 44)))]) (fun (_ : Unit) W => V w0 W (VC c m e name kv q g lv p • jW 21 .i32 lv l • pR m M • F)) OB ?_ ?_
    ·rintro _ w3 HK
     dsimp only [List.cons_append, List.nil_append]
     refine bH O (fun h4 => ?_) (fun h4 => ?_)
     ·(try simp only [aA] at h4)
      refine aO ?_
      obtain ⟨Rk, Rl, Rn, zC, zK⟩ := (HK.f3).vm
      have hk2 : keys.getD 0 0 = 59 ∨ keys.getD 0 0 = 44 := by omega
      obtain ⟨e1, e2⟩ := aeY (M := M) (l := l) (p := p) (n := n) hk0 hk1 hk2
      refine aC (nK O O (bJ 0 bW O sizeOf41 O (fV iK O (zK.f5).get.2 O (dL O (bJ 1 gY O sizeOf115 O (Z (pX 1 (xs := [_, _]) nS O sizeOf115 O O (zK).get.2 O) ?_))))))
      have Ho6 := zK.f4.f4.f4.f4
      have Hc7 := V.EY (M := M) zC Ho6
      refine jV (iy (l := [_, _]) Hc7 zeroValue115 O) ?_
      rintro _ w8 ⟨b8, rfl, H8⟩
      refine aI (dw 0 (l' := [_, _]) (us := [_, _]) H8 sizeOf115 O O O (aG (aG bQ)) O O) ?_
      rintro _ w9 H9
      refine qR (iV (bJ 0 nS O bV O (fV bG O (H9).get.2 O (Z (dX O O) (jL O (fun h5 => ?_) (fun h5 => ?_))))))
      ·(try simp only [aA] at h5)
       have hf0 : M.fk = 0 := h5
       refine iV (iJ O (iJ O (fC O (aB (aT (aB ?_))))))
       refine ji (.inl O) results162 O O O ?_
       exact ⟨by rw [e1, if_pos hf0]; rfl, by rw [e2]; exact H9.right.f3.f3⟩
      ·(try simp only [aA] at h5)
       have hf0 : ¬ M.fk = 0 := h5
       refine gQ ?_
       refine lu [(0, _), (2, _), (12, _)] (fun (_ : Unit) => []) (fun (_ : Unit) W => V w0 W (dW b8 (.cells #[.int .i32 (if keys.getD 0 0 = 44 then bits .xor .i32 M.fk 32 else M.fk), .int .i32 M.fc] 115 (0, 0)) • VC c m e name kv q g lv p • jW 21 .i32 lv l • pR m M • F)) vZ ?_ ?_
       ·rintro _ w10 HN
        dsimp only [List.cons_append, List.nil_append]
        refine aO ?_
        have ZU := HN.drew
        have nU := V.kp (ZU.f4.f4.f4.f4)
        refine y9 [3, 7, 9, 11, 16] nU O (iU 0 O nU O (jY 1 O nU O (iq 2 O nU 6 bW O dh O (jQ 3 O nU (fun W hW => kF aj O ((Kp.h hW).f2).get.2 O) (iU 4 O nU O (jY 5 O nU O (iq 6 O nU 7 bW O ay O (jQ 7 O nU (fun W hW => kF aH O ((Kp.h hW).f2).get.2 O) (iq 8 O nU 0 nS O bV O (jQ 9 O nU (fun W hW => kF bG O ((Kp.h hW)).get.2 O) (iq 10 O nU 1 nS O bV O (jQ 11 O nU (fun W hW => kF bG O ((Kp.h hW)).get.2 O) (iU 12 O nU O (iU 13 O nU O (jY 14 O nU O (iq 15 O nU 5 bW O aP O (jQ 16 O nU (fun W hW => kF bZ O ((Kp.h hW).f2).get.2 O) (nD 17 O (xW O func11 (DX ZU (fun W HW => (HW.f3).aQ) hT (by omega) (by omega))) ?_))))))))))))))))))
        rintro _ FX ⟨rfl, sW⟩
        have Cm := V.kp (sW.f4.f4.f4.f4)
        refine gU Cm (by kernel_rfl) ?_
        refine jB 18 O Cm (fun _ => oh O O) (jB 19 O Cm (fun _ => oh O O) (jB 20 O Cm (fun _ => oh O O) (jB 21 O Cm (fun _ => dR O) (jB 22 O Cm (fun _ => dR O) (jB 23 O Cm (fun _ => dR O) (ru (aW (nO (aT (aB ?_))))))))))
        refine ji (.inl O) results162 O O O ?_
        exact ⟨by rw [e1, if_neg hf0]; rfl, by rw [e2]; exact sW.right.f3.f3.f3⟩
       ·skip
        refine bT O (Z (dX O O) (jL O (fun h6 => ?_) (fun h6 => ?_)))
        ·(try simp only [aA] at h6)
         refine aC (bJ 0 nS O bV O (fV bG O (H9).get.2 O ?_))
         refine Z (aa2 .xor O O (by simp)) ?_
         refine bJ 0 nS O bV O (aI (st2 0 H9 bV) ?_)
         rintro _ w12 wL
         refine bY ?_
         refine dF (()) ?_ ?_ ?_
         ·exact (Sub.nil _)
         ·exact vZ
         ·(try dsimp only)
          first | done | exact (by first | (rw [if_pos (by assumption)]; exact wL.f2.f4.f4.f4) | (rw [if_neg (by assumption)]; exact wL.f2.f4.f4.f4))
        ·(try simp only [aA] at h6)
         refine dn ?_
         refine dF (()) ?_ ?_ ?_
         ·exact (Sub.nil _)
         ·exact vZ
         ·(try dsimp only)
          first | done | exact (by first | (rw [if_pos (by assumption)]; exact H9.f2.f4.f4.f4) | (rw [if_neg (by assumption)]; exact H9.f2.f4.f4.f4))
     ·(try simp only [aA] at h4)
      refine dn (aK (aW (aO ?_)))
      have hk2 : ¬ (keys.getD 0 0 = 59 ∨ keys.getD 0 0 = 44) := by omega
      obtain ⟨e1, e2⟩ := acd (M := M) (l := l) (p := p) (n := n) hk0 hk1 hk2
      have ZV := HK.drew
      have pF := V.kp (ZV.f3.f3.f3)
      refine y9 [3, 7, 14] pF O (iU 0 O pF O (jY 1 O pF O (iq 2 O pF 6 bW O dh O (jQ 3 O pF (fun W hW => kF aj O ((Kp.h hW)).get.2 O) (iU 4 O pF O (jY 5 O pF O (iq 6 O pF 7 bW O ay O (jQ 7 O pF (fun W hW => kF aH O ((Kp.h hW)).get.2 O) (iU 8 O pF O (iU 9 O pF O (iU 10 O pF O (iU 11 O pF O (jY 12 O pF O (iq 13 O pF 5 bW O aP O (jQ 14 O pF (fun W hW => kF bZ O ((Kp.h hW)).get.2 O) (nD 15 O (xW O func11 (DX ZV (fun W HW => (HW.f2).aQ) hT (by omega) (by omega))) ?_))))))))))))))))
      rintro _ Qs ⟨rfl, xZ⟩
      have yc := V.kp (xZ.f3.f3.f3)
      refine gU yc (by kernel_rfl) ?_
      refine iU 16 O yc O (jB 17 O yc (fun _ => oh O O) (jB 18 O yc (fun _ => oh O O) (jB 19 O yc (fun _ => oh O O) (jB 20 O yc (fun _ => dR O) (jB 21 O yc (fun _ => dR O) (jB 22 O yc (fun _ => dR O) (ru (aW (aO (bT O (jJ O (fun h7 => ?_) (fun h7 => ?_))))))))))))
      ·(try simp only [aA] at h7)
       refine bg (bP O (bg (dS O func50 (Em (s := UW) (by decide)) ?_)))
       rintro _ _ ⟨rfl, rfl⟩
       refine jh O O (jL O (fun h8 => ?_) (fun h8 => ?_))
       ·(try simp only [aA] at h8)
        obtain ⟨Rk, Rl, Rn, zC, zK⟩ := (xZ.f3).vm
        refine aC (nK O O (bJ 0 bW O sizeOf41 O (fV iK O (zK.f5).get.2 O (jO O O ?_))))
        refine Z (eP (zl := [.int .i32 0, .int .i32 0]) (pl := [(0, 1), (1, 1)]) [_, _] nS zeroValue115 O (fun w => by kernel_rfl) O (.on (.on .nil)) O) ?_
        refine dL O (bJ 1 gY O sizeOf115 O (aI (dw 1 (l' := [_, _, _, _, _, _, _, _]) (us := [_, _]) zK sizeOf115 O O O (aG (aG bQ)) O O) ?_))
        rintro _ w16 uY
        have Uf := uY.f4.f4.f4.f4
        have Ug := V.EY (M := { M with fk := keys.getD 0 0, fc := (if 1 < keys.length then keys.getD 1 0 else 0) }) zC Uf
        refine rZ O (jO O O (iJ O (iJ O (fC O ?_))))
        refine ji (.inl O) results162 O O O ?_
        refine ⟨by rw [e1]; rfl, ?_⟩
        rw [e2]
        first | (rw [if_pos ⟨by assumption, by assumption⟩]; exact Ug.f3.f3) | (rw [if_neg (fun hc => absurd hc.2 (by assumption))]; exact Ug.f3.f3) | (rw [if_neg (fun hc => absurd hc.1 (by simp only [*]; decide))]; exact Ug.f3.f3)
       ·(try simp only [aA] at h8)
        refine gQ (bT O (jO O O (iJ O (iJ O (fC O ?_)))))
        refine ji (.inl O) results162 O O O ?_
        refine ⟨by rw [e1]; rfl, ?_⟩
        rw [e2]
        first | (rw [if_pos ⟨by assumption, by assumption⟩]; exact xZ.f3.f3.f3) | (rw [if_neg (fun hc => absurd hc.2 (by assumption))]; exact xZ.f3.f3.f3) | (rw [if_neg (fun hc => absurd hc.1 (by simp only [*]; decide))]; exact xZ.f3.f3.f3)
      ·(try simp only [aA] at h7)
       refine bF (bF (ig O O (iL (qH (gQ (bT O (jO O O (iJ O (iJ O (fC O ?_))))))))))
       refine ji (.inl O) results162 O O O ?_
       refine ⟨by rw [e1]; rfl, ?_⟩
       rw [e2]
       first | (rw [if_pos ⟨by assumption, by assumption⟩]; exact xZ.f3.f3.f3) | (rw [if_neg (fun hc => absurd hc.2 (by assumption))]; exact xZ.f3.f3.f3) | (rw [if_neg (fun hc => absurd hc.1 (by simp only [*]; decide))]; exact xZ.f3.f3.f3)
    ·skip
     refine iV (Z (dX O O) (fP O (bH O (fun h9 => ?_) (fun h9 => ?_))))
     ·(try simp only [aA] at h9)
      refine dn ?_
      refine dF (()) ?_ ?_ ?_
      ·exact (Sub.jG O (congrArg Value.bool (decide_eq_decide.2 (by omega))) (Sub.nil _))
      ·exact OB
      ·(try dsimp only)
       first | done | exact HJ.f3.f3.f3
     ·(try simp only [aA] at h9)
      refine aC (Z (dX O O) (iJ O (bY ?_)))
      refine dF (()) ?_ ?_ ?_
      ·exact (Sub.jG O (congrArg Value.bool (decide_eq_decide.2 (by omega))) (Sub.nil _))
      ·exact OB
      ·(try dsimp only)
       first | done | exact HJ.f3.f3.f3
  ·skip
   refine bT O (Z (jc aj O) (Z (dY O O) (jL O (fun h10 => ?_) (fun h10 => ?_))))
   ·(try simp only [aA] at h10)
    refine aC (bP O (Z (dP aj bV O O (by omega)) ?_))
    refine Z (fG (dA bG O) O (by first | exact gJ.mZ (hr _ (H.right.right.right)) (by omega) | exact gJ.yA (hr _ (H.right.right.right)) (by omega) | exact gJ.xX (hr _ (H.right.right.right)) (by omega))) ?_
    refine iJ O (bY ?_)
    refine dF (()) ?_ ?_ ?_
    ·exact (Sub.jG O (by first | (rw [if_pos (by omega)]; rfl) | rw [if_neg (by omega)]) (Sub.nil _))
    ·exact vZ
    ·(try dsimp only)
     first | done | exact H.f3.f3.f3
   ·(try simp only [aA] at h10)
    refine dn ?_
    refine dF (()) ?_ ?_ ?_
    ·exact (Sub.jG O (by first | (rw [if_pos (by omega)]; rfl) | rw [if_neg (by omega)]) (Sub.nil _))
    ·exact vZ
    ·(try dsimp only)
     first | done | exact H.f3.f3.f3
end
theorem sN {a b : ByteArray} (h : a.data.toList ≠ b.data.toList) : ¬ a.toList = b.toList := by rw [ByteArray.toList_eq, ByteArray.toList_eq]; exact h
theorem UY : qZ uI = ⟨#[]⟩ := by
  unfold qZ
  rw [if_neg (sN (by decide)), if_neg (sN (by decide)), if_neg (sN (by decide)), if_neg (sN (by decide)), if_neg (sN (by decide)), if_neg (sN (by decide)), if_neg (sN (by decide)), if_neg (sN (by decide))]
theorem V6 {w0 w : World} {F : HP} {e : Nat} {s : bC} (H : V w0 w (fF e s • F)) : s.c.L.length ≤ 1024 ∧ (0 ≤ s.c.pt ∧ s.c.pt ≤ s.c.L.length) := by
  obtain ⟨pb, pr, pw, pt, pm, ph, bl, pv, es, u0, u1, u2, u3, u4, u5, u6, u7, u8, u9, ua, h, _, _, H2⟩ := H.Ii
  obtain ⟨a, c, xs, f, t, h1, h2, h3, h4, h5, h6, h7, _⟩ := H2.f2.buf
  exact ⟨h4, h6⟩
namespace bC
variable (s : bC)
def UZ (M : VM) (keys : List Int) (n : Int) : Int := if (M.tgt s.c.L s.c.pt keys n).2.2 = true then s.Dy (M.tgt s.c.L s.c.pt keys n).1 else 6
def U0 (M : VM) (keys : List Int) (n : Int) : bC := if (M.tgt s.c.L s.c.pt keys n).2.2 = true then s.qK (M.tgt s.c.L s.c.pt keys n).1 else s
end bC
section
variable {w0 : World} {s : bC} {keys : List Int} {n : Int} {g : Bool} {M : VM}
theorem XE (hT : Ae w0) (hn : n ≤ 9223372036854775807) : abd w0 uI keys n g s M fun x t M' => x = s.UZ M keys n ∧ t = s.U0 M keys n ∧ M' = M.sought s.c.L s.c.pt keys n := by
 intro F w c m e kv lv H hk
 have hln := (V6 H.f4).1
 refine jr func124 ntmps124 ?_
 refine jR O (aO (bT O (dL O (bJ 2 bW O oK O (fV kM O (H).get.2 O (dS O func160 (Jd) ?_))))))
 rintro _ _ ⟨rfl, rfl⟩
 refine fP O (bT O (Z (Hu O O) (jJ O (fun h => by exfalso; (try simp only [aA] at h); exact h (by rw [UY])) (fun h1 => ?_))))
 (try simp only [aA] at h1)
 refine bF (bF (bF (bF (bF (bF (bF (bF (bF (ig O O (iL (qH (gQ (aO (bT O (dL O (bJ 2 bW O oK O (fV kM O (H).get.2 O (iL (aY (iV (Z (fJ O O) (fP O (bH O (fun h => by exfalso; (try simp only [aA] at h); exact absurd h (sN (by decide))) (fun h2 => ?_))))))))))))))))))))))))
 (try simp only [aA] at h2)
 refine iV (Z (fJ O O) (fP O (bH O (fun h3 => ?_) (fun h => by exfalso; (try simp only [aA] at h); exact h O))))
 (try simp only [aA] at h3)
 refine aO ?_
 have aeZ := H.drew
 have Fa := V.kp (aeZ.f4.f4.f4.f4)
 refine y9 [4, 8] Fa O (iU 0 O Fa O (iU 1 O Fa O (jY 2 O Fa O (iq 3 O Fa 3 bW O dh O (jQ 4 O Fa (fun W hW => kF aj O ((Kp.h hW)).get.2 O) (iU 5 O Fa O (jY 6 O Fa O (iq 7 O Fa 4 bW O ay O (jQ 8 O Fa (fun W hW => kF aH O ((Kp.h hW)).get.2 O) (nD 9 O (xW O func162 (ZT aeZ.f3.f3.f3 (fun W HW => hk _ (HW.right)) hT (by omega) (by omega))) ?_))))))))))
 rintro _ w2 ⟨rfl, H2⟩
 have Am := V.kp (H2.f4.f4.f4.f4)
 refine gU Am (by kernel_rfl) ?_
 refine iU 10 O Am O (jB 11 O Am (fun _ => oh O O) (jB 12 O Am (fun _ => oh O O) (jB 13 O Am (fun _ => oh O O) (jB 14 O Am (fun _ => dR O) (jB 15 O Am (fun _ => dR O) (jB 16 O Am (fun _ => dR O) (ru (aW (aO (bT O (Z (lC O) (jL O (fun h4 => ?_) (fun h4 => ?_)))))))))))))
 ·(try simp only [aA] at h4)
  have hok : ¬ (M.tgt s.c.L s.c.pt keys n).2.2 = true := by have h9 := h4; simpa using h9
  refine jP O (aB (aT (aB (dK results124 O ?_))))
  exact ⟨_, _, _, ⟨by unfold bC.UZ; rw [if_neg hok], by unfold bC.U0; rw [if_neg hok], O⟩, O, H2.f4.f4.f4.f4⟩
 ·(try simp only [aA] at h4)
  have hok : (M.tgt s.c.L s.c.pt keys n).2.2 = true := by have h9 := h4; simpa using h9
  refine gQ (bT O (dL O (bJ 1 bW O sizeOf37 O (fV kJ O (H2).get.2 O (bP O (dS O func30 (DU H2.f4) ?_))))))
  rintro _ w3 ⟨rfl, H3⟩
  refine fC O (aT (aB (dK results124 O ?_)))
  exact ⟨_, _, _, ⟨by unfold bC.UZ; rw [if_pos hok], by unfold bC.U0; rw [if_pos hok], O⟩, O, H3.f4.f4.f4⟩
end
namespace bC
variable (s : bC)
def XF (i j : Int) : Int := if i = j then 6 else if s.EN i j false = 0 then (s.uF i j false).Dy i else s.EN i j false
def XG (i j : Int) : bC := if i = j then s else if s.EN i j false = 0 then (s.uF i j false).qK i else s.uF i j false
def vdA (keys : List Int) (n : Int) : Int := if keys.getD 0 0 = 88 then s.c.pt - min n s.c.pt else s.c.pt
def vdB (keys : List Int) (n : Int) : Int := if keys.getD 0 0 = 88 then s.c.pt else s.c.pt + min n (s.c.L.length - s.c.pt)
def GV (keys : List Int) (n : Int) : Int := if keys.getD 0 0 ∈ CV ⟨#[120, 88]⟩ then s.XF (s.vdA keys n) (s.vdB keys n) else 6
def GX (keys : List Int) (n : Int) : bC := if keys.getD 0 0 ∈ CV ⟨#[120, 88]⟩ then s.XG (s.vdA keys n) (s.vdB keys n) else s
end bC
section
variable {w0 w : World} {F : HP} {c m e : Nat} {s : bC} {name : ByteArray} {kv lv : Value} {n p i j q : Int} {g : Bool}
theorem abq (H : V w0 w (VC c m e name kv q g lv p • fF e s • F)) : iI prog 164 #[.pointer (some ⟨c, 0, none⟩), .int .i64 i, .int .i64 j] w fun v w' => v = .int .i64 (s.XF i j) ∧ V w0 w' (VC c m e name kv q g lv p • fF e (s.XG i j) • F) := by
  refine AB func164 ntmps164 ?_
  refine jR O (aO (bT O (bP O (Z (dX O O) (jL O (fun h1 => ?_) (fun h1 => ?_))))))
  · (try simp only [aA] at h1)
    have hij := h1
    refine jP O (aB (dK results164 O ?_))
    exact ⟨by unfold bC.XF; rw [if_pos hij], by unfold bC.XG; rw [if_pos hij]; exact H.f2.f2⟩
  · (try simp only [aA] at h1)
    have hij : ¬ i = j := h1
    refine gQ (aO (bT O (dL O (bJ 1 bW O sizeOf37 O (fV kJ O (H).get.2 O (jO O O (dS O func186 (Rw H.f2) ?_)))))))
    rintro _ w1 ⟨rfl, H1⟩
    refine fP O (bT O (Z (iM O O) (jL O (fun h2 => ?_) (fun h2 => ?_))))
    · (try simp only [aA] at h2)
      have hke : ¬ s.EN i j false = 0 := h2
      refine bT O (fC O (aB (dK results164 O ?_)))
      exact ⟨by unfold bC.XF; rw [if_neg hij, if_neg hke], by unfold bC.XG; rw [if_neg hij, if_neg hke]; exact H1.f2⟩
    · (try simp only [aA] at h2)
      have hke : s.EN i j false = 0 := by have h9 := h2; omega
      refine gQ (bT O (dL O (bJ 1 bW O sizeOf37 O (fV kJ O (H1.f2).get.2 O (bP O (dS O func30 (DU H1) ?_))))))
      rintro _ w2 ⟨rfl, H2⟩
      refine fC O (dK results164 O ?_)
      exact ⟨by unfold bC.XF; rw [if_neg hij, if_pos hke], by unfold bC.XG; rw [if_neg hij, if_pos hke]; exact H2.f2⟩
end
theorem BR : qZ EX = ⟨#[120, 88]⟩ := by
  unfold qZ
  rw [if_neg (sN (by decide)), if_neg (sN (by decide)), if_neg (sN (by decide)), if_pos rfl]
section
variable {w0 : World} {s : bC} {keys : List Int} {n : Int} {g : Bool} {M : VM}
theorem ZW (hk1 : 1 ≤ keys.length) (hn : 1 ≤ n ∧ n ≤ 1000000) : abd w0 EX keys n g s M fun x t M' => x = s.GV keys n ∧ t = s.GX keys n ∧ M' = M := by
 intro F w c m e kv lv H hk
 obtain ⟨hln, hpt⟩ := V6 H.f4
 refine jr func124 ntmps124 ?_
 refine jR O (aO (bT O (dL O (bJ 2 bW O oK O (fV kM O (H).get.2 O (dS O func160 (Jd) ?_))))))
 rintro _ _ ⟨rfl, rfl⟩
 refine fP O (bT O (Z (Hu O O) (jJ O (fun h1 => ?_) (fun h => by exfalso; (try simp only [aA] at h); exact absurd h (by rw [BR]; exact sN (by decide))))))
 (try simp only [aA] at h1)
 refine bg (bP O (bg (dL O (bg (bJ 3 bW O dh O (bg (fV aj O (H).get.2 O (bg ?_))))))))
 obtain ⟨bkv, okv, ckv, ekv⟩ := gJ.rG (hk _ (H.right.right.right.right)) (by omega)
 cases ekv
 refine Z (dP aj bV O O (by omega)) (bg ?_)
 refine Z (fG (dA bG O) O (by first | exact gJ.mZ (hk _ (H.right.right.right.right)) (by omega) | exact gJ.yA (hk _ (H.right.right.right.right)) (by omega) | exact gJ.xX (hk _ (H.right.right.right.right)) (by omega))) ?_
 refine bg (bP O (bg (dS O func50 (Em (by rw [BR]; decide)) ?_)))
 rintro _ _ ⟨rfl, rfl⟩
 refine bg (Z (lC O) (jh O O (jL O (fun h2 => ?_) (fun h2 => ?_))))
 ·(try simp only [aA] at h2)
  have hin : ¬ keys.getD 0 0 ∈ CV ⟨#[120, 88]⟩ := by have h9 := h2; rw [BR] at h9; exact h9
  refine jP O (aB (dK results124 O ?_))
  exact ⟨_, _, _, ⟨by unfold bC.GV; rw [if_neg hin], by unfold bC.GX; rw [if_neg hin], O⟩, O, H.f4.f4.f4.f4⟩
 ·(try simp only [aA] at h2)
  have hin : keys.getD 0 0 ∈ CV ⟨#[120, 88]⟩ := by have h9 := h2; rw [BR] at h9; exact h9
  refine gQ (aO (bT O (dL O (bJ 2 bW O oK O (fV kM O (H).get.2 O (iL (aY (iV (Z (fJ O O) (fP O (bH O (fun h => by exfalso; (try simp only [aA] at h); exact absurd h (sN (by decide))) (fun h3 => ?_))))))))))))
  (try simp only [aA] at h3)
  refine iV (Z (fJ O O) (fP O (bH O (fun h => by exfalso; (try simp only [aA] at h); exact absurd h (sN (by decide))) (fun h4 => ?_))))
  (try simp only [aA] at h4)
  refine aO (iV (Z (fJ O O) (fP O (bH O (fun h => by exfalso; (try simp only [aA] at h); exact absurd h (sN (by decide))) (fun h5 => ?_)))))
  (try simp only [aA] at h5)
  refine iV (Z (fJ O O) (fP O (bH O (fun h => by exfalso; (try simp only [aA] at h); exact absurd h (sN (by decide))) (fun h6 => ?_))))
  (try simp only [aA] at h6)
  refine aC (Z (fJ O O) (fP O (bH O (fun h => by exfalso; (try simp only [aA] at h); exact absurd h (sN (by decide))) (fun h7 => ?_))))
  (try simp only [aA] at h7)
  refine iV (Z (fJ O O) (fP O (bH O (fun h8 => ?_) (fun h => by exfalso; (try simp only [aA] at h); exact h O))))
  (try simp only [aA] at h8)
  refine aO ?_
  have Je := H.drew
  have lH := V.kp (Je.f4.f4.f4.f4)
  refine y9 [3, 7, 11, 15, 20] lH O (iU 0 O lH O (jY 1 O lH O (iq 2 O lH 7 bW O ay O (jQ 3 O lH (fun W hW => kF aH O ((Kp.h hW)).get.2 O) (iU 4 O lH O (jY 5 O lH O (iq 6 O lH 7 bW O ay O (jQ 7 O lH (fun W hW => kF aH O ((Kp.h hW)).get.2 O) (iU 8 O lH O (jY 9 O lH O (iq 10 O lH 4 bW O ay O (jQ 11 O lH (fun W hW => kF aH O ((Kp.h hW)).get.2 O) (iU 12 O lH O (jY 13 O lH O (iq 14 O lH 6 bW O dh O (jQ 15 O lH (fun W hW => kF aj O ((Kp.h hW)).get.2 O) (jB 16 O lH (fun _ => jy ((Je.f2).aQ) aj O) (iU 17 O lH O (jY 18 O lH O (iq 19 O lH 7 bW O ay O (jQ 20 O lH (fun W hW => kF aH O ((Kp.h hW)).get.2 O) (jB 21 O lH (fun _ => iZ O O (by omega)) (jB 22 O lH (fun _ => Cb O O) (jB 23 O lH (fun _ => fO O O (by omega)) (jB 24 O lH (fun _ => dR O) (jB 25 O lH (fun _ => dR O) (ru (aW ?_))))))))))))))))))))))))))))
  refine lu [(0, _)] (fun (_ : Unit) => [(7, .int .i64 (s.vdA keys n)), (8, .int .i64 (s.vdB keys n))]) (fun (_ : Unit) W => V w0 W (VC c m e EX (.slice (some ⟨bkv, okv, none⟩) (keys.length) ckv) n g lv s.c.pt • jW 21 .i32 lv s.c.L • pR m M • fF e s • F)) mG ?_ ?_
  ·rintro _ w3 HJ
   dsimp only [List.cons_append, List.nil_append]
   refine bT O (jO O O (dS O func164 (abq HJ.f4.f2) ?_))
   rintro _ w4 ⟨rfl, H4⟩
   refine fC O (aT (aB (dK results124 O ?_)))
   exact ⟨_, _, _, ⟨by unfold bC.GV; rw [if_pos hin], by unfold bC.GX; rw [if_pos hin], O⟩, O, H4.f2.f4.f4.f4⟩
  ·skip
   refine bT O (dL O (bJ 3 bW O dh O (fV aj O (Je).get.2 O (Z (dP aj bV O O (by omega)) ?_))))
   refine Z (fG (dA bG O) O (by first | exact gJ.mZ (hk _ (Je.right.right.right.right)) (by omega) | exact gJ.yA (hk _ (Je.right.right.right.right)) (by omega) | exact gJ.xX (hk _ (Je.right.right.right.right)) (by omega))) ?_
   refine Z (dX O O) (jL O (fun h9 => ?_) (fun h9 => ?_))
   ·(try simp only [aA] at h9)
    have ace := Je.drew
    have oZ := V.kp (ace.f4.f4.f4.f4)
    refine y9 [3, 7, 11, 17] oZ O (iU 0 O oZ O (jY 1 O oZ O (iq 2 O oZ 7 bW O ay O (jQ 3 O oZ (fun W hW => kF aH O ((Kp.h hW)).get.2 O) (iU 4 O oZ O (jY 5 O oZ O (iq 6 O oZ 4 bW O ay O (jQ 7 O oZ (fun W hW => kF aH O ((Kp.h hW)).get.2 O) (iU 8 O oZ O (jY 9 O oZ O (iq 10 O oZ 7 bW O ay O (jQ 11 O oZ (fun W hW => kF aH O ((Kp.h hW)).get.2 O) (jB 12 O oZ (fun _ => Cb O O) (jB 13 O oZ (fun _ => iZ O O (by omega)) (iU 14 O oZ O (jY 15 O oZ O (iq 16 O oZ 7 bW O ay O (jQ 17 O oZ (fun W hW => kF aH O ((Kp.h hW)).get.2 O) (jB 18 O oZ (fun _ => dR O) (jB 19 O oZ (fun _ => dR O) (ru ?_)))))))))))))))))))))
    refine dF (()) ?_ ?_ ?_
    ·exact (Sub.jG O (by unfold bC.vdA; by_cases hz : keys.getD 0 0 = 88 <;> simp_all) (Sub.jG O (by unfold bC.vdB; by_cases hz : keys.getD 0 0 = 88 <;> simp_all) (Sub.nil _)))
    ·exact mG
    ·(try dsimp only)
     first | done | exact ace.f4.f4.f4.f4
   ·(try simp only [aA] at h9)
    refine dn ?_
    refine dF (()) ?_ ?_ ?_
    ·exact (Sub.jG O (by unfold bC.vdA; by_cases hz : keys.getD 0 0 = 88 <;> simp_all) (Sub.jG O (by unfold bC.vdB; by_cases hz : keys.getD 0 0 = 88 <;> simp_all) (Sub.nil _)))
    ·exact mG
    ·(try dsimp only)
     first | done | exact Je.f4.f4.f4.f4
end
end Go.Proofs.YtpdeedplgmbopaaGreatDoor
end
