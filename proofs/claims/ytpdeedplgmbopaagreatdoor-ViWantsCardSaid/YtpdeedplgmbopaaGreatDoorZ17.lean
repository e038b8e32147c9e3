import Derived.Test.YtpdeedplgmbopaaGreatDoorZ4
import Derived.Test.YtpdeedplgmbopaaGreatDoorZ16
import Derived.Test.YtpdeedplgmbopaaGreatDoorZ9
import Derived.Test.YtpdeedplgmbopaaGreatDoorZ11
import Derived.Test.YtpdeedplgmbopaaGreatDoorZ8
import Derived.Test.YtpdeedplgmbopaaGreatDoorZ7
import Derived.Test.YtpdeedplgmbopaaGreatDoorZ6
set_option linter.unusedSimpArgs false
set_option linter.unusedVariables false
/- Texts of mine, joined, their names in short: VGo2 VT VO VMove RLs Ref7. -/
section
namespace Go.Proofs.YtpdeedplgmbopaaGreatDoor
open Go.RowKit
open _root_.Go.Proofs.Tryz
def oH (k : Nat) : Value := .func (.func k) #[] #[]
def ES (q1 q2 q3 q4 q5 q6 : MP) : HP := ni q6 (oH 97) true true (oH 94) • ni q5 (oH 97) false true (oH 94) • ni q4 (oH 96) true false (oH 93) • ni q3 (oH 96) false false (oH 93) • ni q2 (oH 95) true false (oH 92) • ni q1 (oH 95) false false (oH 92)
def Ag (q1 q2 q3 q4 q5 q6 : MP) : Int → Option Value := upd (upd (upd (upd (upd (upd (fun _ => none) 119 (N8 q1)) 87 (N8 q2)) 98 (N8 q3)) 66 (N8 q4)) 101 (N8 q5)) 69 (N8 q6)
section
variable {w0 w : World} {F : HP} {v sv mv : Value} {l : List Int} {x n key : Int} {b t : Bool} {q1 q2 q3 q4 q5 q6 : MP}
theorem Em {k1 k2 : Nat} (H : V w0 w F) : qY prog (oH 88) [oH k1, .bool b, .bool t, oH k2] w fun u w' => ∃ p, u = N8 p ∧ V w0 w' (ni p (oH k1) b t (oH k2) • F) := by
  refine ⟨_, [], [], _, _, O, func88, O, O, ?_⟩
  simp only [List.nil_append, List.append_nil]
  refine aa9 func88 ntmps88 ?_
  refine iy (jy (iO (l := [_]) H O O) ?_)
  rintro _ w1 ⟨b1, rfl, H1⟩
  refine jy (iO (l := [_]) H1 O O) ?_
  rintro _ w2 ⟨b2, rfl, H2⟩
  refine jy (iO (l := [_]) H2 O O) ?_
  rintro _ w3 ⟨b3, rfl, H3⟩
  refine jy (iO (l := [_]) H3 O O) ?_
  rintro _ w4 ⟨b4, rfl, H4⟩
  refine gB O (iy (Z (vU O O) (fF O (dG results88 O ?_))))
  exact ⟨⟨_, _, _, _⟩, O, (H4).of_eq (by unfold ni; simp only [bZ])⟩
theorem qY.mono {P : Program} {fv : Value} {vs : List Value} {w : World} {T T' : Value → World → Prop} (h : qY P fv vs w T) (k : ∀ v w', T v w' → T' v w') : qY P fv vs w T' := by
  obtain ⟨f, a, c, fn, b, h1, h2, h3, h4, h5⟩ := h
  exact ⟨f, a, c, fn, b, h1, h2, h3, h4, h5.mono k⟩
theorem Qq (H : V w0 w F) : gQ prog 39 #[] w fun u w' => ∃ b q1 q2 q3 q4 q5 q6, u = .map (some b) ∧ V w0 w' (fJ (wC .i32) b (Ag q1 q2 q3 q4 q5 q6) • ES q1 q2 q3 q4 q5 q6 • F) := by
  refine OW func39 ntmps39 ?_
  refine jk O (jk O (jk O (jk O (jk O (iy (jy (jJ (wC .i32) H) ?_))))))
  rintro _ w1 ⟨b1, rfl, H1⟩
  refine jF O O (jy (nN O O (Em (k1 := 95) (k2 := 92) H1)) ?_)
  rintro _ w2 ⟨q1, rfl, H2⟩
  refine aK (yC H2.f2 ny bf O O O) ?_
  rintro _ w3 H3
  refine jF O O (jy (nN O O (Em (k1 := 95) (k2 := 92) H3)) ?_)
  rintro _ w4 ⟨q2, rfl, H4⟩
  refine aK (yC H4.f2 ny bf O O O) ?_
  rintro _ w5 H5
  refine jF O O (jy (nN O O (Em (k1 := 96) (k2 := 93) H5)) ?_)
  rintro _ w6 ⟨q3, rfl, H6⟩
  refine aK (yC H6.f2 ny bf O O O) ?_
  rintro _ w7 H7
  refine jF O O (jy (nN O O (Em (k1 := 96) (k2 := 93) H7)) ?_)
  rintro _ w8 ⟨q4, rfl, H8⟩
  refine aK (yC H8.f2 ny bf O O O) ?_
  rintro _ w9 H9
  refine jF O O (jy (nN O O (Em (k1 := 97) (k2 := 94) H9)) ?_)
  rintro _ w10 ⟨q5, rfl, ql⟩
  refine aK (yC ql.f2 ny bf O O O) ?_
  rintro _ EI rE
  refine jF O O (jy (nN O O (Em (k1 := 97) (k2 := 94) rE)) ?_)
  rintro _ w12 ⟨q6, rfl, uG⟩
  refine aK (yC uG.f2 ny bf O O O) ?_
  rintro _ Pn wZ
  refine bQ O (fF O (dG results39 O ?_))
  exact ⟨_, q1, q2, q3, q4, q5, q6, O, (wZ).of_eq (by unfold ES; simp only [bZ]; rfl)⟩
theorem N9 (h : ¬ (key = 119 ∨ key = 87 ∨ key = 98 ∨ key = 66 ∨ key = 101 ∨ key = 69)) : Ag q1 q2 q3 q4 q5 q6 key = none := by
  unfold Ag upd
  rw [if_neg (by omega), if_neg (by omega), if_neg (by omega), if_neg (by omega), if_neg (by omega), if_neg (by omega)]
theorem Oa (h : key = 119 ∨ key = 87 ∨ key = 98 ∨ key = 66 ∨ key = 101 ∨ key = 69) : (Ag q1 q2 q3 q4 q5 q6 key).isSome = true := by
  rcases h with rfl | rfl | rfl | rfl | rfl | rfl <;> rfl
theorem Ob (H : V w0 w (ES q1 q2 q3 q4 q5 q6 • F)) (hk : key = 119 ∨ key = 87 ∨ key = 98 ∨ key = 66 ∨ key = 101 ∨ key = 69) (hT : yK w0) (hr : jM w0 F .i32 v l) (hl : l.length ≤ 4611686018427387904) (hx : inL l x) (hn : n ≤ 9223372036854775807) (z : Value) :
    qY prog ((Ag q1 q2 q3 q4 q5 q6 key).getD z) [v, .int .i64 x, .int .i64 n] w fun u w' => u = SX (wF l x key n) ∧ V w0 w' (ES q1 q2 q3 q4 q5 q6 • F) := by
  unfold ES at H ⊢
  have hI1 : ∀ y, decide (y < (l.length : Int) - 1) = true → inL l y → acr l y := fun y h1 h2 => ⟨h2.1, by have := of_decide_eq_true h1; omega⟩
  rcases hk with rfl | rfl | rfl | rfl | rfl | rfl
  · refine qY.mono (yG (p := q1) (F := ni q6 (oH 97) true true (oH 94) • ni q5 (oH 97) false true (oH 94) • ni q4 (oH 96) true false (oH 93) • ni q3 (oH 96) false false (oH 93) • ni q2 (oH 95) true false (oH 92) • F) (H.of_eq (by ac_rfl)) (JQ hT) Ie (fun y h1 h2 => h2) (fun W HW => hr W HW.right.right.right.right.right) hl hx hn) fun u W h => ⟨h.1.trans (by unfold wF; simp), h.2.of_eq (by ac_rfl)⟩
  · refine qY.mono (yG (p := q2) (F := ni q6 (oH 97) true true (oH 94) • ni q5 (oH 97) false true (oH 94) • ni q4 (oH 96) true false (oH 93) • ni q3 (oH 96) false false (oH 93) • ni q1 (oH 95) false false (oH 92) • F) (H.of_eq (by ac_rfl)) (JQ hT) Ie (fun y h1 h2 => h2) (fun W HW => hr W HW.right.right.right.right.right) hl hx hn) fun u W h => ⟨h.1.trans (by unfold wF; simp), h.2.of_eq (by ac_rfl)⟩
  · refine qY.mono (yG (p := q3) (F := ni q6 (oH 97) true true (oH 94) • ni q5 (oH 97) false true (oH 94) • ni q4 (oH 96) true false (oH 93) • ni q2 (oH 95) true false (oH 92) • ni q1 (oH 95) false false (oH 92) • F) (H.of_eq (by ac_rfl)) (JR hT) JU (fun y h1 h2 => h2) (fun W HW => hr W HW.right.right.right.right.right) hl hx hn) fun u W h => ⟨h.1.trans (by unfold wF; simp), h.2.of_eq (by ac_rfl)⟩
  · refine qY.mono (yG (p := q4) (F := ni q6 (oH 97) true true (oH 94) • ni q5 (oH 97) false true (oH 94) • ni q3 (oH 96) false false (oH 93) • ni q2 (oH 95) true false (oH 92) • ni q1 (oH 95) false false (oH 92) • F) (H.of_eq (by ac_rfl)) (JR hT) JU (fun y h1 h2 => h2) (fun W HW => hr W HW.right.right.right.right.right) hl hx hn) fun u W h => ⟨h.1.trans (by unfold wF; simp), h.2.of_eq (by ac_rfl)⟩
  · refine qY.mono (yG (p := q5) (F := ni q6 (oH 97) true true (oH 94) • ni q4 (oH 96) true false (oH 93) • ni q3 (oH 96) false false (oH 93) • ni q2 (oH 95) true false (oH 92) • ni q1 (oH 95) false false (oH 92) • F) (H.of_eq (by ac_rfl)) (step_end hT) Ig (fun y h1 h2 => hI1 y h1 h2) (fun W HW => hr W HW.right.right.right.right.right) hl hx hn) fun u W h => ⟨h.1.trans (by unfold wF; simp), h.2.of_eq (by ac_rfl)⟩
  · refine qY.mono (yG (p := q6) (F := ni q5 (oH 97) false true (oH 94) • ni q4 (oH 96) true false (oH 93) • ni q3 (oH 96) false false (oH 93) • ni q2 (oH 95) true false (oH 92) • ni q1 (oH 95) false false (oH 92) • F) (H.of_eq (by ac_rfl)) (step_end hT) Ig (fun y h1 h2 => hI1 y h1 h2) (fun W HW => hr W HW.right.right.right.right.right) hl hx hn) fun u W h => ⟨h.1.trans (by unfold wF; simp), h.2.of_eq (by ac_rfl)⟩
end
section
variable {w0 w : World} {F : HP} {v fv : Value} {l : List Int} {x n key c r : Int} {P : Int → Bool} {given : Bool}
theorem Qr (H : V w0 w F) (hr : jM w0 F .i32 v l) (hf : ∀ W r, V w0 W F → qY prog fv [.int .i32 r] W fun u W' => u = .bool (!P r) ∧ V w0 W' F) : gQ prog 40 #[v, fv] w fun u w' => u = .int .i64 (if jY P l 0 < l.length then jY P l 0 else -1) ∧ V w0 w' F := by
 have Ug : l.length ≤ 9223372036854775807 := by have := (hr _ H).open; obtain ⟨a, c, e, h3, h4, _⟩ := this; omega
 refine nH func40 ntmps40 ?_
 refine jk O (aO (bT O (Z (iF (hr _ (H)) ay O) (bQ O (iK (aZ ?_))))))
 refine fC [(0, _), (1, _), (7, _)] (fun (i : Int) => [(8, .int .i64 i)]) (fun (i : Int) W => ((0 ≤ i ∧ i ≤ l.length) ∧ jY P l i = jY P l 0) ∧ V w0 W F) (fun (i : Int) => (l.length - i).toNat) (0) uF kD ⟨⟨by omega, O⟩, H⟩ ?_
 rintro i w1 ⟨⟨hi, hE⟩, HL⟩
 dsimp only [List.cons_append, List.nil_append]
 refine iy (Z (gZ O O) (pJ (bG O (fun h1 => ?_) (fun h1 => ?_))))
 ·(try simp only [aF] at h1)
  refine fV (aO (aZ (bT O (gB O (bT O (jF O O ?_))))))
  obtain ⟨bv, ov, cv, ev⟩ := eX.nX (hr _ (HL)) (by omega)
  cases ev
  refine Z (dw ay bK O O (by omega)) ?_
  refine Z (dR (bV bf O) O (by first | exact eX.jT (hr _ (HL)) (by omega) | exact eX.rP (hr _ (HL)) (by omega) | exact eX.rO (hr _ (HL)) (by omega))) ?_
  refine jy (nN O O (hf _ (l.getD i.toNat 0) HL)) ?_
  rintro _ w2 ⟨rfl, H2⟩
  refine iV O (fun h2 => ?_) (fun h2 => ?_)
  ·(try simp only [aF] at h2)
   have hP : ¬ P (l.getD i.toNat 0) = true := by have h9 := h2; simpa using h9
   refine bT O (fF O (aS (aG (aG (aS (aG (dG results40 O ?_)))))))
   exact ⟨by rw [← hE, kU hi.1 (by omega) hP, if_pos (by omega)], H2⟩
  ·(try simp only [aF] at h2)
   have hP : P (l.getD i.toNat 0) = true := by have h9 := h2; simpa using h9
   refine bU (aJ (aW (aB (Z (fK O O (by omega)) (bQ O (bP ?_))))))
   refine dH (i + 1) ?_ ?_ ?_ ?_
   ·exact kD
   ·exact uF
   ·(try dsimp only)
    first | done | exact ⟨⟨by omega, (qy hi.1 (by omega) hP).symm.trans hE⟩, H2⟩
   ·(try dsimp only); omega
 ·(try simp only [aF] at h1)
  refine dn (aI (aI (aY (aW (jd O (dG results40 O ?_))))))
  exact ⟨by rw [← hE, jr (by omega), if_neg (by omega)], HL⟩
theorem Qs (H : V w0 w F) (hT : yK w0) : gQ prog 41 #[.int .i32 r] w fun u w' => u = .bool (!(eU r == 0)) ∧ V w0 w' F := by
  refine iC func41 ntmps41 ?_
  refine jk O (bT O (eG O func14 (oh H hT) ?_))
  rintro _ w1 ⟨rfl, H1⟩
  refine Z (iZ O O) (fF O (dG results41 O ?_))
  exact ⟨O, H1⟩
theorem WB (h : key = 119 ∨ key = 87 ∨ key = 98 ∨ key = 66 ∨ key = 101 ∨ key = 69) : kV l x key c n = wF l x key n := by
  unfold kV
  rw [if_neg (by omega), if_neg (by omega), if_neg (by omega), if_neg (by omega), if_neg (by omega), if_neg (by omega), if_neg (by omega), if_neg (by omega)]
theorem Yv (h : ¬ (key = 119 ∨ key = 87 ∨ key = 98 ∨ key = 66 ∨ key = 101 ∨ key = 69)) : wF l x key n = (0, false, false) := by
  unfold wF
  rw [if_neg (by omega), if_neg (by omega), if_neg (by omega)]
theorem Ah (H : V w0 w F) (hr : jM w0 F .i32 v l) (hT : yK w0) (hl8 : l.length ≤ 4611686018427387904) (hn : n ≤ 9223372036854775807) : gQ prog 11 #[v, .int .i64 x, .int .i32 key, .int .i32 c, .int .i64 n, .bool given] w fun u w' => u = SX (vw l x key c n) ∧ V w0 w' F := by
 obtain ⟨y, hy⟩ : ∃ y, y = min (max x 0) (l.length : Int) := ⟨_, rfl⟩
 obtain ⟨m, hm⟩ : ∃ m, m = max n 1 := ⟨_, rfl⟩
 unfold vw
 rw [← hy, ← hm]
 have hy2 : 0 ≤ y ∧ y ≤ l.length := by omega
 have hm2 : 1 ≤ m ∧ m ≤ 9223372036854775807 := by omega
 refine Uc func11 ntmps11 ?_
 dsimp only [vP, Nat.reduceAdd]
 refine iy (fU O (fU O (gB O (bT O (Z (Um O O) (bQ O (Z (iF (hr _ (H)) ay O) (Z (DY (zC O O) (congrArg (Value.int .i64) hy.symm)) (gB O (bT O (Z (DY (Um O O) (congrArg (Value.int .i64) hm.symm)) (vZ O (iy (eG O func39 (Qq H) ?_))))))))))))))
 rintro _ w1 ⟨b1, q1, q2, q3, q4, q5, q6, rfl, H1⟩
 refine bQ O (Z (zV (H1) ny bf zeroValue85 O O) (bQ O (uD O O (uD O O (fU O (gB O (bT O (iV O (fun h1 => ?_) (fun h1 => ?_)))))))))
 ·(try simp only [aF] at h1)
  try (exfalso; first | contradiction | omega)
  all_goals
   have hk : key = 119 ∨ key = 87 ∨ key = 98 ∨ key = 66 ∨ key = 101 ∨ key = 69 := Decidable.byContradiction fun hc => by have h9 := h1; rw [N9 hc] at h9; exact absurd h9 (by decide)
   refine bT O (jF O O (bQ O (jy (nN O O (Ob H1.f2 hk hT (fun W HW => hr W HW.right) hl8 hy2 hm2.2 _)) ?_)))
   rintro _ w2 ⟨rfl, H2⟩
   refine uD O O (uD O O (uD O O (fU O (fU O (fF O (aG ?_))))))
   refine gY (.inl O) lq O O O ?_
   exact ⟨by rw [WB hk]; rfl, H2.right.right⟩
 ·(try simp only [aF] at h1)
  try (exfalso; first | contradiction | omega)
  all_goals
   have hk : ¬ (key = 119 ∨ key = 87 ∨ key = 98 ∨ key = 66 ∨ key = 101 ∨ key = 69) := fun hc => by have h9 := h1; rw [Oa hc] at h9; exact absurd h9 (by decide)
   refine fV (aO (bT O (iK (aZ (iy (Z (dO O O) (gB O (bG O (fun h2 => ?_) (fun h2 => ?_)))))))))
   ·(try simp only [aF] at h2)
    try (exfalso; first | contradiction | omega)
    all_goals
     refine aO (bT O (Z (dO O O) (iV O (fun h3 => ?_) (fun h3 => ?_))))
     ·(try simp only [aF] at h3)
      try (exfalso; first | contradiction | omega)
      all_goals
       refine iy (fU O (fU O (fF O (aG (aS (aG ?_))))))
       refine gY (.inl O) lq O O O ?_
       exact ⟨by unfold kV; rw [if_pos (by omega), if_pos (by omega)]; rfl, H1.right.right⟩
     ·(try simp only [aF] at h3)
      try (exfalso; first | contradiction | omega)
      all_goals
       refine fV (bT O (jF O O (Z (zC O O) (Z (lu O O (by omega)) (fU O (fU O (fF O (aS (aG ?_)))))))))
       refine gY (.inl O) lq O O O ?_
       exact ⟨by unfold kV; rw [if_pos (by omega), if_neg (by omega)]; rfl, H1.right.right⟩
   ·(try simp only [aF] at h2)
    try (exfalso; first | contradiction | omega)
    all_goals
     refine jW [(0, _), (1, _), (2, _), (3, _), (4, _), (40, _)] (fun (_ : Unit) => [(50, .bool (decide (key = 108 ∨ key = 32)))]) (fun (_ : Unit) W => V w0 W (fJ (wC .i32) b1 (Ag q1 q2 q3 q4 q5 q6) • ES q1 q2 q3 q4 q5 q6 • F)) Ud ?_ ?_
     ·rintro _ w3 HJ
      dsimp only [List.cons_append, List.nil_append]
      refine bG O (fun h4 => ?_) (fun h4 => ?_)
      ·(try simp only [aF] at h4)
       try (exfalso; first | contradiction | omega)
       all_goals
        refine aO (bT O (bQ O (Z (iF (hr _ (HJ.right.right)) ay O) (Z (dO O O) (iV O (fun h5 => ?_) (fun h5 => ?_))))))
        ·(try simp only [aF] at h5)
         try (exfalso; first | contradiction | omega)
         all_goals
          refine iy (fU O (fU O (fF O (aG (aS (aG ?_))))))
          refine gY (.inl O) lq O O O ?_
          exact ⟨by unfold kV; rw [if_neg (by omega), if_pos (by omega), if_pos (by omega)]; rfl, HJ.right.right⟩
        ·(try simp only [aF] at h5)
         try (exfalso; first | contradiction | omega)
         all_goals
          refine fV (bT O (jF O O (Z (iF (hr _ (HJ.right.right)) ay O) (bQ O (Z (lu O O (by omega)) (Z (zC O O) (Z (fK O O (by omega)) (fU O (fU O (fF O (aS (aG ?_))))))))))))
          refine gY (.inl O) lq O O O ?_
          exact ⟨by unfold kV; rw [if_neg (by omega), if_pos (by omega), if_neg (by omega)]; rfl, HJ.right.right⟩
      ·(try simp only [aF] at h4)
       try (exfalso; first | contradiction | omega)
       all_goals
        refine iy (Z (dO O O) (gB O (bG O (fun h6 => ?_) (fun h6 => ?_))))
        ·(try simp only [aF] at h6)
         try (exfalso; first | contradiction | omega)
         all_goals
          refine iy (fU O (fU O (fF O (aS (aG ?_)))))
          refine gY (.inl O) lq O O O ?_
          exact ⟨by unfold kV; rw [if_neg (by omega), if_neg (by omega), if_pos (by omega)]; rfl, HJ.right.right⟩
        ·(try simp only [aF] at h6)
         try (exfalso; first | contradiction | omega)
         all_goals
          refine iy (Z (dO O O) (gB O (bG O (fun h7 => ?_) (fun h7 => ?_))))
          ·(try simp only [aF] at h7)
           try (exfalso; first | contradiction | omega)
           all_goals
            refine bT O (Z (iF (hr _ (HJ.right.right)) ay O) (fU O (fU O (fF O (aS (aG ?_))))))
            refine gY (.inl O) lq O O O ?_
            exact ⟨by unfold kV; rw [if_neg (by omega), if_neg (by omega), if_neg (by omega), if_pos (by omega)]; rfl, HJ.right.right⟩
          ·(try simp only [aF] at h7)
           try (exfalso; first | contradiction | omega)
           all_goals
            refine iy (Z (dO O O) (gB O (bG O (fun h8 => ?_) (fun h8 => ?_))))
            ·(try simp only [aF] at h8)
             try (exfalso; first | contradiction | omega)
             all_goals
              refine bT O (Z (lu O O (by omega)) (bQ O (Z (iF (hr _ (HJ.right.right)) ay O) (Z (zC O O) (fU O (fU O (fF O (aS (aG ?_)))))))))
              refine gY (.inl O) lq O O O ?_
              exact ⟨by unfold kV; rw [if_neg (by omega), if_neg (by omega), if_neg (by omega), if_neg (by omega), if_neg (by omega), if_pos (by omega)]; rfl, HJ.right.right⟩
            ·(try simp only [aF] at h8)
             try (exfalso; first | contradiction | omega)
             all_goals
              refine iy (Z (dO O O) (gB O (bG O (fun h9 => ?_) (fun h9 => ?_))))
              ·(try simp only [aF] at h9)
               try (exfalso; first | contradiction | omega)
               all_goals
                refine bT O (eG O func40 (Qr (P := fun r => eU r == 0) HJ (fun W HW => hr _ (HW.right.right)) (fun W r HW => ⟨41, [], [], _, _, O, func41, O, O, Qs HW hT⟩)) ?_)
                rintro _ w4 ⟨rfl, H4⟩
                have hrb := qJ (P := fun r => eU r == 0) (l := l) (x := 0) (by omega) (by omega)
                refine gB O ?_
                refine jW [] (fun (_ : Unit) => [(17, .int .i64 (jY (fun r => eU r == 0) l 0))]) (fun (_ : Unit) W => V w0 W (fJ (wC .i32) b1 (Ag q1 q2 q3 q4 q5 q6) • ES q1 q2 q3 q4 q5 q6 • F)) (Sub.nil _) ?_ ?_
                ·rintro _ w5 HN
                 dsimp only [List.cons_append, List.nil_append]
                 refine bT O (fU O (fU O (fF O (aS (aG ?_)))))
                 refine gY (.inl O) lq O O O ?_
                 exact ⟨by unfold kV; rw [if_neg (by omega), if_neg (by omega), if_neg (by omega), if_neg (by omega), if_pos (by omega)]; rfl, HN.right.right⟩
                ·skip
                 refine bT O (Z (gZ O O) (iV O (fun h10 => ?_) (fun h10 => ?_)))
                 ·(try simp only [aF] at h10)
                  try (exfalso; first | contradiction | omega)
                  all_goals
                   refine aB (bQ O (Z (iF (hr _ (H4.right.right)) ay O) (fU O (bP ?_))))
                   refine cO (()) ?_ ?_ ?_
                   ·exact (Sub.iY O (by congr 1; by_cases hq : jY (fun r => eU r == 0) l 0 < l.length <;> simp_all <;> omega) (Sub.nil _))
                   ·exact (Sub.nil _)
                   ·(try dsimp only)
                    first | done | exact H4.f2.f2
                 ·(try simp only [aF] at h10)
                  try (exfalso; first | contradiction | omega)
                  all_goals
                   refine bU ?_
                   refine cO (()) ?_ ?_ ?_
                   ·exact (Sub.iY O (by congr 1; by_cases hq : jY (fun r => eU r == 0) l 0 < l.length <;> simp_all <;> omega) (Sub.nil _))
                   ·exact (Sub.nil _)
                   ·(try dsimp only)
                    first | done | exact H4.f2.f2
              ·(try simp only [aF] at h9)
               try (exfalso; first | contradiction | omega)
               all_goals
                refine jW [(0, _), (1, _), (2, _), (3, _), (4, _), (40, _)] (fun (_ : Unit) => [(87, .bool (decide (key = 102 ∨ key = 70 ∨ key = 116 ∨ key = 84)))]) (fun (_ : Unit) W => V w0 W (fJ (wC .i32) b1 (Ag q1 q2 q3 q4 q5 q6) • ES q1 q2 q3 q4 q5 q6 • F)) Ud ?_ ?_
                ·rintro _ w6 HK
                 dsimp only [List.cons_append, List.nil_append]
                 refine bG O (fun h11 => ?_) (fun h11 => ?_)
                 ·(try simp only [aF] at h11)
                  try (exfalso; first | contradiction | omega)
                  all_goals
                   refine bT O (jF O O (jF O O (eG O func42 (PV HK (fun W HW => hr _ (HW.right.right)) (by omega) (by omega) (by omega) (by omega)) ?_)))
                   rintro _ w7 ⟨rfl, H7⟩
                   refine uD O O (uD O O (uD O O (fU O (fU O (fF O (aS (aG ?_)))))))
                   refine gY (.inl O) lq O O O ?_
                   exact ⟨by unfold kV; rw [if_neg (by omega), if_neg (by omega), if_neg (by omega), if_neg (by omega), if_neg (by omega), if_neg (by omega), if_pos (by omega)]; rfl, H7.right.right⟩
                 ·(try simp only [aF] at h11)
                  try (exfalso; first | contradiction | omega)
                  all_goals
                   refine iy (Z (dO O O) (gB O (bG O (fun h12 => ?_) (fun h12 => ?_))))
                   ·(try simp only [aF] at h12)
                    try (exfalso; first | contradiction | omega)
                    all_goals
                     refine bT O (bQ O (eG O func43 (Lp HK (fun W HW => hr _ (HW.right.right)) (by omega) (by omega)) ?_))
                     rintro _ w8 ⟨rfl, H8⟩
                     refine uD O O (uD O O (uD O O (fU O (fU O (fF O (aS (aG ?_)))))))
                     refine gY (.inl O) lq O O O ?_
                     exact ⟨by unfold kV; rw [if_neg (by omega), if_neg (by omega), if_neg (by omega), if_neg (by omega), if_neg (by omega), if_neg (by omega), if_neg (by omega), if_pos (by omega)]; rfl, H8.right.right⟩
                   ·(try simp only [aF] at h12)
                    try (exfalso; first | contradiction | omega)
                    all_goals
                     refine bU (aJ (aW (iy (fU O (fU O (fF O ?_))))))
                     refine gY (.inl O) lq O O O ?_
                     exact ⟨by unfold kV; rw [if_neg (by omega), if_neg (by omega), if_neg (by omega), if_neg (by omega), if_neg (by omega), if_neg (by omega), if_neg (by omega), if_neg (by omega), Yv hk]; rfl, HK.right.right⟩
                ·skip
                 refine iy (Z (dO O O) (gB O (bG O (fun h13 => ?_) (fun h13 => ?_))))
                 ·(try simp only [aF] at h13)
                  try (exfalso; first | contradiction | omega)
                  all_goals
                   refine bU ?_
                   refine cO (()) ?_ ?_ ?_
                   ·exact (Sub.iY O (congrArg Value.bool (decide_eq_decide.2 (by omega))) (Sub.nil _))
                   ·exact Ud
                   ·(try dsimp only)
                    first | done | exact HJ.f2.f2
                 ·(try simp only [aF] at h13)
                  try (exfalso; first | contradiction | omega)
                  all_goals
                   refine iy (Z (dO O O) (gB O (bG O (fun h14 => ?_) (fun h14 => ?_))))
                   ·(try simp only [aF] at h14)
                    try (exfalso; first | contradiction | omega)
                    all_goals
                     refine bU ?_
                     refine cO (()) ?_ ?_ ?_
                     ·exact (Sub.iY O (congrArg Value.bool (decide_eq_decide.2 (by omega))) (Sub.nil _))
                     ·exact Ud
                     ·(try dsimp only)
                      first | done | exact HJ.f2.f2
                   ·(try simp only [aF] at h14)
                    try (exfalso; first | contradiction | omega)
                    all_goals
                     refine iy (Z (dO O O) (gB O (bG O (fun h15 => ?_) (fun h15 => ?_))))
                     ·(try simp only [aF] at h15)
                      try (exfalso; first | contradiction | omega)
                      all_goals
                       refine bU ?_
                       refine cO (()) ?_ ?_ ?_
                       ·exact (Sub.iY O (congrArg Value.bool (decide_eq_decide.2 (by omega))) (Sub.nil _))
                       ·exact Ud
                       ·(try dsimp only)
                        first | done | exact HJ.f2.f2
                     ·(try simp only [aF] at h15)
                      try (exfalso; first | contradiction | omega)
                      all_goals
                       refine aB (Z (dO O O) (fU O (bP ?_)))
                       refine cO (()) ?_ ?_ ?_
                       ·exact (Sub.iY O (congrArg Value.bool (decide_eq_decide.2 (by omega))) (Sub.nil _))
                       ·exact Ud
                       ·(try dsimp only)
                        first | done | exact HJ.f2.f2
     ·skip
      refine iy (Z (dO O O) (gB O (bG O (fun h16 => ?_) (fun h16 => ?_))))
      ·(try simp only [aF] at h16)
       try (exfalso; first | contradiction | omega)
       all_goals
        refine bU ?_
        refine cO (()) ?_ ?_ ?_
        ·exact (Sub.iY O (congrArg Value.bool (decide_eq_decide.2 (by omega))) (Sub.nil _))
        ·exact Ud
        ·(try dsimp only)
         first | done | exact H1.f2.f2
      ·(try simp only [aF] at h16)
       try (exfalso; first | contradiction | omega)
       all_goals
        refine aB (Z (dO O O) (fU O (bP ?_)))
        refine cO (()) ?_ ?_ ?_
        ·exact (Sub.iY O (congrArg Value.bool (decide_eq_decide.2 (by omega))) (Sub.nil _))
        ·exact Ud
        ·(try dsimp only)
         first | done | exact H1.f2.f2
end
def Qu : ByteArray := ⟨#[102, 70, 116, 84]⟩
def qG (n : ByteArray) : ByteArray :=
  if n.toList = xu.toList then ⟨#[100, 68]⟩ else if n.toList = zZ.toList then ⟨#[99, 67]⟩ else if n.toList = BX.toList then ⟨#[121, 89]⟩ else if n.toList = VD.toList then ⟨#[120, 88]⟩ else
  if n.toList = VH.toList then ⟨#[115, 83]⟩ else if n.toList = VG.toList then ⟨#[112, 80]⟩ else if n.toList = VE.toList then ⟨#[105, 97, 73, 65]⟩ else if n.toList = VI.toList then ⟨#[117, 85]⟩ else ⟨#[]⟩
namespace VM
variable (M : VM)
def tgt (l : List Int) (p : Int) (keys : List Int) (n : Int) : Int × Bool × Bool :=
  if keys.length = 0 then (0, false, false)
  else if keys.getD 0 0 = 96 then (M.at (if 1 < keys.length then keys.getD 1 0 else 0), false, decide (0 ≤ M.at (if 1 < keys.length then keys.getD 1 0 else 0) ∧ M.at (if 1 < keys.length then keys.getD 1 0 else 0) ≤ l.length))
  else if keys.getD 0 0 = 59 ∨ keys.getD 0 0 = 44 then (if M.fk = 0 then (0, false, false) else vw l p (if keys.getD 0 0 = 44 then bits .xor .i32 M.fk 32 else M.fk) M.fc n)
  else vw l p (keys.getD 0 0) (if 1 < keys.length then keys.getD 1 0 else 0) n
def sought (l : List Int) (p : Int) (keys : List Int) (n : Int) : VM :=
  if keys.length = 0 then M else if keys.getD 0 0 = 96 then M else if keys.getD 0 0 = 59 ∨ keys.getD 0 0 = 44 then M
  else if (vw l p (keys.getD 0 0) (if 1 < keys.length then keys.getD 1 0 else 0) n).2.2 = true ∧ keys.getD 0 0 ∈ wS Qu then { M with fk := keys.getD 0 0, fc := if 1 < keys.length then keys.getD 1 0 else 0 } else M
end VM
section
variable {w0 w : World} {F : HP} {c m e : Nat} {s : dJ} {name : ByteArray} {kv lv qv : Value} {keys l ks : List Int} {n p x q : Int} {g : Bool} {M M' : VM}
theorem Oc : gQ prog 160 #[.string name] w fun v w' => v = .string (qG name) ∧ w = w' := by
 refine iC func160 ntmps160 ?_
 refine jk O (aO (bT O (iK (aZ (iy (Z (eF O O) (gB O (bG O (fun h1 => ?_) (fun h1 => ?_)))))))))
 ·(try simp only [aF] at h1)
  refine jd O (aS (aG (dG mX O ?_)))
  refine ⟨congrArg Value.string ?_, O⟩
  unfold qG
  repeat (first | (rw [if_pos (by assumption)]; done) | rw [if_neg (by assumption)])
 ·(try simp only [aF] at h1)
  refine iy (Z (eF O O) (gB O (bG O (fun h2 => ?_) (fun h2 => ?_))))
  ·(try simp only [aF] at h2)
   refine jd O (aS (aG (dG mX O ?_)))
   refine ⟨congrArg Value.string ?_, O⟩
   unfold qG
   repeat (first | (rw [if_pos (by assumption)]; done) | rw [if_neg (by assumption)])
  ·(try simp only [aF] at h2)
   refine iy (Z (eF O O) (gB O (bG O (fun h3 => ?_) (fun h3 => ?_))))
   ·(try simp only [aF] at h3)
    refine jd O (aS (aG (dG mX O ?_)))
    refine ⟨congrArg Value.string ?_, O⟩
    unfold qG
    repeat (first | (rw [if_pos (by assumption)]; done) | rw [if_neg (by assumption)])
   ·(try simp only [aF] at h3)
    refine iy (Z (eF O O) (gB O (bG O (fun h4 => ?_) (fun h4 => ?_))))
    ·(try simp only [aF] at h4)
     refine jd O (aS (aG (dG mX O ?_)))
     refine ⟨congrArg Value.string ?_, O⟩
     unfold qG
     repeat (first | (rw [if_pos (by assumption)]; done) | rw [if_neg (by assumption)])
    ·(try simp only [aF] at h4)
     refine iy (Z (eF O O) (gB O (bG O (fun h5 => ?_) (fun h5 => ?_))))
     ·(try simp only [aF] at h5)
      refine jd O (aS (aG (dG mX O ?_)))
      refine ⟨congrArg Value.string ?_, O⟩
      unfold qG
      repeat (first | (rw [if_pos (by assumption)]; done) | rw [if_neg (by assumption)])
     ·(try simp only [aF] at h5)
      refine iy (Z (eF O O) (gB O (bG O (fun h6 => ?_) (fun h6 => ?_))))
      ·(try simp only [aF] at h6)
       refine jd O (aS (aG (dG mX O ?_)))
       refine ⟨congrArg Value.string ?_, O⟩
       unfold qG
       repeat (first | (rw [if_pos (by assumption)]; done) | rw [if_neg (by assumption)])
      ·(try simp only [aF] at h6)
       refine iy (Z (eF O O) (gB O (bG O (fun h7 => ?_) (fun h7 => ?_))))
       ·(try simp only [aF] at h7)
        refine jd O (aS (aG (dG mX O ?_)))
        refine ⟨congrArg Value.string ?_, O⟩
        unfold qG
        repeat (first | (rw [if_pos (by assumption)]; done) | rw [if_neg (by assumption)])
       ·(try simp only [aF] at h7)
        refine iy (Z (eF O O) (gB O (bG O (fun h8 => ?_) (fun h8 => ?_))))
        ·(try simp only [aF] at h8)
         refine jd O (aS (aG (dG mX O ?_)))
         refine ⟨congrArg Value.string ?_, O⟩
         unfold qG
         repeat (first | (rw [if_pos (by assumption)]; done) | rw [if_neg (by assumption)])
        ·(try simp only [aF] at h8)
         refine bU (aJ (aW (jd O (dG mX O ?_))))
         refine ⟨congrArg Value.string ?_, O⟩
         unfold qG
         repeat (first | (rw [if_pos (by assumption)]; done) | rw [if_neg (by assumption)])
theorem acs (h : keys.length = 0) : M.tgt l p keys n = (0, false, false) ∧ M.sought l p keys n = M := ⟨if_pos h, if_pos h⟩
theorem Zq (h : ¬ keys.length = 0) (h1 : keys.getD 0 0 = 96) : M.tgt l p keys n = (M.at (if 1 < keys.length then keys.getD 1 0 else 0), false, decide (0 ≤ M.at (if 1 < keys.length then keys.getD 1 0 else 0) ∧ M.at (if 1 < keys.length then keys.getD 1 0 else 0) ≤ l.length)) ∧ M.sought l p keys n = M := by
  unfold VM.tgt VM.sought; rw [if_neg h, if_neg h, if_pos h1, if_pos h1]; exact ⟨rfl, rfl⟩
theorem acu (h : ¬ keys.length = 0) (h1 : ¬ keys.getD 0 0 = 96) (h2 : keys.getD 0 0 = 59 ∨ keys.getD 0 0 = 44) : M.tgt l p keys n = (if M.fk = 0 then (0, false, false) else vw l p (if keys.getD 0 0 = 44 then bits .xor .i32 M.fk 32 else M.fk) M.fc n) ∧ M.sought l p keys n = M := by
  unfold VM.tgt VM.sought; rw [if_neg h, if_neg h, if_neg h1, if_neg h1, if_pos h2, if_pos h2]; exact ⟨rfl, rfl⟩
theorem acv (h : ¬ keys.length = 0) (h1 : ¬ keys.getD 0 0 = 96) (h2 : ¬ (keys.getD 0 0 = 59 ∨ keys.getD 0 0 = 44)) : M.tgt l p keys n = vw l p (keys.getD 0 0) (if 1 < keys.length then keys.getD 1 0 else 0) n ∧ M.sought l p keys n = (if (vw l p (keys.getD 0 0) (if 1 < keys.length then keys.getD 1 0 else 0) n).2.2 = true ∧ keys.getD 0 0 ∈ wS Qu then { M with fk := keys.getD 0 0, fc := (if 1 < keys.length then keys.getD 1 0 else 0) } else M) := by
  unfold VM.tgt VM.sought; rw [if_neg h, if_neg h, if_neg h1, if_neg h1, if_neg h2, if_neg h2]; exact ⟨rfl, rfl⟩
theorem WE (H : V w0 w (VC c m e name kv q g lv p • kT 21 .i32 lv l • oZ m M • F)) (hr : jM w0 F .i32 qv keys) (hT : yK w0) (Ug : l.length ≤ 4611686018427387904) (hn : n ≤ 9223372036854775807) :
  gQ prog 162 #[.pointer (some ⟨c, 0, none⟩), qv, .int .i64 n] w fun v w' => v = SX (M.tgt l p keys n) ∧ V w0 w' (VC c m e name kv q g lv p • kT 21 .i32 lv l • oZ m (M.sought l p keys n) • F) := by
 refine FY func162 ntmps162 ?_
 refine iy (fU O (fU O (vZ O (bT O (Z (iF (hr _ (H.right.right.right)) ay O) (Z (dO O O) (iV O (fun h1 => ?_) (fun h1 => ?_))))))))
 ·(try simp only [aF] at h1)
  refine iy (fU O (fU O (fF O (aG ?_))))
  refine gY (.inl O) results162 O O O ?_
  obtain ⟨h8, h9⟩ := acs (M := M) (l := l) (p := p) (n := n) (keys := keys) (by omega)
  exact ⟨by rw [h8]; rfl, by rw [h9]; exact H.f3.f3.f3⟩
 ·(try simp only [aF] at h1)
  refine fV (aO ?_)
  have hk0 : ¬ keys.length = 0 := by omega
  refine aB (bQ O ?_)
  obtain ⟨bqv, oqv, cqv, eqv⟩ := eX.nX (hr _ (H.right.right.right)) (by omega)
  cases eqv
  refine Z (dw ay bK O O (by omega)) ?_
  refine Z (dR (bV bf O) O (by first | exact eX.jT (hr _ (H.right.right.right)) (by omega) | exact eX.rP (hr _ (H.right.right.right)) (by omega) | exact eX.rO (hr _ (H.right.right.right)) (by omega))) ?_
  refine fU O (gB O ?_)
  refine jW [(0, _), (2, _), (9, _)] (fun (_ : Unit) => [(10, .int .i32 (if 1 < keys.length then keys.getD 1 0 else 0))]) (fun (_ : Unit) W => V w0 W (VC c m e name kv q g lv p • kT 21 .i32 lv l • oZ m M • F)) uF ?_ ?_
  ·rintro _ w1 HJ
   dsimp only [List.cons_append, List.nil_append]
   refine aO (bT O (iK (aZ (iy (Z (dO O O) (gB O (bG O (fun h2 => ?_) (fun h2 => ?_))))))))
   ·(try simp only [aF] at h2)
    have hk1 : keys.getD 0 0 = 96 := h2
    refine bT O (dL O (bF 0 dD O sizeOf41 O (gq underlying41 O (HJ).get.2 O (bQ O (eG O func183 (Nz HJ.f3) ?_)))))
    rintro _ w2 ⟨rfl, H2⟩
    refine vZ O ?_
    have Yw := H2.drew
    have nU := V.kp (Yw.f3.f3.f3)
    refine yj [8] nU O (jE 0 O nU O (jE 1 O nU O (jC 2 O nU (fun _ => lJ O O) ?_)))
    refine FU 3 O O (by kernel_rfl) (by kernel_rfl) nU (mg O) (fun h3 => ?_) (fun h3 => ?_)
    ·(try simp only [aF] at h3)
     refine jB 4 O O O (by kernel_rfl) (by kernel_rfl) nU (fun _ => BJ O) (mg O) ?_
     refine jB 5 O O O (by kernel_rfl) (by kernel_rfl) nU (fun _ => BJ O) (mg O) ?_
     refine jB 6 O O O (by kernel_rfl) (by kernel_rfl) nU (fun _ => LP O) (mg O) ?_
     refine jB 7 O O O (by kernel_rfl) (by kernel_rfl) nU (fun _ => CP 6 dD O O dN (by decide) O rfl) (mg O) ?_
     refine zG 8 O O O (by kernel_rfl) (by kernel_rfl) nU (by decide) (fun W hW => dR (bV ay O) O (ji ((Kp.h hW).f2).get.2 O)) (mg O) ?_
     refine jB 9 O O O (by kernel_rfl) (by kernel_rfl) nU (fun _ => iF ((Yw.f3).aT) ay O) (mg O) ?_
     refine jB 10 O O O (by kernel_rfl) (by kernel_rfl) nU (fun _ => oP O O) (mg O) ?_
     refine jC 11 O nU (fun _ => CJ O O) (jC 12 O nU (fun _ => dQ O) (jC 13 O nU (fun _ => dQ O) (jC 14 O nU (fun _ => dQ O) (qR (aW (mG (aS (aG ?_))))))))
     refine gY (.inl O) results162 O O O ?_
     obtain ⟨e1, e2⟩ := Zq (M := M) (l := l) (p := p) (n := n) hk0 hk1
     refine ⟨?_, by rw [e2]; exact Yw.f3.f3⟩
     rw [e1]
     refine congrArg (fun b => Value.tuple #[.int .i64 (M.at (if 1 < keys.length then keys.getD 1 0 else 0)), .bool false, .bool b]) ?_
     first | exact decide_eq_decide.2 (by omega) | exact (decide_eq_false (by omega)).symm
    ·(try simp only [aF] at h3)
     refine vX 4 O O O O (by kernel_rfl) (by kernel_rfl) nU (mg O) ?_
     refine vX 5 O O O O (by kernel_rfl) (by kernel_rfl) nU (mg O) ?_
     refine vX 6 O O O O (by kernel_rfl) (by kernel_rfl) nU (mg O) ?_
     refine vX 7 O O O O (by kernel_rfl) (by kernel_rfl) nU (mg O) ?_
     refine vX 8 O O O O (by kernel_rfl) (by kernel_rfl) nU (mg O) ?_
     refine vX 9 O O O O (by kernel_rfl) (by kernel_rfl) nU (mg O) ?_
     refine vX 10 O O O O (by kernel_rfl) (by kernel_rfl) nU (mg O) ?_
     refine jC 11 O nU (fun _ => CO O O) (jC 12 O nU (fun _ => dQ O) (jC 13 O nU (fun _ => dQ O) (jC 14 O nU (fun _ => dQ O) (qR (aW (mG (aS (aG ?_))))))))
     refine gY (.inl O) results162 O O O ?_
     obtain ⟨e1, e2⟩ := Zq (M := M) (l := l) (p := p) (n := n) hk0 hk1
     refine ⟨?_, by rw [e2]; exact Yw.f3.f3⟩
     rw [e1]
     refine congrArg (fun b => Value.tuple #[.int .i64 (M.at (if 1 < keys.length then keys.getD 1 0 else 0)), .bool false, .bool b]) ?_
     first | exact decide_eq_decide.2 (by omega) | exact (decide_eq_false (by omega)).symm
   ·(try simp only [aF] at h2)
    have hk1 : ¬ keys.getD 0 0 = 96 := h2
    refine jW [(0, _), (2, _), (9, _), (10, _)] (fun (_ : Unit) => [(49, .bool (decide (keys.getD 0 0 = 59 ∨ keys.getD 0 0 = 44)))]) (fun (_ : Unit) W => V w0 W (VC c m e name kv q g lv p • kT 21 .i32 lv l • oZ m M • F)) Kq ?_ ?_
    ·rintro _ w3 HK
     dsimp only [List.cons_append, List.nil_append]
     refine bG O (fun h4 => ?_) (fun h4 => ?_)
     ·(try simp only [aF] at h4)
      refine aO ?_
      obtain ⟨Nv, Nw, Ny, wI, wU⟩ := (HK.f3).vm
      have hk2 : keys.getD 0 0 = 59 ∨ keys.getD 0 0 = 44 := by omega
      obtain ⟨e1, e2⟩ := acu (M := M) (l := l) (p := p) (n := n) hk0 hk1 hk2
      refine aB (nG O O (bF 0 dD O sizeOf41 O (gq underlying41 O (wU.f5).get.2 O (dL O (bF 1 fH O sizeOf115 O (Z (nY 1 (xs := [_, _]) lV O sizeOf115 O O (wU).get.2 O) ?_))))))
      have XU := wU.f4.f4.f4.f4
      have XV := V.Bz (M := M) wI XU
      refine jy (fM (l := [_, _]) XV zeroValue115 O) ?_
      rintro _ w8 ⟨b8, rfl, H8⟩
      refine aK (bW 0 (l' := [_, _]) (us := [_, _]) H8 sizeOf115 O O O (aA (aA bD)) O O) ?_
      rintro _ w9 H9
      refine pJ (iy (bF 0 lV O bK O (gq bf O (H9).get.2 O (Z (dO O O) (iV O (fun h5 => ?_) (fun h5 => ?_))))))
      ·(try simp only [aF] at h5)
       have hf0 : M.fk = 0 := h5
       refine iy (fU O (fU O (fF O (aG (aS (aG ?_))))))
       refine gY (.inl O) results162 O O O ?_
       exact ⟨by rw [e1, if_pos hf0]; rfl, by rw [e2]; exact H9.right.f3.f3⟩
      ·(try simp only [aF] at h5)
       have hf0 : ¬ M.fk = 0 := h5
       refine fV ?_
       refine jW [(0, _), (2, _), (12, _)] (fun (_ : Unit) => []) (fun (_ : Unit) W => V w0 W (dM b8 (.cells #[.int .i32 (if keys.getD 0 0 = 44 then bits .xor .i32 M.fk 32 else M.fk), .int .i32 M.fc] 115 (0, 0)) • VC c m e name kv q g lv p • kT 21 .i32 lv l • oZ m M • F)) uF ?_ ?_
       ·rintro _ w10 HN
        dsimp only [List.cons_append, List.nil_append]
        refine aO ?_
        have WG := HN.drew
        have lY := V.kp (WG.f4.f4.f4.f4)
        refine yj [3, 7, 9, 11, 16] lY O (jE 0 O lY O (kJ 1 O lY O (gU 2 O lY 6 dD O dN O (jQ 3 O lY (fun W hW => kC ay O ((Kp.h hW).f2).get.2 O) (jE 4 O lY O (kJ 5 O lY O (gU 6 O lY 7 dD O aj O (jQ 7 O lY (fun W hW => kC aN O ((Kp.h hW).f2).get.2 O) (gU 8 O lY 0 lV O bK O (jQ 9 O lY (fun W hW => kC bf O ((Kp.h hW)).get.2 O) (gU 10 O lY 1 lV O bK O (jQ 11 O lY (fun W hW => kC bf O ((Kp.h hW)).get.2 O) (jE 12 O lY O (jE 13 O lY O (kJ 14 O lY O (gU 15 O lY 5 dD O aQ O (jQ 16 O lY (fun W hW => kC bM O ((Kp.h hW).f2).get.2 O) (oC 17 O (yJ O func11 (Ah WG (fun W HW => (HW.f3).aT) hT (by omega) (by omega))) ?_))))))))))))))))))
        rintro _ EI ⟨rfl, rE⟩
        have zh := V.kp (rE.f4.f4.f4.f4)
        refine gV zh (by kernel_rfl) ?_
        refine jC 18 O zh (fun _ => mM O O) (jC 19 O zh (fun _ => mM O O) (jC 20 O zh (fun _ => mM O O) (jC 21 O zh (fun _ => dQ O) (jC 22 O zh (fun _ => dQ O) (jC 23 O zh (fun _ => dQ O) (qR (aW (mG (aS (aG ?_))))))))))
        refine gY (.inl O) results162 O O O ?_
        exact ⟨by rw [e1, if_neg hf0]; rfl, by rw [e2]; exact rE.right.f3.f3.f3⟩
       ·skip
        refine bT O (Z (dO O O) (iV O (fun h6 => ?_) (fun h6 => ?_)))
        ·(try simp only [aF] at h6)
         refine aB (bF 0 lV O bK O (gq bf O (H9).get.2 O ?_))
         refine Z (X5 .xor O O (by simp)) ?_
         refine bF 0 lV O bK O (aK (st2 0 H9 bK) ?_)
         rintro _ w12 uG
         refine bP ?_
         refine cO (()) ?_ ?_ ?_
         ·exact (Sub.nil _)
         ·exact uF
         ·(try dsimp only)
          first | done | exact (by first | (rw [if_pos (by assumption)]; exact uG.f2.f4.f4.f4) | (rw [if_neg (by assumption)]; exact uG.f2.f4.f4.f4))
        ·(try simp only [aF] at h6)
         refine bU ?_
         refine cO (()) ?_ ?_ ?_
         ·exact (Sub.nil _)
         ·exact uF
         ·(try dsimp only)
          first | done | exact (by first | (rw [if_pos (by assumption)]; exact H9.f2.f4.f4.f4) | (rw [if_neg (by assumption)]; exact H9.f2.f4.f4.f4))
     ·(try simp only [aF] at h4)
      refine bU (aJ (aW (aO ?_)))
      have hk2 : ¬ (keys.getD 0 0 = 59 ∨ keys.getD 0 0 = 44) := by omega
      obtain ⟨e1, e2⟩ := acv (M := M) (l := l) (p := p) (n := n) hk0 hk1 hk2
      have WH := HK.drew
      have nK := V.kp (WH.f3.f3.f3)
      refine yj [3, 7, 14] nK O (jE 0 O nK O (kJ 1 O nK O (gU 2 O nK 6 dD O dN O (jQ 3 O nK (fun W hW => kC ay O ((Kp.h hW)).get.2 O) (jE 4 O nK O (kJ 5 O nK O (gU 6 O nK 7 dD O aj O (jQ 7 O nK (fun W hW => kC aN O ((Kp.h hW)).get.2 O) (jE 8 O nK O (jE 9 O nK O (jE 10 O nK O (jE 11 O nK O (kJ 12 O nK O (gU 13 O nK 5 dD O aQ O (jQ 14 O nK (fun W hW => kC bM O ((Kp.h hW)).get.2 O) (oC 15 O (yJ O func11 (Ah WH (fun W HW => (HW.f2).aT) hT (by omega) (by omega))) ?_))))))))))))))))
      rintro _ Pn ⟨rfl, wZ⟩
      have uP := V.kp (wZ.f3.f3.f3)
      refine gV uP (by kernel_rfl) ?_
      refine jE 16 O uP O (jC 17 O uP (fun _ => mM O O) (jC 18 O uP (fun _ => mM O O) (jC 19 O uP (fun _ => mM O O) (jC 20 O uP (fun _ => dQ O) (jC 21 O uP (fun _ => dQ O) (jC 22 O uP (fun _ => dQ O) (qR (aW (aO (bT O (jL O (fun h7 => ?_) (fun h7 => ?_))))))))))))
      ·(try simp only [aF] at h7)
       refine bC (bQ O (bC (eG O func50 (Du (s := Qu) (by decide)) ?_)))
       rintro _ _ ⟨rfl, rfl⟩
       refine jw O O (iV O (fun h8 => ?_) (fun h8 => ?_))
       ·(try simp only [aF] at h8)
        obtain ⟨Nv, Nw, Ny, wI, wU⟩ := (wZ.f3).vm
        refine aB (nG O O (bF 0 dD O sizeOf41 O (gq underlying41 O (wU.f5).get.2 O (jF O O ?_))))
        refine Z (dW (zl := [.int .i32 0, .int .i32 0]) (pl := [(0, 1), (1, 1)]) [_, _] lV zeroValue115 O (fun w => by kernel_rfl) O (.on (.on .nil)) O) ?_
        refine dL O (bF 1 fH O sizeOf115 O (aK (bW 1 (l' := [_, _, _, _, _, _, _, _]) (us := [_, _]) wU sizeOf115 O O O (aA (aA bD)) O O) ?_))
        rintro _ w16 yL
        have PI := yL.f4.f4.f4.f4
        have PK := V.Bz (M := { M with fk := keys.getD 0 0, fc := (if 1 < keys.length then keys.getD 1 0 else 0) }) wI PI
        refine qQ O (jF O O (fU O (fU O (fF O ?_))))
        refine gY (.inl O) results162 O O O ?_
        refine ⟨by rw [e1]; rfl, ?_⟩
        rw [e2]
        first | (rw [if_pos ⟨by assumption, by assumption⟩]; exact PK.f3.f3) | (rw [if_neg (fun hc => absurd hc.2 (by assumption))]; exact PK.f3.f3) | (rw [if_neg (fun hc => absurd hc.1 (by simp only [*]; decide))]; exact PK.f3.f3)
       ·(try simp only [aF] at h8)
        refine fV (bT O (jF O O (fU O (fU O (fF O ?_)))))
        refine gY (.inl O) results162 O O O ?_
        refine ⟨by rw [e1]; rfl, ?_⟩
        rw [e2]
        first | (rw [if_pos ⟨by assumption, by assumption⟩]; exact wZ.f3.f3.f3) | (rw [if_neg (fun hc => absurd hc.2 (by assumption))]; exact wZ.f3.f3.f3) | (rw [if_neg (fun hc => absurd hc.1 (by simp only [*]; decide))]; exact wZ.f3.f3.f3)
      ·(try simp only [aF] at h7)
       refine bH (bH (iJ O O (iK (pW (fV (bT O (jF O O (fU O (fU O (fF O ?_))))))))))
       refine gY (.inl O) results162 O O O ?_
       refine ⟨by rw [e1]; rfl, ?_⟩
       rw [e2]
       first | (rw [if_pos ⟨by assumption, by assumption⟩]; exact wZ.f3.f3.f3) | (rw [if_neg (fun hc => absurd hc.2 (by assumption))]; exact wZ.f3.f3.f3) | (rw [if_neg (fun hc => absurd hc.1 (by simp only [*]; decide))]; exact wZ.f3.f3.f3)
    ·skip
     refine iy (Z (dO O O) (gB O (bG O (fun h9 => ?_) (fun h9 => ?_))))
     ·(try simp only [aF] at h9)
      refine bU ?_
      refine cO (()) ?_ ?_ ?_
      ·exact (Sub.iY O (congrArg Value.bool (decide_eq_decide.2 (by omega))) (Sub.nil _))
      ·exact Kq
      ·(try dsimp only)
       first | done | exact HJ.f3.f3.f3
     ·(try simp only [aF] at h9)
      refine aB (Z (dO O O) (fU O (bP ?_)))
      refine cO (()) ?_ ?_ ?_
      ·exact (Sub.iY O (congrArg Value.bool (decide_eq_decide.2 (by omega))) (Sub.nil _))
      ·exact Kq
      ·(try dsimp only)
       first | done | exact HJ.f3.f3.f3
  ·skip
   refine bT O (Z (nM ay O) (Z (jc O O) (iV O (fun h10 => ?_) (fun h10 => ?_))))
   ·(try simp only [aF] at h10)
    refine aB (bQ O (Z (dw ay bK O O (by omega)) ?_))
    refine Z (dR (bV bf O) O (by first | exact eX.jT (hr _ (H.right.right.right)) (by omega) | exact eX.rP (hr _ (H.right.right.right)) (by omega) | exact eX.rO (hr _ (H.right.right.right)) (by omega))) ?_
    refine fU O (bP ?_)
    refine cO (()) ?_ ?_ ?_
    ·exact (Sub.iY O (by first | (rw [if_pos (by omega)]; rfl) | rw [if_neg (by omega)]) (Sub.nil _))
    ·exact uF
    ·(try dsimp only)
     first | done | exact H.f3.f3.f3
   ·(try simp only [aF] at h10)
    refine bU ?_
    refine cO (()) ?_ ?_ ?_
    ·exact (Sub.iY O (by first | (rw [if_pos (by omega)]; rfl) | rw [if_neg (by omega)]) (Sub.nil _))
    ·exact uF
    ·(try dsimp only)
     first | done | exact H.f3.f3.f3
end
theorem BG {a b : ByteArray} (h : a.data.toList ≠ b.data.toList) : ¬ a.toList = b.toList := by rw [ByteArray.toList_eq, ByteArray.toList_eq]; exact h
theorem Qv : qG qB = ⟨#[]⟩ := by
  unfold qG
  rw [if_neg (BG (by decide)), if_neg (BG (by decide)), if_neg (BG (by decide)), if_neg (BG (by decide)), if_neg (BG (by decide)), if_neg (BG (by decide)), if_neg (BG (by decide)), if_neg (BG (by decide))]
theorem Yx {w0 w : World} {F : HP} {e : Nat} {s : dJ} (H : V w0 w (gG e s • F)) : s.c.L.length ≤ 1024 ∧ (0 ≤ s.c.pt ∧ s.c.pt ≤ s.c.L.length) := by
  obtain ⟨pb, pr, pw, pt, pm, ph, bl, pv, es, u0, u1, u2, u3, u4, u5, u6, u7, u8, u9, ua, h, _, _, H2⟩ := H.Gz
  obtain ⟨a, c, xs, f, t, h1, h2, h3, h4, h5, h6, h7, _⟩ := H2.f2.buf
  exact ⟨h4, h6⟩
namespace dJ
variable (s : dJ)
def WI (M : VM) (keys : List Int) (n : Int) : Int := if (M.tgt s.c.L s.c.pt keys n).2.2 = true then s.Jz (M.tgt s.c.L s.c.pt keys n).1 else 6
def WJ (M : VM) (keys : List Int) (n : Int) : dJ := if (M.tgt s.c.L s.c.pt keys n).2.2 = true then s.EJ (M.tgt s.c.L s.c.pt keys n).1 else s
end dJ
section
variable {w0 : World} {s : dJ} {keys : List Int} {n : Int} {g : Bool} {M : VM}
theorem TK (hT : yK w0) (hn : n ≤ 9223372036854775807) : aaF w0 qB keys n g s M fun x t M' => x = s.WI M keys n ∧ t = s.WJ M keys n ∧ M' = M.sought s.c.L s.c.pt keys n := by
 intro F w c m e kv lv H hk
 have hln := (Yx H.f4).1
 refine iC func124 ntmps124 ?_
 refine jk O (aO (bT O (dL O (bF 2 dD O lF O (gq iR O (H).get.2 O (eG O func160 (Oc) ?_))))))
 rintro _ _ ⟨rfl, rfl⟩
 refine gB O (bT O (Z (DZ O O) (jL O (fun h => by exfalso; (try simp only [aF] at h); exact h (by rw [Qv])) (fun h1 => ?_))))
 (try simp only [aF] at h1)
 refine bH (bH (bH (bH (bH (bH (bH (bH (bH (iJ O O (iK (pW (fV (aO (bT O (dL O (bF 2 dD O lF O (gq iR O (H).get.2 O (iK (aZ (iy (Z (eF O O) (gB O (bG O (fun h => by exfalso; (try simp only [aF] at h); exact absurd h (BG (by decide))) (fun h2 => ?_))))))))))))))))))))))))
 (try simp only [aF] at h2)
 refine iy (Z (eF O O) (gB O (bG O (fun h3 => ?_) (fun h => by exfalso; (try simp only [aF] at h); exact h O))))
 (try simp only [aF] at h3)
 refine aO ?_
 have acw := H.drew
 have BH := V.kp (acw.f4.f4.f4.f4)
 refine yj [4, 8] BH O (jE 0 O BH O (jE 1 O BH O (kJ 2 O BH O (gU 3 O BH 3 dD O dN O (jQ 4 O BH (fun W hW => kC ay O ((Kp.h hW)).get.2 O) (jE 5 O BH O (kJ 6 O BH O (gU 7 O BH 4 dD O aj O (jQ 8 O BH (fun W hW => kC aN O ((Kp.h hW)).get.2 O) (oC 9 O (yJ O func162 (WE acw.f3.f3.f3 (fun W HW => hk _ (HW.right)) hT (by omega) (by omega))) ?_))))))))))
 rintro _ w2 ⟨rfl, H2⟩
 have xH := V.kp (H2.f4.f4.f4.f4)
 refine gV xH (by kernel_rfl) ?_
 refine jE 10 O xH O (jC 11 O xH (fun _ => mM O O) (jC 12 O xH (fun _ => mM O O) (jC 13 O xH (fun _ => mM O O) (jC 14 O xH (fun _ => dQ O) (jC 15 O xH (fun _ => dQ O) (jC 16 O xH (fun _ => dQ O) (qR (aW (aO (bT O (Z (lS O) (iV O (fun h4 => ?_) (fun h4 => ?_)))))))))))))
 ·(try simp only [aF] at h4)
  have hok : ¬ (M.tgt s.c.L s.c.pt keys n).2.2 = true := by have h9 := h4; simpa using h9
  refine jd O (aG (aS (aG (dG results124 O ?_))))
  exact ⟨_, _, _, ⟨by unfold dJ.WI; rw [if_neg hok], by unfold dJ.WJ; rw [if_neg hok], O⟩, O, H2.f4.f4.f4.f4⟩
 ·(try simp only [aF] at h4)
  have hok : (M.tgt s.c.L s.c.pt keys n).2.2 = true := by have h9 := h4; simpa using h9
  refine fV (bT O (dL O (bF 1 dD O sizeOf37 O (gq kH O (H2).get.2 O (bQ O (eG O func30 (EN H2.f4) ?_))))))
  rintro _ w3 ⟨rfl, H3⟩
  refine fF O (aS (aG (dG results124 O ?_)))
  exact ⟨_, _, _, ⟨by unfold dJ.WI; rw [if_pos hok], by unfold dJ.WJ; rw [if_pos hok], O⟩, O, H3.f4.f4.f4⟩
end
end Go.Proofs.YtpdeedplgmbopaaGreatDoor
end
section
namespace Go.Proofs.YtpdeedplgmbopaaGreatDoor
open Go.RowKit
def uy (sz : Nat) (v : Value) (n : Nat) (xs : List Value) : HP := know (fun I => AX I sz v n xs) fun _ _ hl h => h.mono hl
abbrev LE := Int × Value × List (Value × List dV)
def Ai (gs : List (Value × List dV)) : List (List iU) := gs.map fun g => g.2.map dV.says
def Fe (A : List LE) (k : Int) : List (List iU) := ((A.find? fun x => x.1 == k).map fun x => Ai x.2.2).getD []
def yH (A : List LE) (k : Int) (u : Value) (gs : List (Value × List dV)) : List LE := A.filter (fun x => x.1 != k) ++ [(k, u, gs)]
def Zr (I : Hp) (v : Value) (gs : List (Value × List dV)) : Prop := AX I 1 v gs.length (gs.map (·.1)) ∧ BK I gs
theorem Zr.mono {I I' : Hp} {v : Value} {gs : List (Value × List dV)} (hl : Hp.le I I') (h : Zr I v gs) : Zr I' v gs := ⟨h.1.mono hl, h.2.mono hl⟩
def glK (v : Value) (gs : List (Value × List dV)) : HP := uy 1 v gs.length (gs.map (·.1)) • nO gs
def Yy (I : Hp) (A : List LE) : Prop := ∀ k, k < A.length → Zr I (A.getD k default).2.1 (A.getD k default).2.2
def qj (A : List LE) : HP := know (fun I => Yy I A) fun _ _ hl h k hk => (h k hk).mono hl
def lsK (pv gv : Value) (A : List LE) : HP := mQ .i64 pv (A.map (·.1)) • uy 1 gv A.length (A.map (·.2.1)) • qj A
theorem Yz (A : List LE) (k : Int) (u : Value) (gs : List (Value × List dV)) : Fe (yH A k u gs) = wQ (Fe A) k (Ai gs) := by
  funext j
  unfold Fe yH wQ
  rw [List.find?_append]
  by_cases hj : j = k
  · subst hj
    rw [if_pos rfl, List.find?_eq_none.2 (by intro x hx; simp at hx; simpa using hx.2)]
    simp
  · rw [if_neg hj, List.find?_filter]
    have h1 : (fun a : LE => decide (a.1 != k ∧ (a.1 == j) = true)) = fun a : LE => a.1 == j := by
      funext a
      by_cases ha : a.1 = j
      · simp [ha, hj]
      · simp [ha]
    have h2 : (fun a : LE => (a.1 != k) && (a.1 == j)) = fun a : LE => a.1 == j := by
      funext a
      by_cases ha : a.1 = j
      · simp [ha, hj]
      · simp [ha]
    have h3 : ([(k, u, gs)] : List LE).find? (fun x => x.1 == j) = none := by
      rw [List.find?_eq_none]; intro x hx; rw [List.mem_singleton.1 hx]; simpa using Ne.symm hj
    first
      | rw [h3, Option.or_none, h2]
      | rw [h3, Option.or_none, h1]
      | (simp only [h3, Option.or_none, h2, h1])
theorem aaI {A : List LE} {k : Int} {i : Nat} (hi : i < A.length) (hn : ∀ j, j < i → (A.getD j default).1 ≠ k) (he : (A.getD i default).1 = k) : Fe A k = Ai (A.getD i default).2.2 := by
  induction A generalizing i with
  | nil => simp at hi
  | cons x r ih =>
    unfold Fe
    rw [List.find?_cons]
    cases i with
    | zero =>
      have : x.1 = k := he
      rw [show (x.1 == k) = true from by simpa using this]; rfl
    | succ m =>
      have h0 : x.1 ≠ k := hn 0 (by omega)
      rw [show (x.1 == k) = false from by simpa using h0]
      exact ih (i := m) (by simpa using hi) (fun j hj => hn (j + 1) (by omega)) he
theorem WM {A : List LE} {k : Int} (hn : ∀ j, j < A.length → (A.getD j default).1 ≠ k) : Fe A k = [] := by
  unfold Fe
  rw [List.find?_eq_none.2]
  · rfl
  · intro x hx
    obtain ⟨j, hj, rfl⟩ := List.getElem_of_mem hx
    have := hn j hj
    rw [List.getD_eq_getElem?_getD, List.getElem?_eq_getElem hj] at this
    simpa using this
theorem JV : ∀ (n : Nat) (l : List Int), l.Nodup → (∀ x ∈ l, 0 ≤ x ∧ x < n) → l.length ≤ n
  | 0, l, _, h => by
    cases l with
    | nil => simp
    | cons x r => have := h x (List.mem_cons_self ..); omega
  | n + 1, l, hn, h => by
    have h1 : (l.erase (n : Int)).length ≤ n := JV n (l.erase n) (hn.erase _) (fun x hx => by
      have hm := (List.Nodup.mem_erase_iff hn).1 hx
      have := h x hm.2
      have := hm.1
      omega)
    have h2 : l.length ≤ (l.erase (n : Int)).length + 1 := by rw [List.length_erase]; split <;> omega
    omega
theorem Oe (A : List LE) (k : Int) (u : Value) (gs : List (Value × List dV)) : (yH A k u gs).map (·.1) = (A.map (·.1)).filter (· != k) ++ [k] := by
  unfold yH
  rw [List.map_append, List.filter_map]; rfl
theorem YA {A : List LE} {n : Int} {k : Int} {u : Value} {gs : List (Value × List dV)} (h : (A.map (·.1)).Nodup ∧ ∀ x ∈ A.map (·.1), 0 ≤ x ∧ x ≤ n) (hk : 0 ≤ k ∧ k ≤ n) :
    ((yH A k u gs).map (·.1)).Nodup ∧ ∀ x ∈ (yH A k u gs).map (·.1), 0 ≤ x ∧ x ≤ n := by
  rw [Oe]
  refine ⟨List.nodup_append.2 ⟨h.1.filter _, by simp, fun a ha b hb => ?_⟩, fun x hx => ?_⟩
  · rw [List.mem_singleton.1 hb]
    have := (List.mem_filter.1 ha).2
    simpa using this
  · rcases List.mem_append.1 hx with hx | hx
    · exact h.2 x (List.mem_filter.1 hx).1
    · rw [List.mem_singleton.1 hx]; exact hk
theorem Qw {A : List LE} {n : Int} (h : (A.map (·.1)).Nodup ∧ ∀ x ∈ A.map (·.1), 0 ≤ x ∧ x ≤ n) (hn : 0 ≤ n ∧ n ≤ 4096) : A.length ≤ 4097 := by
  have := JV (n.toNat + 1) _ h.1 (fun x hx => by have := h.2 x hx; omega)
  rw [List.length_map] at this
  omega
section
variable {w0 w : World} {F : HP} {v u pv gv : Value} {n sz k : Nat} {xs : List Value} {es : List dV} {gs : List (Value × List dV)} {A : List LE} {x : LE}
theorem V.oI (H : V w0 w (uy sz v n xs • F)) : Rd w sz v n xs := let ⟨I, h, hI⟩ := H.qF; h.rd hI
theorem V.WO (H : V w0 w (uy sz v n xs • F)) : V w0 w (uy sz v n xs • uy sz v n xs • F) := H.qV
theorem V.Qx (H : V w0 w F) (a : Option Addr) : V w0 w (uy sz (.slice a 0 0) 0 [] • F) := H.uV fun I => ⟨by simp, a, 0, rfl, by omega, by decide, fun h => by omega⟩
theorem V.En {t : TypeId} (H : V w0 w (Row t sz v n xs • F)) : V w0 w (uy sz v n xs • F) := by
  have hl := H.wW
  rcases H.tN with ⟨a, rfl, h1, h2, H1⟩ | ⟨g, o, c, cur, rfl, h2, h3, h4, h5, H1⟩
  · subst h1; exact H1.uV fun I => ⟨hl, a, 0, rfl, by omega, by decide, fun h => by omega⟩
  · exact H1.freeze.DW (oG (fun I hI => ⟨hl, _, c, rfl, h2, h3, fun _ => ⟨g, o, cur, _, (0, 0), rfl, hI, h5⟩⟩) F)
theorem V.Rz (H : V w0 w (glK v gs • F)) : V w0 w (uy 1 v gs.length (gs.map (·.1)) • nO gs • F) := H.flat
theorem V.YB (H : V w0 w F) (a : Option Addr) : V w0 w (glK (.slice a 0 0) [] • F) := V.deep (H.Gg.Qx (sz := 1) a)
theorem V.Aj (H : V w0 w (BL v gs • F)) : V w0 w (glK v gs • F) := V.deep (H.XM.En)
theorem V.RD {p : Int} (H : V w0 w (qj A • F)) (hk : k < A.length) (hx : A.getD k default = (p, v, gs)) : V w0 w (uy 1 v gs.length (gs.map (·.1)) • nO gs • qj A • F) := by
  have H2 : V w0 w (uy 1 (A.getD k default).2.1 (A.getD k default).2.2.length ((A.getD k default).2.2.map (·.1)) • qj A • qj A • F) := H.qV.qV.DW (oG (fun I h => (h k hk).1) _)
  have H3 : V w0 w (nO (A.getD k default).2.2 • uy 1 (A.getD k default).2.1 (A.getD k default).2.2.length ((A.getD k default).2.2.map (·.1)) • qj A • F) := H2.f2.DW (oG (fun I h => (h k hk).2) _)
  rw [hx] at H3
  exact H3.f2
theorem Yy.set {I : Hp} {p : Int} (h : Yy I A) (g : Zr I u gs) : Yy I (yH A p u gs) := by
  have hm : ∀ x ∈ A, Zr I x.2.1 x.2.2 := fun x hx => by
    obtain ⟨j, hj, rfl⟩ := List.getElem_of_mem hx
    have := h j hj
    rwa [List.getD_eq_getElem?_getD, List.getElem?_eq_getElem hj] at this
  have hm2 : ∀ x ∈ yH A p u gs, Zr I x.2.1 x.2.2 := fun x hx => by
    rcases List.mem_append.1 hx with hx | hx
    · exact hm x (List.mem_filter.1 hx).1
    · rw [List.mem_singleton.1 hx]; exact g
  intro j hj
  rw [List.getD_eq_getElem?_getD, List.getElem?_eq_getElem hj]
  exact hm2 _ (List.getElem_mem hj)
theorem V.WR {p : Int} (H : V w0 w (qj A • uy 1 u gs.length (gs.map (·.1)) • nO gs • F)) : V w0 w (qj (yH A p u gs) • F) := by
  have H1 : V w0 w (know (fun I => Zr I u gs) (fun _ _ hl h => h.mono hl) • qj A • F) := (H.f3.f3 : V w0 w (uy 1 u gs.length (gs.map (·.1)) • nO gs • qj A • F)).DW (tV (fun I h g => ⟨h, g⟩) _)
  exact H1.f2.DW (tV (fun I h g => h.set g) _)
theorem V.Og (H : V w0 w F) : V w0 w (qj [] • F) := H.uV fun I k hk => by simp at hk
theorem V.Oh {k : IntKind} (H : V w0 w F) (a : Option Addr) : V w0 w (mQ k (.slice a 0 0) [] • F) := H.uV fun I => ⟨a, 0, rfl, by simp, by decide, fun h => by simp at h⟩
end
end Go.Proofs.YtpdeedplgmbopaaGreatDoor
end
section
namespace Go.Proofs.YtpdeedplgmbopaaGreatDoor
open Go.RowKit
open _root_.Go.Proofs.Tryz
def DK (v : Value) (pt mk : Int) : Array Value := #[v, .int .i64 pt, .int .i64 mk]
def nV (p : Nat) (L : List Int) (pt mk : Int) : HP := rV fun (v : Value) => fact (L.length ≤ 1024 ∧ (0 ≤ pt ∧ pt ≤ L.length) ∧ (-1 ≤ mk ∧ mk ≤ L.length)) • dM p (.cells (DK v pt mk) 222 (0, 0)) • kT 21 .i32 v L
section
variable {w0 w : World} {F : HP} {p : Nat} {L : List Int} {pt mk : Int} {v : Value} {l : List Int} {i j : Int}
theorem V.ref (H : V w0 w (nV p L pt mk • F)) : ∃ (a : Option Addr) (c : Nat), L.length ≤ 1024 ∧ (0 ≤ pt ∧ pt ≤ L.length) ∧ (-1 ≤ mk ∧ mk ≤ L.length) ∧ L.length ≤ c ∧ (c : Int) ≤ 9223372036854775807 ∧
    V w0 w (dM p (.cells (DK (.slice a L.length c) pt mk) 222 (0, 0)) • kT 21 .i32 (.slice a L.length c) L • F) := by
  obtain ⟨v, H⟩ := H.lQ
  obtain ⟨⟨h1, h2, h3⟩, H⟩ := H.flat.fact
  have H := H.flat
  obtain ⟨a, c, hv, hc1, hc2, _⟩ := (H.swap.aT).form
  subst hv
  exact ⟨a, c, h1, h2, h3, hc1, hc2, H⟩
theorem V.Qy (h1 : L.length ≤ 1024) (h2 : 0 ≤ pt ∧ pt ≤ L.length) (h3 : -1 ≤ mk ∧ mk ≤ L.length) (H : V w0 w (dM p (.cells (DK v pt mk) 222 (0, 0)) • kT 21 .i32 v L • F)) : V w0 w (nV p L pt mk • F) :=
  V.iD v (V.deep (V.kE ⟨h1, h2, h3⟩ (V.deep H)))
theorem Lr (H : V w0 w F) (hr : jM w0 F .i32 v l) (hl : 1024 < l.length) : gQ prog 112 #[v] w fun v' w' => v' = .tuple #[.pointer none, .int .i64 3] ∧ w = w' := by
  obtain ⟨a, c, rfl, _, _, _⟩ := (hr w H).open
  refine iC func112 ntmps112 ?_
  refine iy (fU O (vZ O (bT O (Z (nM ay O) (Z (jc O O) (iK (wcA O (fun h1 => ?_))))))))
  (try simp only [aF] at h1)
  refine iy (fU O (fF O (aG (FX results112 O O ?_))))
  exact ⟨O, O⟩
theorem Oi (H : V w0 w F) (hr : jM w0 F .i32 v l) (hl : l.length ≤ 1024) : gQ prog 112 #[v] w fun v' w' => ∃ p, v' = .tuple #[.pointer (some ⟨p, 0, none⟩), .int .i64 0] ∧ V w0 w' (nV p l l.length (-1) • F) := by
  obtain ⟨a, c, rfl, hc1, hc2, _⟩ := (hr w H).open
  refine iC func112 ntmps112 ?_
  refine iy (fU O (vZ O (bT O (Z (nM ay O) (Z (jc O O) (iK (wcB O (fun h1 => ?_))))))))
  (try simp only [aF] at h1)
  refine fV (jk O (bT O (bQ O (jy (lK (l := []) (H.iP none) (hr _ H) ay CX O O (by simp only [List.length_nil]; omega) (by simp only [List.length_nil]; omega)) ?_))))
  rintro u w1 H1
  rw [List.nil_append] at H1
  obtain ⟨au, cu, hu, _⟩ := (H1.aT).form
  subst hu
  refine gB O (bT O (bQ O (Z (nM ay O) (Z (pI (pl := #[(0, 1), (1, 1), (2, 1)]) (DK (.slice au l.length cu) l.length (-1)) underlying222 zeroValue222 (fun w => by kernel_rfl) O (by kernel_rfl)) (jy (QE H1 O) ?_)))))
  rintro _ w2 ⟨b2, rfl, H2⟩
  refine fU O (fF O (FX results112 O O ?_))
  exact ⟨_, O, V.Qy hl (by omega) (by omega) H2⟩
end
end Go.Proofs.YtpdeedplgmbopaaGreatDoor
end
