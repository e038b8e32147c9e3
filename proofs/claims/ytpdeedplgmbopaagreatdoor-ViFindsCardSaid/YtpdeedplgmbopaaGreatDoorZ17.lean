import Derived.Test.YtpdeedplgmbopaaGreatDoorZ4
import Derived.Test.YtpdeedplgmbopaaGreatDoorZ16
import Derived.Test.YtpdeedplgmbopaaGreatDoorZ9
import Derived.Test.YtpdeedplgmbopaaGreatDoorZ11
import Derived.Test.YtpdeedplgmbopaaGreatDoorZ8
import Derived.Test.YtpdeedplgmbopaaGreatDoorZ7
import Derived.Test.YtpdeedplgmbopaaGreatDoorZ6
set_option linter.unusedSimpArgs false
set_option linter.unusedVariables false
/- Texts of mine, joined, their names in short: VGo2 VT VO VMove RLs Ref7. -/
section
namespace Go.Proofs.YtpdeedplgmbopaaGreatDoor
open Go.RowKit
open _root_.Go.Proofs.Tryz
def oG (k : Nat) : Value := .func (.func k) #[] #[]
def EP (q1 q2 q3 q4 q5 q6 : MP) : HP := ng q6 (oG 97) true true (oG 94) • ng q5 (oG 97) false true (oG 94) • ng q4 (oG 96) true false (oG 93) • ng q3 (oG 96) false false (oG 93) • ng q2 (oG 95) true false (oG 92) • ng q1 (oG 95) false false (oG 92)
def Af (q1 q2 q3 q4 q5 q6 : MP) : Int → Option Value := upd (upd (upd (upd (upd (upd (fun _ => none) 119 (N7 q1)) 87 (N7 q2)) 98 (N7 q3)) 66 (N7 q4)) 101 (N7 q5)) 69 (N7 q6)
section
variable {w0 w : World} {F : HP} {v sv mv : Value} {l : List Int} {x n key : Int} {b t : Bool} {q1 q2 q3 q4 q5 q6 : MP}
theorem Em {k1 k2 : Nat} (H : V w0 w F) : qZ prog (oG 88) [oG k1, .bool b, .bool t, oG k2] w fun u w' => ∃ p, u = N7 p ∧ V w0 w' (ng p (oG k1) b t (oG k2) • F) := by
  refine ⟨_, [], [], _, _, O, func88, O, O, ?_⟩
  simp only [List.nil_append, List.append_nil]
  refine abe func88 ntmps88 ?_
  refine iH (jv (iM (l := [_]) H O O) ?_)
  rintro _ w1 ⟨b1, rfl, H1⟩
  refine jv (iM (l := [_]) H1 O O) ?_
  rintro _ w2 ⟨b2, rfl, H2⟩
  refine jv (iM (l := [_]) H2 O O) ?_
  rintro _ w3 ⟨b3, rfl, H3⟩
  refine jv (iM (l := [_]) H3 O O) ?_
  rintro _ w4 ⟨b4, rfl, H4⟩
  refine gI O (iH (aV (vV O O) (fC O (dH results88 O ?_))))
  exact ⟨⟨_, _, _, _⟩, O, (H4).of_eq (by unfold ng; simp only [bW])⟩
theorem qZ.mono {P : Program} {fv : Value} {vs : List Value} {w : World} {T T' : Value → World → Prop} (h : qZ P fv vs w T) (k : ∀ v w', T v w' → T' v w') : qZ P fv vs w T' := by
  obtain ⟨f, a, c, fn, b, h1, h2, h3, h4, h5⟩ := h
  exact ⟨f, a, c, fn, b, h1, h2, h3, h4, h5.mono k⟩
theorem Qn (H : V w0 w F) : gJ prog 39 #[] w fun u w' => ∃ b q1 q2 q3 q4 q5 q6, u = .map (some b) ∧ V w0 w' (fG (wF .i32) b (Af q1 q2 q3 q4 q5 q6) • EP q1 q2 q3 q4 q5 q6 • F) := by
  refine RS func39 ntmps39 ?_
  refine jr O (jr O (jr O (jr O (jr O (iH (jv (jH (wF .i32) H) ?_))))))
  rintro _ w1 ⟨b1, rfl, H1⟩
  refine jG O O (jv (nJ O O (Em (k1 := 95) (k2 := 92) H1)) ?_)
  rintro _ w2 ⟨q1, rfl, H2⟩
  refine aH (yE H2.f2 ni aZ O O O) ?_
  rintro _ w3 H3
  refine jG O O (jv (nJ O O (Em (k1 := 95) (k2 := 92) H3)) ?_)
  rintro _ w4 ⟨q2, rfl, H4⟩
  refine aH (yE H4.f2 ni aZ O O O) ?_
  rintro _ w5 H5
  refine jG O O (jv (nJ O O (Em (k1 := 96) (k2 := 93) H5)) ?_)
  rintro _ w6 ⟨q3, rfl, H6⟩
  refine aH (yE H6.f2 ni aZ O O O) ?_
  rintro _ w7 H7
  refine jG O O (jv (nJ O O (Em (k1 := 96) (k2 := 93) H7)) ?_)
  rintro _ w8 ⟨q4, rfl, H8⟩
  refine aH (yE H8.f2 ni aZ O O O) ?_
  rintro _ w9 H9
  refine jG O O (jv (nJ O O (Em (k1 := 97) (k2 := 94) H9)) ?_)
  rintro _ w10 ⟨q5, rfl, ql⟩
  refine aH (yE ql.f2 ni aZ O O O) ?_
  rintro _ EH rF
  refine jG O O (jv (nJ O O (Em (k1 := 97) (k2 := 94) rF)) ?_)
  rintro _ w12 ⟨q6, rfl, uI⟩
  refine aH (yE uI.f2 ni aZ O O O) ?_
  rintro _ Pj xk
  refine bP O (fC O (dH results39 O ?_))
  exact ⟨_, q1, q2, q3, q4, q5, q6, O, (xk).of_eq (by unfold EP; simp only [bW]; rfl)⟩
theorem N8 (h : ¬ (key = 119 ∨ key = 87 ∨ key = 98 ∨ key = 66 ∨ key = 101 ∨ key = 69)) : Af q1 q2 q3 q4 q5 q6 key = none := by
  unfold Af upd
  rw [if_neg (by omega), if_neg (by omega), if_neg (by omega), if_neg (by omega), if_neg (by omega), if_neg (by omega)]
theorem N9 (h : key = 119 ∨ key = 87 ∨ key = 98 ∨ key = 66 ∨ key = 101 ∨ key = 69) : (Af q1 q2 q3 q4 q5 q6 key).isSome = true := by
  rcases h with rfl | rfl | rfl | rfl | rfl | rfl <;> rfl
theorem Oa (H : V w0 w (EP q1 q2 q3 q4 q5 q6 • F)) (hk : key = 119 ∨ key = 87 ∨ key = 98 ∨ key = 66 ∨ key = 101 ∨ key = 69) (hT : wS w0) (hr : jq w0 F .i32 v l) (hl : l.length ≤ 4611686018427387904) (hx : inL l x) (hn : n ≤ 9223372036854775807) (z : Value) :
    qZ prog ((Af q1 q2 q3 q4 q5 q6 key).getD z) [v, .int .i64 x, .int .i64 n] w fun u w' => u = PN (wI l x key n) ∧ V w0 w' (EP q1 q2 q3 q4 q5 q6 • F) := by
  unfold EP at H ⊢
  have hI1 : ∀ y, decide (y < (l.length : Int) - 1) = true → inL l y → acw l y := fun y h1 h2 => ⟨h2.1, by have := of_decide_eq_true h1; omega⟩
  rcases hk with rfl | rfl | rfl | rfl | rfl | rfl
  · refine qZ.mono (yJ (p := q1) (F := ng q6 (oG 97) true true (oG 94) • ng q5 (oG 97) false true (oG 94) • ng q4 (oG 96) true false (oG 93) • ng q3 (oG 96) false false (oG 93) • ng q2 (oG 95) true false (oG 92) • F) (H.of_eq (by ac_rfl)) (JJ hT) Hy (fun y h1 h2 => h2) (fun W HW => hr W HW.right.right.right.right.right) hl hx hn) fun u W h => ⟨h.1.trans (by unfold wI; simp), h.2.of_eq (by ac_rfl)⟩
  · refine qZ.mono (yJ (p := q2) (F := ng q6 (oG 97) true true (oG 94) • ng q5 (oG 97) false true (oG 94) • ng q4 (oG 96) true false (oG 93) • ng q3 (oG 96) false false (oG 93) • ng q1 (oG 95) false false (oG 92) • F) (H.of_eq (by ac_rfl)) (JJ hT) Hy (fun y h1 h2 => h2) (fun W HW => hr W HW.right.right.right.right.right) hl hx hn) fun u W h => ⟨h.1.trans (by unfold wI; simp), h.2.of_eq (by ac_rfl)⟩
  · refine qZ.mono (yJ (p := q3) (F := ng q6 (oG 97) true true (oG 94) • ng q5 (oG 97) false true (oG 94) • ng q4 (oG 96) true false (oG 93) • ng q2 (oG 95) true false (oG 92) • ng q1 (oG 95) false false (oG 92) • F) (H.of_eq (by ac_rfl)) (JK hT) JL (fun y h1 h2 => h2) (fun W HW => hr W HW.right.right.right.right.right) hl hx hn) fun u W h => ⟨h.1.trans (by unfold wI; simp), h.2.of_eq (by ac_rfl)⟩
  · refine qZ.mono (yJ (p := q4) (F := ng q6 (oG 97) true true (oG 94) • ng q5 (oG 97) false true (oG 94) • ng q3 (oG 96) false false (oG 93) • ng q2 (oG 95) true false (oG 92) • ng q1 (oG 95) false false (oG 92) • F) (H.of_eq (by ac_rfl)) (JK hT) JL (fun y h1 h2 => h2) (fun W HW => hr W HW.right.right.right.right.right) hl hx hn) fun u W h => ⟨h.1.trans (by unfold wI; simp), h.2.of_eq (by ac_rfl)⟩
  · refine qZ.mono (yJ (p := q5) (F := ng q6 (oG 97) true true (oG 94) • ng q4 (oG 96) true false (oG 93) • ng q3 (oG 96) false false (oG 93) • ng q2 (oG 95) true false (oG 92) • ng q1 (oG 95) false false (oG 92) • F) (H.of_eq (by ac_rfl)) (step_end hT) Hz (fun y h1 h2 => hI1 y h1 h2) (fun W HW => hr W HW.right.right.right.right.right) hl hx hn) fun u W h => ⟨h.1.trans (by unfold wI; simp), h.2.of_eq (by ac_rfl)⟩
  · refine qZ.mono (yJ (p := q6) (F := ng q5 (oG 97) false true (oG 94) • ng q4 (oG 96) true false (oG 93) • ng q3 (oG 96) false false (oG 93) • ng q2 (oG 95) true false (oG 92) • ng q1 (oG 95) false false (oG 92) • F) (H.of_eq (by ac_rfl)) (step_end hT) Hz (fun y h1 h2 => hI1 y h1 h2) (fun W HW => hr W HW.right.right.right.right.right) hl hx hn) fun u W h => ⟨h.1.trans (by unfold wI; simp), h.2.of_eq (by ac_rfl)⟩
end
section
variable {w0 w : World} {F : HP} {v fv : Value} {l : List Int} {x n key c r : Int} {P : Int → Bool} {given : Bool}
theorem Qo (H : V w0 w F) (hr : jq w0 F .i32 v l) (hf : ∀ W r, V w0 W F → qZ prog fv [.int .i32 r] W fun u W' => u = .bool (!P r) ∧ V w0 W' F) : gJ prog 40 #[v, fv] w fun u w' => u = .int .i64 (if jY P l 0 < l.length then jY P l 0 else -1) ∧ V w0 w' F := by
 have Vm : l.length ≤ 9223372036854775807 := by have := (hr _ H).open; obtain ⟨a, c, e, h3, h4, _⟩ := this; omega
 refine nT func40 ntmps40 ?_
 refine jr O (aP (bT O (aV (iQ (hr _ (H)) ay O) (bP O (iJ (aY ?_))))))
 refine fF [(0, _), (1, _), (7, _)] (fun (i : Int) => [(8, .int .i64 i)]) (fun (i : Int) W => ((0 ≤ i ∧ i ≤ l.length) ∧ jY P l i = jY P l 0) ∧ V w0 W F) (fun (i : Int) => (l.length - i).toNat) (0) uH lG ⟨⟨by omega, O⟩, H⟩ ?_
 rintro i w1 ⟨⟨hi, hE⟩, HL⟩
 dsimp only [List.cons_append, List.nil_append]
 refine iH (aV (gY O O) (pK (bI O (fun h1 => ?_) (fun h1 => ?_))))
 ·(try simp only [Z] at h1)
  refine gq (aP (aY (bT O (gI O (bT O (jG O O ?_))))))
  obtain ⟨bv, ov, cv, ev⟩ := fB.pJ (hr _ (HL)) (by omega)
  cases ev
  refine aV (dD ay bQ O O (by omega)) ?_
  refine aV (eG (bY aZ O) O (by first | exact fB.kX (hr _ (HL)) (by omega) | exact fB.uQ (hr _ (HL)) (by omega) | exact fB.uG (hr _ (HL)) (by omega))) ?_
  refine jv (nJ O O (hf _ (l.getD i.toNat 0) HL)) ?_
  rintro _ w2 ⟨rfl, H2⟩
  refine je O (fun h2 => ?_) (fun h2 => ?_)
  ·(try simp only [Z] at h2)
   have hP : ¬ P (l.getD i.toNat 0) = true := by have h9 := h2; simpa using h9
   refine bT O (fC O (aT (aF (aF (aT (aF (dH results40 O ?_)))))))
   exact ⟨by rw [← hE, kV hi.1 (by omega) hP, if_pos (by omega)], H2⟩
  ·(try simp only [Z] at h2)
   have hP : P (l.getD i.toNat 0) = true := by have h9 := h2; simpa using h9
   refine bZ (aJ (aX (aC (aV (fQ O O (by omega)) (bP O (bM ?_))))))
   refine dK (i + 1) ?_ ?_ ?_ ?_
   ·exact lG
   ·exact uH
   ·(try dsimp only)
    first | done | exact ⟨⟨by omega, (qy hi.1 (by omega) hP).symm.trans hE⟩, H2⟩
   ·(try dsimp only); omega
 ·(try simp only [Z] at h1)
  refine dB (aI (aI (bf (aX (jL O (dH results40 O ?_))))))
  exact ⟨by rw [← hE, jm (by omega), if_neg (by omega)], HL⟩
theorem Qp (H : V w0 w F) (hT : wS w0) : gJ prog 41 #[.int .i32 r] w fun u w' => u = .bool (!(eH r == 0)) ∧ V w0 w' F := by
  refine iG func41 ntmps41 ?_
  refine jr O (bT O (dY O func14 (nY H hT) ?_))
  rintro _ w1 ⟨rfl, H1⟩
  refine aV (iU O O) (fC O (dH results41 O ?_))
  exact ⟨O, H1⟩
theorem Wx (h : key = 119 ∨ key = 87 ∨ key = 98 ∨ key = 66 ∨ key = 101 ∨ key = 69) : jJ l x key c n = wI l x key n := by
  unfold jJ
  rw [if_neg (by omega), if_neg (by omega), if_neg (by omega), if_neg (by omega), if_neg (by omega), if_neg (by omega), if_neg (by omega), if_neg (by omega)]
theorem Yt (h : ¬ (key = 119 ∨ key = 87 ∨ key = 98 ∨ key = 66 ∨ key = 101 ∨ key = 69)) : wI l x key n = (0, false, false) := by
  unfold wI
  rw [if_neg (by omega), if_neg (by omega), if_neg (by omega)]
theorem pq (H : V w0 w F) (hr : jq w0 F .i32 v l) (hT : wS w0) (hl8 : l.length ≤ 4611686018427387904) (hn : n ≤ 9223372036854775807) : gJ prog 11 #[v, .int .i64 x, .int .i32 key, .int .i32 c, .int .i64 n, .bool given] w fun u w' => u = PN (jf l x key c n) ∧ V w0 w' F := by
 obtain ⟨y, hy⟩ : ∃ y, y = min (max x 0) (l.length : Int) := ⟨_, rfl⟩
 obtain ⟨m, hm⟩ : ∃ m, m = max n 1 := ⟨_, rfl⟩
 unfold jf
 rw [← hy, ← hm]
 have hy2 : 0 ≤ y ∧ y ≤ l.length := by omega
 have hm2 : 1 ≤ m ∧ m ≤ 9223372036854775807 := by omega
 refine TV func11 ntmps11 ?_
 dsimp only [vS, Nat.reduceAdd]
 refine iH (fV O (fV O (gI O (bT O (aV (Uh O O) (bP O (aV (iQ (hr _ (H)) ay O) (aV (LJ (CB O O) (congrArg (Value.int .i64) hy.symm)) (gI O (bT O (aV (LJ (Uh O O) (congrArg (Value.int .i64) hm.symm)) (wu O (iH (dY O func39 (Qn H) ?_))))))))))))))
 rintro _ w1 ⟨b1, q1, q2, q3, q4, q5, q6, rfl, H1⟩
 refine bP O (aV (zX (H1) ni aZ zeroValue85 O O) (bP O (qQ O O (qQ O O (fV O (gI O (bT O (je O (fun h1 => ?_) (fun h1 => ?_)))))))))
 ·(try simp only [Z] at h1)
  try (exfalso; first | contradiction | omega)
  all_goals
   have hk : key = 119 ∨ key = 87 ∨ key = 98 ∨ key = 66 ∨ key = 101 ∨ key = 69 := Decidable.byContradiction fun hc => by have h9 := h1; rw [N8 hc] at h9; exact absurd h9 (by decide)
   refine bT O (jG O O (bP O (jv (nJ O O (Oa H1.f2 hk hT (fun W HW => hr W HW.right) hl8 hy2 hm2.2 _)) ?_)))
   rintro _ w2 ⟨rfl, H2⟩
   refine qQ O O (qQ O O (qQ O O (fV O (fV O (fC O (aF ?_))))))
   refine gX (.inl O) lC O O O ?_
   exact ⟨by rw [Wx hk]; rfl, H2.right.right⟩
 ·(try simp only [Z] at h1)
  try (exfalso; first | contradiction | omega)
  all_goals
   have hk : ¬ (key = 119 ∨ key = 87 ∨ key = 98 ∨ key = 66 ∨ key = 101 ∨ key = 69) := fun hc => by have h9 := h1; rw [N9 hc] at h9; exact absurd h9 (by decide)
   refine gq (aP (bT O (iJ (aY (iH (aV (dR O O) (gI O (bI O (fun h2 => ?_) (fun h2 => ?_)))))))))
   ·(try simp only [Z] at h2)
    try (exfalso; first | contradiction | omega)
    all_goals
     refine aP (bT O (aV (dR O O) (je O (fun h3 => ?_) (fun h3 => ?_))))
     ·(try simp only [Z] at h3)
      try (exfalso; first | contradiction | omega)
      all_goals
       refine iH (fV O (fV O (fC O (aF (aT (aF ?_))))))
       refine gX (.inl O) lC O O O ?_
       exact ⟨by unfold jJ; rw [if_pos (by omega), if_pos (by omega)]; rfl, H1.right.right⟩
     ·(try simp only [Z] at h3)
      try (exfalso; first | contradiction | omega)
      all_goals
       refine gq (bT O (jG O O (aV (CB O O) (aV (kU O O (by omega)) (fV O (fV O (fC O (aT (aF ?_)))))))))
       refine gX (.inl O) lC O O O ?_
       exact ⟨by unfold jJ; rw [if_pos (by omega), if_neg (by omega)]; rfl, H1.right.right⟩
   ·(try simp only [Z] at h2)
    try (exfalso; first | contradiction | omega)
    all_goals
     refine kS [(0, _), (1, _), (2, _), (3, _), (4, _), (40, _)] (fun (_ : Unit) => [(50, .bool (decide (key = 108 ∨ key = 32)))]) (fun (_ : Unit) W => V w0 W (fG (wF .i32) b1 (Af q1 q2 q3 q4 q5 q6) • EP q1 q2 q3 q4 q5 q6 • F)) TW ?_ ?_
     ·rintro _ w3 HJ
      dsimp only [List.cons_append, List.nil_append]
      refine bI O (fun h4 => ?_) (fun h4 => ?_)
      ·(try simp only [Z] at h4)
       try (exfalso; first | contradiction | omega)
       all_goals
        refine aP (bT O (bP O (aV (iQ (hr _ (HJ.right.right)) ay O) (aV (dR O O) (je O (fun h5 => ?_) (fun h5 => ?_))))))
        ·(try simp only [Z] at h5)
         try (exfalso; first | contradiction | omega)
         all_goals
          refine iH (fV O (fV O (fC O (aF (aT (aF ?_))))))
          refine gX (.inl O) lC O O O ?_
          exact ⟨by unfold jJ; rw [if_neg (by omega), if_pos (by omega), if_pos (by omega)]; rfl, HJ.right.right⟩
        ·(try simp only [Z] at h5)
         try (exfalso; first | contradiction | omega)
         all_goals
          refine gq (bT O (jG O O (aV (iQ (hr _ (HJ.right.right)) ay O) (bP O (aV (kU O O (by omega)) (aV (CB O O) (aV (fQ O O (by omega)) (fV O (fV O (fC O (aT (aF ?_))))))))))))
          refine gX (.inl O) lC O O O ?_
          exact ⟨by unfold jJ; rw [if_neg (by omega), if_pos (by omega), if_neg (by omega)]; rfl, HJ.right.right⟩
      ·(try simp only [Z] at h4)
       try (exfalso; first | contradiction | omega)
       all_goals
        refine iH (aV (dR O O) (gI O (bI O (fun h6 => ?_) (fun h6 => ?_))))
        ·(try simp only [Z] at h6)
         try (exfalso; first | contradiction | omega)
         all_goals
          refine iH (fV O (fV O (fC O (aT (aF ?_)))))
          refine gX (.inl O) lC O O O ?_
          exact ⟨by unfold jJ; rw [if_neg (by omega), if_neg (by omega), if_pos (by omega)]; rfl, HJ.right.right⟩
        ·(try simp only [Z] at h6)
         try (exfalso; first | contradiction | omega)
         all_goals
          refine iH (aV (dR O O) (gI O (bI O (fun h7 => ?_) (fun h7 => ?_))))
          ·(try simp only [Z] at h7)
           try (exfalso; first | contradiction | omega)
           all_goals
            refine bT O (aV (iQ (hr _ (HJ.right.right)) ay O) (fV O (fV O (fC O (aT (aF ?_))))))
            refine gX (.inl O) lC O O O ?_
            exact ⟨by unfold jJ; rw [if_neg (by omega), if_neg (by omega), if_neg (by omega), if_pos (by omega)]; rfl, HJ.right.right⟩
          ·(try simp only [Z] at h7)
           try (exfalso; first | contradiction | omega)
           all_goals
            refine iH (aV (dR O O) (gI O (bI O (fun h8 => ?_) (fun h8 => ?_))))
            ·(try simp only [Z] at h8)
             try (exfalso; first | contradiction | omega)
             all_goals
              refine bT O (aV (kU O O (by omega)) (bP O (aV (iQ (hr _ (HJ.right.right)) ay O) (aV (CB O O) (fV O (fV O (fC O (aT (aF ?_)))))))))
              refine gX (.inl O) lC O O O ?_
              exact ⟨by unfold jJ; rw [if_neg (by omega), if_neg (by omega), if_neg (by omega), if_neg (by omega), if_neg (by omega), if_pos (by omega)]; rfl, HJ.right.right⟩
            ·(try simp only [Z] at h8)
             try (exfalso; first | contradiction | omega)
             all_goals
              refine iH (aV (dR O O) (gI O (bI O (fun h9 => ?_) (fun h9 => ?_))))
              ·(try simp only [Z] at h9)
               try (exfalso; first | contradiction | omega)
               all_goals
                refine bT O (dY O func40 (Qo (P := fun r => eH r == 0) HJ (fun W HW => hr _ (HW.right.right)) (fun W r HW => ⟨41, [], [], _, _, O, func41, O, O, Qp HW hT⟩)) ?_)
                rintro _ w4 ⟨rfl, H4⟩
                have hrb := qJ (P := fun r => eH r == 0) (l := l) (x := 0) (by omega) (by omega)
                refine gI O ?_
                refine kS [] (fun (_ : Unit) => [(17, .int .i64 (jY (fun r => eH r == 0) l 0))]) (fun (_ : Unit) W => V w0 W (fG (wF .i32) b1 (Af q1 q2 q3 q4 q5 q6) • EP q1 q2 q3 q4 q5 q6 • F)) (Sub.nil _) ?_ ?_
                ·rintro _ w5 HN
                 dsimp only [List.cons_append, List.nil_append]
                 refine bT O (fV O (fV O (fC O (aT (aF ?_)))))
                 refine gX (.inl O) lC O O O ?_
                 exact ⟨by unfold jJ; rw [if_neg (by omega), if_neg (by omega), if_neg (by omega), if_neg (by omega), if_pos (by omega)]; rfl, HN.right.right⟩
                ·skip
                 refine bT O (aV (gY O O) (je O (fun h10 => ?_) (fun h10 => ?_)))
                 ·(try simp only [Z] at h10)
                  try (exfalso; first | contradiction | omega)
                  all_goals
                   refine aC (bP O (aV (iQ (hr _ (H4.right.right)) ay O) (fV O (bM ?_))))
                   refine dn (()) ?_ ?_ ?_
                   ·exact (Sub.jC O (by congr 1; by_cases hq : jY (fun r => eH r == 0) l 0 < l.length <;> simp_all <;> omega) (Sub.nil _))
                   ·exact (Sub.nil _)
                   ·(try dsimp only)
                    first | done | exact H4.f2.f2
                 ·(try simp only [Z] at h10)
                  try (exfalso; first | contradiction | omega)
                  all_goals
                   refine bZ ?_
                   refine dn (()) ?_ ?_ ?_
                   ·exact (Sub.jC O (by congr 1; by_cases hq : jY (fun r => eH r == 0) l 0 < l.length <;> simp_all <;> omega) (Sub.nil _))
                   ·exact (Sub.nil _)
                   ·(try dsimp only)
                    first | done | exact H4.f2.f2
              ·(try simp only [Z] at h9)
               try (exfalso; first | contradiction | omega)
               all_goals
                refine kS [(0, _), (1, _), (2, _), (3, _), (4, _), (40, _)] (fun (_ : Unit) => [(87, .bool (decide (key = 102 ∨ key = 70 ∨ key = 116 ∨ key = 84)))]) (fun (_ : Unit) W => V w0 W (fG (wF .i32) b1 (Af q1 q2 q3 q4 q5 q6) • EP q1 q2 q3 q4 q5 q6 • F)) TW ?_ ?_
                ·rintro _ w6 HK
                 dsimp only [List.cons_append, List.nil_append]
                 refine bI O (fun h11 => ?_) (fun h11 => ?_)
                 ·(try simp only [Z] at h11)
                  try (exfalso; first | contradiction | omega)
                  all_goals
                   refine bT O (jG O O (jG O O (dY O func42 (PS HK (fun W HW => hr _ (HW.right.right)) (by omega) (by omega) (by omega) (by omega)) ?_)))
                   rintro _ w7 ⟨rfl, H7⟩
                   refine qQ O O (qQ O O (qQ O O (fV O (fV O (fC O (aT (aF ?_)))))))
                   refine gX (.inl O) lC O O O ?_
                   exact ⟨by unfold jJ; rw [if_neg (by omega), if_neg (by omega), if_neg (by omega), if_neg (by omega), if_neg (by omega), if_neg (by omega), if_pos (by omega)]; rfl, H7.right.right⟩
                 ·(try simp only [Z] at h11)
                  try (exfalso; first | contradiction | omega)
                  all_goals
                   refine iH (aV (dR O O) (gI O (bI O (fun h12 => ?_) (fun h12 => ?_))))
                   ·(try simp only [Z] at h12)
                    try (exfalso; first | contradiction | omega)
                    all_goals
                     refine bT O (bP O (dY O func43 (Ld HK (fun W HW => hr _ (HW.right.right)) (by omega) (by omega)) ?_))
                     rintro _ w8 ⟨rfl, H8⟩
                     refine qQ O O (qQ O O (qQ O O (fV O (fV O (fC O (aT (aF ?_)))))))
                     refine gX (.inl O) lC O O O ?_
                     exact ⟨by unfold jJ; rw [if_neg (by omega), if_neg (by omega), if_neg (by omega), if_neg (by omega), if_neg (by omega), if_neg (by omega), if_neg (by omega), if_pos (by omega)]; rfl, H8.right.right⟩
                   ·(try simp only [Z] at h12)
                    try (exfalso; first | contradiction | omega)
                    all_goals
                     refine bZ (aJ (aX (iH (fV O (fV O (fC O ?_))))))
                     refine gX (.inl O) lC O O O ?_
                     exact ⟨by unfold jJ; rw [if_neg (by omega), if_neg (by omega), if_neg (by omega), if_neg (by omega), if_neg (by omega), if_neg (by omega), if_neg (by omega), if_neg (by omega), Yt hk]; rfl, HK.right.right⟩
                ·skip
                 refine iH (aV (dR O O) (gI O (bI O (fun h13 => ?_) (fun h13 => ?_))))
                 ·(try simp only [Z] at h13)
                  try (exfalso; first | contradiction | omega)
                  all_goals
                   refine bZ ?_
                   refine dn (()) ?_ ?_ ?_
                   ·exact (Sub.jC O (congrArg Value.bool (decide_eq_decide.2 (by omega))) (Sub.nil _))
                   ·exact TW
                   ·(try dsimp only)
                    first | done | exact HJ.f2.f2
                 ·(try simp only [Z] at h13)
                  try (exfalso; first | contradiction | omega)
                  all_goals
                   refine iH (aV (dR O O) (gI O (bI O (fun h14 => ?_) (fun h14 => ?_))))
                   ·(try simp only [Z] at h14)
                    try (exfalso; first | contradiction | omega)
                    all_goals
                     refine bZ ?_
                     refine dn (()) ?_ ?_ ?_
                     ·exact (Sub.jC O (congrArg Value.bool (decide_eq_decide.2 (by omega))) (Sub.nil _))
                     ·exact TW
                     ·(try dsimp only)
                      first | done | exact HJ.f2.f2
                   ·(try simp only [Z] at h14)
                    try (exfalso; first | contradiction | omega)
                    all_goals
                     refine iH (aV (dR O O) (gI O (bI O (fun h15 => ?_) (fun h15 => ?_))))
                     ·(try simp only [Z] at h15)
                      try (exfalso; first | contradiction | omega)
                      all_goals
                       refine bZ ?_
                       refine dn (()) ?_ ?_ ?_
                       ·exact (Sub.jC O (congrArg Value.bool (decide_eq_decide.2 (by omega))) (Sub.nil _))
                       ·exact TW
                       ·(try dsimp only)
                        first | done | exact HJ.f2.f2
                     ·(try simp only [Z] at h15)
                      try (exfalso; first | contradiction | omega)
                      all_goals
                       refine aC (aV (dR O O) (fV O (bM ?_)))
                       refine dn (()) ?_ ?_ ?_
                       ·exact (Sub.jC O (congrArg Value.bool (decide_eq_decide.2 (by omega))) (Sub.nil _))
                       ·exact TW
                       ·(try dsimp only)
                        first | done | exact HJ.f2.f2
     ·skip
      refine iH (aV (dR O O) (gI O (bI O (fun h16 => ?_) (fun h16 => ?_))))
      ·(try simp only [Z] at h16)
       try (exfalso; first | contradiction | omega)
       all_goals
        refine bZ ?_
        refine dn (()) ?_ ?_ ?_
        ·exact (Sub.jC O (congrArg Value.bool (decide_eq_decide.2 (by omega))) (Sub.nil _))
        ·exact TW
        ·(try dsimp only)
         first | done | exact H1.f2.f2
      ·(try simp only [Z] at h16)
       try (exfalso; first | contradiction | omega)
       all_goals
        refine aC (aV (dR O O) (fV O (bM ?_)))
        refine dn (()) ?_ ?_ ?_
        ·exact (Sub.jC O (congrArg Value.bool (decide_eq_decide.2 (by omega))) (Sub.nil _))
        ·exact TW
        ·(try dsimp only)
         first | done | exact H1.f2.f2
end
def Qq : ByteArray := ⟨#[102, 70, 116, 84]⟩
def qE (n : ByteArray) : ByteArray :=
  if n.toList = y5.toList then ⟨#[100, 68]⟩ else if n.toList = BP.toList then ⟨#[99, 67]⟩ else if n.toList = Eh.toList then ⟨#[121, 89]⟩ else if n.toList = Vw.toList then ⟨#[120, 88]⟩ else
  if n.toList = VA.toList then ⟨#[115, 83]⟩ else if n.toList = Vz.toList then ⟨#[112, 80]⟩ else if n.toList = Vx.toList then ⟨#[105, 97, 73, 65]⟩ else if n.toList = VB.toList then ⟨#[117, 85]⟩ else ⟨#[]⟩
namespace VM
variable (M : VM)
def tgt (l : List Int) (p : Int) (keys : List Int) (n : Int) : Int × Bool × Bool :=
  if keys.length = 0 then (0, false, false)
  else if keys.getD 0 0 = 96 then (M.at (if 1 < keys.length then keys.getD 1 0 else 0), false, decide (0 ≤ M.at (if 1 < keys.length then keys.getD 1 0 else 0) ∧ M.at (if 1 < keys.length then keys.getD 1 0 else 0) ≤ l.length))
  else if keys.getD 0 0 = 59 ∨ keys.getD 0 0 = 44 then (if M.fk = 0 then (0, false, false) else jf l p (if keys.getD 0 0 = 44 then bits .xor .i32 M.fk 32 else M.fk) M.fc n)
  else jf l p (keys.getD 0 0) (if 1 < keys.length then keys.getD 1 0 else 0) n
def sought (l : List Int) (p : Int) (keys : List Int) (n : Int) : VM :=
  if keys.length = 0 then M else if keys.getD 0 0 = 96 then M else if keys.getD 0 0 = 59 ∨ keys.getD 0 0 = 44 then M
  else if (jf l p (keys.getD 0 0) (if 1 < keys.length then keys.getD 1 0 else 0) n).2.2 = true ∧ keys.getD 0 0 ∈ Ec Qq then { M with fk := keys.getD 0 0, fc := if 1 < keys.length then keys.getD 1 0 else 0 } else M
end VM
section
variable {w0 w : World} {F : HP} {c m e : Nat} {s : dG} {name : ByteArray} {kv lv qv : Value} {keys l ks : List Int} {n p x q : Int} {g : Bool} {M M' : VM}
theorem Ob : gJ prog 160 #[.string name] w fun v w' => v = .string (qE name) ∧ w = w' := by
 refine iG func160 ntmps160 ?_
 refine jr O (aP (bT O (iJ (aY (iH (aV (fP O O) (gI O (bI O (fun h1 => ?_) (fun h1 => ?_)))))))))
 ·(try simp only [Z] at h1)
  refine jL O (aT (aF (dH mV O ?_)))
  refine ⟨congrArg Value.string ?_, O⟩
  unfold qE
  repeat (first | (rw [if_pos (by assumption)]; done) | rw [if_neg (by assumption)])
 ·(try simp only [Z] at h1)
  refine iH (aV (fP O O) (gI O (bI O (fun h2 => ?_) (fun h2 => ?_))))
  ·(try simp only [Z] at h2)
   refine jL O (aT (aF (dH mV O ?_)))
   refine ⟨congrArg Value.string ?_, O⟩
   unfold qE
   repeat (first | (rw [if_pos (by assumption)]; done) | rw [if_neg (by assumption)])
  ·(try simp only [Z] at h2)
   refine iH (aV (fP O O) (gI O (bI O (fun h3 => ?_) (fun h3 => ?_))))
   ·(try simp only [Z] at h3)
    refine jL O (aT (aF (dH mV O ?_)))
    refine ⟨congrArg Value.string ?_, O⟩
    unfold qE
    repeat (first | (rw [if_pos (by assumption)]; done) | rw [if_neg (by assumption)])
   ·(try simp only [Z] at h3)
    refine iH (aV (fP O O) (gI O (bI O (fun h4 => ?_) (fun h4 => ?_))))
    ·(try simp only [Z] at h4)
     refine jL O (aT (aF (dH mV O ?_)))
     refine ⟨congrArg Value.string ?_, O⟩
     unfold qE
     repeat (first | (rw [if_pos (by assumption)]; done) | rw [if_neg (by assumption)])
    ·(try simp only [Z] at h4)
     refine iH (aV (fP O O) (gI O (bI O (fun h5 => ?_) (fun h5 => ?_))))
     ·(try simp only [Z] at h5)
      refine jL O (aT (aF (dH mV O ?_)))
      refine ⟨congrArg Value.string ?_, O⟩
      unfold qE
      repeat (first | (rw [if_pos (by assumption)]; done) | rw [if_neg (by assumption)])
     ·(try simp only [Z] at h5)
      refine iH (aV (fP O O) (gI O (bI O (fun h6 => ?_) (fun h6 => ?_))))
      ·(try simp only [Z] at h6)
       refine jL O (aT (aF (dH mV O ?_)))
       refine ⟨congrArg Value.string ?_, O⟩
       unfold qE
       repeat (first | (rw [if_pos (by assumption)]; done) | rw [if_neg (by assumption)])
      ·(try simp only [Z] at h6)
       refine iH (aV (fP O O) (gI O (bI O (fun h7 => ?_) (fun h7 => ?_))))
       ·(try simp only [Z] at h7)
        refine jL O (aT (aF (dH mV O ?_)))
        refine ⟨congrArg Value.string ?_, O⟩
        unfold qE
        repeat (first | (rw [if_pos (by assumption)]; done) | rw [if_neg (by assumption)])
       ·(try simp only [Z] at h7)
        refine iH (aV (fP O O) (gI O (bI O (fun h8 => ?_) (fun h8 => ?_))))
        ·(try simp only [Z] at h8)
         refine jL O (aT (aF (dH mV O ?_)))
         refine ⟨congrArg Value.string ?_, O⟩
         unfold qE
         repeat (first | (rw [if_pos (by assumption)]; done) | rw [if_neg (by assumption)])
        ·(try simp only [Z] at h8)
         refine bZ (aJ (aX (jL O (dH mV O ?_))))
         refine ⟨congrArg Value.string ?_, O⟩
         unfold qE
         repeat (first | (rw [if_pos (by assumption)]; done) | rw [if_neg (by assumption)])
theorem acx (h : keys.length = 0) : M.tgt l p keys n = (0, false, false) ∧ M.sought l p keys n = M := ⟨if_pos h, if_pos h⟩
theorem Zp (h : ¬ keys.length = 0) (h1 : keys.getD 0 0 = 96) : M.tgt l p keys n = (M.at (if 1 < keys.length then keys.getD 1 0 else 0), false, decide (0 ≤ M.at (if 1 < keys.length then keys.getD 1 0 else 0) ∧ M.at (if 1 < keys.length then keys.getD 1 0 else 0) ≤ l.length)) ∧ M.sought l p keys n = M := by
  unfold VM.tgt VM.sought; rw [if_neg h, if_neg h, if_pos h1, if_pos h1]; exact ⟨rfl, rfl⟩
theorem acy (h : ¬ keys.length = 0) (h1 : ¬ keys.getD 0 0 = 96) (h2 : keys.getD 0 0 = 59 ∨ keys.getD 0 0 = 44) : M.tgt l p keys n = (if M.fk = 0 then (0, false, false) else jf l p (if keys.getD 0 0 = 44 then bits .xor .i32 M.fk 32 else M.fk) M.fc n) ∧ M.sought l p keys n = M := by
  unfold VM.tgt VM.sought; rw [if_neg h, if_neg h, if_neg h1, if_neg h1, if_pos h2, if_pos h2]; exact ⟨rfl, rfl⟩
theorem acz (h : ¬ keys.length = 0) (h1 : ¬ keys.getD 0 0 = 96) (h2 : ¬ (keys.getD 0 0 = 59 ∨ keys.getD 0 0 = 44)) : M.tgt l p keys n = jf l p (keys.getD 0 0) (if 1 < keys.length then keys.getD 1 0 else 0) n ∧ M.sought l p keys n = (if (jf l p (keys.getD 0 0) (if 1 < keys.length then keys.getD 1 0 else 0) n).2.2 = true ∧ keys.getD 0 0 ∈ Ec Qq then { M with fk := keys.getD 0 0, fc := (if 1 < keys.length then keys.getD 1 0 else 0) } else M) := by
  unfold VM.tgt VM.sought; rw [if_neg h, if_neg h, if_neg h1, if_neg h1, if_neg h2, if_neg h2]; exact ⟨rfl, rfl⟩
theorem Wy (H : V w0 w (VC c m e name kv q g lv p • kW 21 .i32 lv l • oW m M • F)) (hr : jq w0 F .i32 qv keys) (hT : wS w0) (Vm : l.length ≤ 4611686018427387904) (hn : n ≤ 9223372036854775807) :
  gJ prog 162 #[.pointer (some ⟨c, 0, none⟩), qv, .int .i64 n] w fun v w' => v = PN (M.tgt l p keys n) ∧ V w0 w' (VC c m e name kv q g lv p • kW 21 .i32 lv l • oW m (M.sought l p keys n) • F) := by
 refine CQ func162 ntmps162 ?_
 refine iH (fV O (fV O (wu O (bT O (aV (iQ (hr _ (H.right.right.right)) ay O) (aV (dR O O) (je O (fun h1 => ?_) (fun h1 => ?_))))))))
 ·(try simp only [Z] at h1)
  refine iH (fV O (fV O (fC O (aF ?_))))
  refine gX (.inl O) results162 O O O ?_
  obtain ⟨h8, h9⟩ := acx (M := M) (l := l) (p := p) (n := n) (keys := keys) (by omega)
  exact ⟨by rw [h8]; rfl, by rw [h9]; exact H.f3.f3.f3⟩
 ·(try simp only [Z] at h1)
  refine gq (aP ?_)
  have hk0 : ¬ keys.length = 0 := by omega
  refine aC (bP O ?_)
  obtain ⟨bqv, oqv, cqv, eqv⟩ := fB.pJ (hr _ (H.right.right.right)) (by omega)
  cases eqv
  refine aV (dD ay bQ O O (by omega)) ?_
  refine aV (eG (bY aZ O) O (by first | exact fB.kX (hr _ (H.right.right.right)) (by omega) | exact fB.uQ (hr _ (H.right.right.right)) (by omega) | exact fB.uG (hr _ (H.right.right.right)) (by omega))) ?_
  refine fV O (gI O ?_)
  refine kS [(0, _), (2, _), (9, _)] (fun (_ : Unit) => [(10, .int .i32 (if 1 < keys.length then keys.getD 1 0 else 0))]) (fun (_ : Unit) W => V w0 W (VC c m e name kv q g lv p • kW 21 .i32 lv l • oW m M • F)) uH ?_ ?_
  ·rintro _ w1 HJ
   dsimp only [List.cons_append, List.nil_append]
   refine aP (bT O (iJ (aY (iH (aV (dR O O) (gI O (bI O (fun h2 => ?_) (fun h2 => ?_))))))))
   ·(try simp only [Z] at h2)
    have hk1 : keys.getD 0 0 = 96 := h2
    refine bT O (dJ O (bD 0 dw O sizeOf41 O (fZ underlying41 O (HJ).get.2 O (bP O (dY O func183 (Ny HJ.f3) ?_)))))
    rintro _ w2 ⟨rfl, H2⟩
    refine wu O ?_
    have Yu := H2.drew
    have nR := V.kp (Yu.f3.f3.f3)
    refine yw [8] nR O (jB 0 O nR O (jB 1 O nR O (ji 2 O nR (fun _ => ku O O) ?_)))
    refine vZ 3 O O (by kernel_rfl) (by kernel_rfl) nR (jW O) (fun h3 => ?_) (fun h3 => ?_)
    ·(try simp only [Z] at h3)
     refine dI 4 O O O (by kernel_rfl) (by kernel_rfl) nR (fun _ => pY O) (jW O) ?_
     refine dI 5 O O O (by kernel_rfl) (by kernel_rfl) nR (fun _ => pY O) (jW O) ?_
     refine dI 6 O O O (by kernel_rfl) (by kernel_rfl) nR (fun _ => LK O) (jW O) ?_
     refine dI 7 O O O (by kernel_rfl) (by kernel_rfl) nR (fun _ => CG 6 dw O O dM (by decide) O rfl) (jW O) ?_
     refine tJ 8 O O O (by kernel_rfl) (by kernel_rfl) nR (by decide) (fun W hW => eG (bY ay O) O (jd ((Kp.h hW).f2).get.2 O)) (jW O) ?_
     refine dI 9 O O O (by kernel_rfl) (by kernel_rfl) nR (fun _ => iQ ((Yu.f3).aS) ay O) (jW O) ?_
     refine dI 10 O O O (by kernel_rfl) (by kernel_rfl) nR (fun _ => oN O O) (jW O) ?_
     refine ji 11 O nR (fun _ => tC O O) (ji 12 O nR (fun _ => dN O) (ji 13 O nR (fun _ => dN O) (ji 14 O nR (fun _ => dN O) (qU (aX (lS (aT (aF ?_))))))))
     refine gX (.inl O) results162 O O O ?_
     obtain ⟨e1, e2⟩ := Zp (M := M) (l := l) (p := p) (n := n) hk0 hk1
     refine ⟨?_, by rw [e2]; exact Yu.f3.f3⟩
     rw [e1]
     refine congrArg (fun b => Value.tuple #[.int .i64 (M.at (if 1 < keys.length then keys.getD 1 0 else 0)), .bool false, .bool b]) ?_
     first | exact decide_eq_decide.2 (by omega) | exact (decide_eq_false (by omega)).symm
    ·(try simp only [Z] at h3)
     refine vY 4 O O O O (by kernel_rfl) (by kernel_rfl) nR (jW O) ?_
     refine vY 5 O O O O (by kernel_rfl) (by kernel_rfl) nR (jW O) ?_
     refine vY 6 O O O O (by kernel_rfl) (by kernel_rfl) nR (jW O) ?_
     refine vY 7 O O O O (by kernel_rfl) (by kernel_rfl) nR (jW O) ?_
     refine vY 8 O O O O (by kernel_rfl) (by kernel_rfl) nR (jW O) ?_
     refine vY 9 O O O O (by kernel_rfl) (by kernel_rfl) nR (jW O) ?_
     refine vY 10 O O O O (by kernel_rfl) (by kernel_rfl) nR (jW O) ?_
     refine ji 11 O nR (fun _ => Cm O O) (ji 12 O nR (fun _ => dN O) (ji 13 O nR (fun _ => dN O) (ji 14 O nR (fun _ => dN O) (qU (aX (lS (aT (aF ?_))))))))
     refine gX (.inl O) results162 O O O ?_
     obtain ⟨e1, e2⟩ := Zp (M := M) (l := l) (p := p) (n := n) hk0 hk1
     refine ⟨?_, by rw [e2]; exact Yu.f3.f3⟩
     rw [e1]
     refine congrArg (fun b => Value.tuple #[.int .i64 (M.at (if 1 < keys.length then keys.getD 1 0 else 0)), .bool false, .bool b]) ?_
     first | exact decide_eq_decide.2 (by omega) | exact (decide_eq_false (by omega)).symm
   ·(try simp only [Z] at h2)
    have hk1 : ¬ keys.getD 0 0 = 96 := h2
    refine kS [(0, _), (2, _), (9, _), (10, _)] (fun (_ : Unit) => [(49, .bool (decide (keys.getD 0 0 = 59 ∨ keys.getD 0 0 = 44)))]) (fun (_ : Unit) W => V w0 W (VC c m e name kv q g lv p • kW 21 .i32 lv l • oW m M • F)) J6 ?_ ?_
    ·rintro _ w3 HK
     dsimp only [List.cons_append, List.nil_append]
     refine bI O (fun h4 => ?_) (fun h4 => ?_)
     ·(try simp only [Z] at h4)
      refine aP ?_
      obtain ⟨Nu, Nv, Nw, wK, wW⟩ := (HK.f3).vm
      have hk2 : keys.getD 0 0 = 59 ∨ keys.getD 0 0 = 44 := by omega
      obtain ⟨e1, e2⟩ := acy (M := M) (l := l) (p := p) (n := n) hk0 hk1 hk2
      refine aC (nD O O (bD 0 dw O sizeOf41 O (fZ underlying41 O (wW.f5).get.2 O (dJ O (bD 1 fE O sizeOf115 O (aV (nU 1 (xs := [_, _]) lW O sizeOf115 O O (wW).get.2 O) ?_))))))
      have XT := wW.f4.f4.f4.f4
      have XU := V.Bo (M := M) wK XT
      refine jv (fJ (l := [_, _]) XU zeroValue115 O) ?_
      rintro _ w8 ⟨b8, rfl, H8⟩
      refine aH (bU 0 (l' := [_, _]) (us := [_, _]) H8 sizeOf115 O O O (aA (aA bF)) O O) ?_
      rintro _ w9 H9
      refine pK (iH (bD 0 lW O bQ O (fZ aZ O (H9).get.2 O (aV (dR O O) (je O (fun h5 => ?_) (fun h5 => ?_))))))
      ·(try simp only [Z] at h5)
       have hf0 : M.fk = 0 := h5
       refine iH (fV O (fV O (fC O (aF (aT (aF ?_))))))
       refine gX (.inl O) results162 O O O ?_
       exact ⟨by rw [e1, if_pos hf0]; rfl, by rw [e2]; exact H9.right.f3.f3⟩
      ·(try simp only [Z] at h5)
       have hf0 : ¬ M.fk = 0 := h5
       refine gq ?_
       refine kS [(0, _), (2, _), (12, _)] (fun (_ : Unit) => []) (fun (_ : Unit) W => V w0 W (dL b8 (.cells #[.int .i32 (if keys.getD 0 0 = 44 then bits .xor .i32 M.fk 32 else M.fk), .int .i32 M.fc] 115 (0, 0)) • VC c m e name kv q g lv p • kW 21 .i32 lv l • oW m M • F)) uH ?_ ?_
       ·rintro _ w10 HN
        dsimp only [List.cons_append, List.nil_append]
        refine aP ?_
        have WA := HN.drew
        have lZ := V.kp (WA.f4.f4.f4.f4)
        refine yw [3, 7, 9, 11, 16] lZ O (jB 0 O lZ O (kJ 1 O lZ O (gU 2 O lZ 6 dw O dM O (jT 3 O lZ (fun W hW => kC ay O ((Kp.h hW).f2).get.2 O) (jB 4 O lZ O (kJ 5 O lZ O (gU 6 O lZ 7 dw O aj O (jT 7 O lZ (fun W hW => kC aK O ((Kp.h hW).f2).get.2 O) (gU 8 O lZ 0 lW O bQ O (jT 9 O lZ (fun W hW => kC aZ O ((Kp.h hW)).get.2 O) (gU 10 O lZ 1 lW O bQ O (jT 11 O lZ (fun W hW => kC aZ O ((Kp.h hW)).get.2 O) (jB 12 O lZ O (jB 13 O lZ O (kJ 14 O lZ O (gU 15 O lZ 5 dw O aO O (jT 16 O lZ (fun W hW => kC bK O ((Kp.h hW).f2).get.2 O) (oq 17 O (yN O func11 (pq WA (fun W HW => (HW.f3).aS) hT (by omega) (by omega))) ?_))))))))))))))))))
        rintro _ EH ⟨rfl, rF⟩
        have zo := V.kp (rF.f4.f4.f4.f4)
        refine gV zo (by kernel_rfl) ?_
        refine ji 18 O zo (fun _ => mJ O O) (ji 19 O zo (fun _ => mJ O O) (ji 20 O zo (fun _ => mJ O O) (ji 21 O zo (fun _ => dN O) (ji 22 O zo (fun _ => dN O) (ji 23 O zo (fun _ => dN O) (qU (aX (lS (aT (aF ?_))))))))))
        refine gX (.inl O) results162 O O O ?_
        exact ⟨by rw [e1, if_neg hf0]; rfl, by rw [e2]; exact rF.right.f3.f3.f3⟩
       ·skip
        refine bT O (aV (dR O O) (je O (fun h6 => ?_) (fun h6 => ?_)))
        ·(try simp only [Z] at h6)
         refine aC (bD 0 lW O bQ O (fZ aZ O (H9).get.2 O ?_))
         refine aV (X3 .xor O O (by simp)) ?_
         refine bD 0 lW O bQ O (aH (st2 0 H9 bQ) ?_)
         rintro _ w12 uI
         refine bM ?_
         refine dn (()) ?_ ?_ ?_
         ·exact (Sub.nil _)
         ·exact uH
         ·(try dsimp only)
          first | done | exact (by first | (rw [if_pos (by assumption)]; exact uI.f2.f4.f4.f4) | (rw [if_neg (by assumption)]; exact uI.f2.f4.f4.f4))
        ·(try simp only [Z] at h6)
         refine bZ ?_
         refine dn (()) ?_ ?_ ?_
         ·exact (Sub.nil _)
         ·exact uH
         ·(try dsimp only)
          first | done | exact (by first | (rw [if_pos (by assumption)]; exact H9.f2.f4.f4.f4) | (rw [if_neg (by assumption)]; exact H9.f2.f4.f4.f4))
     ·(try simp only [Z] at h4)
      refine bZ (aJ (aX (aP ?_)))
      have hk2 : ¬ (keys.getD 0 0 = 59 ∨ keys.getD 0 0 = 44) := by omega
      obtain ⟨e1, e2⟩ := acz (M := M) (l := l) (p := p) (n := n) hk0 hk1 hk2
      have WB := HK.drew
      have nH := V.kp (WB.f3.f3.f3)
      refine yw [3, 7, 14] nH O (jB 0 O nH O (kJ 1 O nH O (gU 2 O nH 6 dw O dM O (jT 3 O nH (fun W hW => kC ay O ((Kp.h hW)).get.2 O) (jB 4 O nH O (kJ 5 O nH O (gU 6 O nH 7 dw O aj O (jT 7 O nH (fun W hW => kC aK O ((Kp.h hW)).get.2 O) (jB 8 O nH O (jB 9 O nH O (jB 10 O nH O (jB 11 O nH O (kJ 12 O nH O (gU 13 O nH 5 dw O aO O (jT 14 O nH (fun W hW => kC bK O ((Kp.h hW)).get.2 O) (oq 15 O (yN O func11 (pq WB (fun W HW => (HW.f2).aS) hT (by omega) (by omega))) ?_))))))))))))))))
      rintro _ Pj ⟨rfl, xk⟩
      have uT := V.kp (xk.f3.f3.f3)
      refine gV uT (by kernel_rfl) ?_
      refine jB 16 O uT O (ji 17 O uT (fun _ => mJ O O) (ji 18 O uT (fun _ => mJ O O) (ji 19 O uT (fun _ => mJ O O) (ji 20 O uT (fun _ => dN O) (ji 21 O uT (fun _ => dN O) (ji 22 O uT (fun _ => dN O) (qU (aX (aP (bT O (jF O (fun h7 => ?_) (fun h7 => ?_))))))))))))
      ·(try simp only [Z] at h7)
       refine bC (bP O (bC (dY O func50 (Dp (s := Qq) (by decide)) ?_)))
       rintro _ _ ⟨rfl, rfl⟩
       refine jE O O (je O (fun h8 => ?_) (fun h8 => ?_))
       ·(try simp only [Z] at h8)
        obtain ⟨Nu, Nv, Nw, wK, wW⟩ := (xk.f3).vm
        refine aC (nD O O (bD 0 dw O sizeOf41 O (fZ underlying41 O (wW.f5).get.2 O (jG O O ?_))))
        refine aV (dS (zl := [.int .i32 0, .int .i32 0]) (pl := [(0, 1), (1, 1)]) [_, _] lW zeroValue115 O (fun w => by kernel_rfl) O (.on (.on .nil)) O) ?_
        refine dJ O (bD 1 fE O sizeOf115 O (aH (bU 1 (l' := [_, _, _, _, _, _, _, _]) (us := [_, _]) wW sizeOf115 O O O (aA (aA bF)) O O) ?_))
        rintro _ w16 yO
        have PE := yO.f4.f4.f4.f4
        have PG := V.Bo (M := { M with fk := keys.getD 0 0, fc := (if 1 < keys.length then keys.getD 1 0 else 0) }) wK PE
        refine qR O (jG O O (fV O (fV O (fC O ?_))))
        refine gX (.inl O) results162 O O O ?_
        refine ⟨by rw [e1]; rfl, ?_⟩
        rw [e2]
        first | (rw [if_pos ⟨by assumption, by assumption⟩]; exact PG.f3.f3) | (rw [if_neg (fun hc => absurd hc.2 (by assumption))]; exact PG.f3.f3) | (rw [if_neg (fun hc => absurd hc.1 (by simp only [*]; decide))]; exact PG.f3.f3)
       ·(try simp only [Z] at h8)
        refine gq (bT O (jG O O (fV O (fV O (fC O ?_)))))
        refine gX (.inl O) results162 O O O ?_
        refine ⟨by rw [e1]; rfl, ?_⟩
        rw [e2]
        first | (rw [if_pos ⟨by assumption, by assumption⟩]; exact xk.f3.f3.f3) | (rw [if_neg (fun hc => absurd hc.2 (by assumption))]; exact xk.f3.f3.f3) | (rw [if_neg (fun hc => absurd hc.1 (by simp only [*]; decide))]; exact xk.f3.f3.f3)
      ·(try simp only [Z] at h7)
       refine bJ (bJ (iL O O (iJ (qF (gq (bT O (jG O O (fV O (fV O (fC O ?_))))))))))
       refine gX (.inl O) results162 O O O ?_
       refine ⟨by rw [e1]; rfl, ?_⟩
       rw [e2]
       first | (rw [if_pos ⟨by assumption, by assumption⟩]; exact xk.f3.f3.f3) | (rw [if_neg (fun hc => absurd hc.2 (by assumption))]; exact xk.f3.f3.f3) | (rw [if_neg (fun hc => absurd hc.1 (by simp only [*]; decide))]; exact xk.f3.f3.f3)
    ·skip
     refine iH (aV (dR O O) (gI O (bI O (fun h9 => ?_) (fun h9 => ?_))))
     ·(try simp only [Z] at h9)
      refine bZ ?_
      refine dn (()) ?_ ?_ ?_
      ·exact (Sub.jC O (congrArg Value.bool (decide_eq_decide.2 (by omega))) (Sub.nil _))
      ·exact J6
      ·(try dsimp only)
       first | done | exact HJ.f3.f3.f3
     ·(try simp only [Z] at h9)
      refine aC (aV (dR O O) (fV O (bM ?_)))
      refine dn (()) ?_ ?_ ?_
      ·exact (Sub.jC O (congrArg Value.bool (decide_eq_decide.2 (by omega))) (Sub.nil _))
      ·exact J6
      ·(try dsimp only)
       first | done | exact HJ.f3.f3.f3
  ·skip
   refine bT O (aV (nI ay O) (aV (iV O O) (je O (fun h10 => ?_) (fun h10 => ?_))))
   ·(try simp only [Z] at h10)
    refine aC (bP O (aV (dD ay bQ O O (by omega)) ?_))
    refine aV (eG (bY aZ O) O (by first | exact fB.kX (hr _ (H.right.right.right)) (by omega) | exact fB.uQ (hr _ (H.right.right.right)) (by omega) | exact fB.uG (hr _ (H.right.right.right)) (by omega))) ?_
    refine fV O (bM ?_)
    refine dn (()) ?_ ?_ ?_
    ·exact (Sub.jC O (by first | (rw [if_pos (by omega)]; rfl) | rw [if_neg (by omega)]) (Sub.nil _))
    ·exact uH
    ·(try dsimp only)
     first | done | exact H.f3.f3.f3
   ·(try simp only [Z] at h10)
    refine bZ ?_
    refine dn (()) ?_ ?_ ?_
    ·exact (Sub.jC O (by first | (rw [if_pos (by omega)]; rfl) | rw [if_neg (by omega)]) (Sub.nil _))
    ·exact uH
    ·(try dsimp only)
     first | done | exact H.f3.f3.f3
end
theorem BA {a b : ByteArray} (h : a.data.toList ≠ b.data.toList) : ¬ a.toList = b.toList := by rw [ByteArray.toList_eq, ByteArray.toList_eq]; exact h
theorem Qr : qE rJ = ⟨#[]⟩ := by
  unfold qE
  rw [if_neg (BA (by decide)), if_neg (BA (by decide)), if_neg (BA (by decide)), if_neg (BA (by decide)), if_neg (BA (by decide)), if_neg (BA (by decide)), if_neg (BA (by decide)), if_neg (BA (by decide))]
theorem Yv {w0 w : World} {F : HP} {e : Nat} {s : dG} (H : V w0 w (gB e s • F)) : s.c.L.length ≤ 1024 ∧ (0 ≤ s.c.pt ∧ s.c.pt ≤ s.c.L.length) := by
  obtain ⟨pb, pr, pw, pt, pm, ph, bl, pv, es, u0, u1, u2, u3, u4, u5, u6, u7, u8, u9, ua, h, _, _, H2⟩ := H.Gu
  obtain ⟨a, c, xs, f, t, h1, h2, h3, h4, h5, h6, h7, _⟩ := H2.f2.buf
  exact ⟨h4, h6⟩
namespace dG
variable (s : dG)
def WE (M : VM) (keys : List Int) (n : Int) : Int := if (M.tgt s.c.L s.c.pt keys n).2.2 = true then s.Jv (M.tgt s.c.L s.c.pt keys n).1 else 6
def WG (M : VM) (keys : List Int) (n : Int) : dG := if (M.tgt s.c.L s.c.pt keys n).2.2 = true then s.EI (M.tgt s.c.L s.c.pt keys n).1 else s
end dG
section
variable {w0 : World} {s : dG} {keys : List Int} {n : Int} {g : Bool} {M : VM}
theorem TF (hT : wS w0) (hn : n ≤ 9223372036854775807) : aaH w0 rJ keys n g s M fun x t M' => x = s.WE M keys n ∧ t = s.WG M keys n ∧ M' = M.sought s.c.L s.c.pt keys n := by
 intro F w c m e kv lv H hk
 have hln := (Yv H.f4).1
 refine iG func124 ntmps124 ?_
 refine jr O (aP (bT O (dJ O (bD 2 dw O oD O (fZ kG O (H).get.2 O (dY O func160 (Ob) ?_))))))
 rintro _ _ ⟨rfl, rfl⟩
 refine gI O (bT O (aV (Jj O O) (jF O (fun h => by exfalso; (try simp only [Z] at h); exact h (by rw [Qr])) (fun h1 => ?_))))
 (try simp only [Z] at h1)
 refine bJ (bJ (bJ (bJ (bJ (bJ (bJ (bJ (bJ (iL O O (iJ (qF (gq (aP (bT O (dJ O (bD 2 dw O oD O (fZ kG O (H).get.2 O (iJ (aY (iH (aV (fP O O) (gI O (bI O (fun h => by exfalso; (try simp only [Z] at h); exact absurd h (BA (by decide))) (fun h2 => ?_))))))))))))))))))))))))
 (try simp only [Z] at h2)
 refine iH (aV (fP O O) (gI O (bI O (fun h3 => ?_) (fun h => by exfalso; (try simp only [Z] at h); exact h O))))
 (try simp only [Z] at h3)
 refine aP ?_
 have acA := H.drew
 have BD := V.kp (acA.f4.f4.f4.f4)
 refine yw [4, 8] BD O (jB 0 O BD O (jB 1 O BD O (kJ 2 O BD O (gU 3 O BD 3 dw O dM O (jT 4 O BD (fun W hW => kC ay O ((Kp.h hW)).get.2 O) (jB 5 O BD O (kJ 6 O BD O (gU 7 O BD 4 dw O aj O (jT 8 O BD (fun W hW => kC aK O ((Kp.h hW)).get.2 O) (oq 9 O (yN O func162 (Wy acA.f3.f3.f3 (fun W HW => hk _ (HW.right)) hT (by omega) (by omega))) ?_))))))))))
 rintro _ w2 ⟨rfl, H2⟩
 have xJ := V.kp (H2.f4.f4.f4.f4)
 refine gV xJ (by kernel_rfl) ?_
 refine jB 10 O xJ O (ji 11 O xJ (fun _ => mJ O O) (ji 12 O xJ (fun _ => mJ O O) (ji 13 O xJ (fun _ => mJ O O) (ji 14 O xJ (fun _ => dN O) (ji 15 O xJ (fun _ => dN O) (ji 16 O xJ (fun _ => dN O) (qU (aX (aP (bT O (aV (kT O) (je O (fun h4 => ?_) (fun h4 => ?_)))))))))))))
 ·(try simp only [Z] at h4)
  have hok : ¬ (M.tgt s.c.L s.c.pt keys n).2.2 = true := by have h9 := h4; simpa using h9
  refine jL O (aF (aT (aF (dH results124 O ?_))))
  exact ⟨_, _, _, ⟨by unfold dG.WE; rw [if_neg hok], by unfold dG.WG; rw [if_neg hok], O⟩, O, H2.f4.f4.f4.f4⟩
 ·(try simp only [Z] at h4)
  have hok : (M.tgt s.c.L s.c.pt keys n).2.2 = true := by have h9 := h4; simpa using h9
  refine gq (bT O (dJ O (bD 1 dw O sizeOf37 O (fZ kH O (H2).get.2 O (bP O (dY O func30 (EL H2.f4) ?_))))))
  rintro _ w3 ⟨rfl, H3⟩
  refine fC O (aT (aF (dH results124 O ?_)))
  exact ⟨_, _, _, ⟨by unfold dG.WE; rw [if_pos hok], by unfold dG.WG; rw [if_pos hok], O⟩, O, H3.f4.f4.f4⟩
end
end Go.Proofs.YtpdeedplgmbopaaGreatDoor
end
section
namespace Go.Proofs.YtpdeedplgmbopaaGreatDoor
open Go.RowKit
def uD (sz : Nat) (v : Value) (n : Nat) (xs : List Value) : HP := know (fun I => AU I sz v n xs) fun _ _ hl h => h.mono hl
abbrev LE := Int × Value × List (Value × List dQ)
def Ag (gs : List (Value × List dQ)) : List (List iT) := gs.map fun g => g.2.map dQ.says
def Fa (A : List LE) (k : Int) : List (List iT) := ((A.find? fun x => x.1 == k).map fun x => Ag x.2.2).getD []
def yK (A : List LE) (k : Int) (u : Value) (gs : List (Value × List dQ)) : List LE := A.filter (fun x => x.1 != k) ++ [(k, u, gs)]
def Zq (I : Hp) (v : Value) (gs : List (Value × List dQ)) : Prop := AU I 1 v gs.length (gs.map (·.1)) ∧ BF I gs
theorem Zq.mono {I I' : Hp} {v : Value} {gs : List (Value × List dQ)} (hl : Hp.le I I') (h : Zq I v gs) : Zq I' v gs := ⟨h.1.mono hl, h.2.mono hl⟩
def glK (v : Value) (gs : List (Value × List dQ)) : HP := uD 1 v gs.length (gs.map (·.1)) • nK gs
def Yw (I : Hp) (A : List LE) : Prop := ∀ k, k < A.length → Zq I (A.getD k default).2.1 (A.getD k default).2.2
def qj (A : List LE) : HP := know (fun I => Yw I A) fun _ _ hl h k hk => (h k hk).mono hl
def lsK (pv gv : Value) (A : List LE) : HP := mP .i64 pv (A.map (·.1)) • uD 1 gv A.length (A.map (·.2.1)) • qj A
theorem Yx (A : List LE) (k : Int) (u : Value) (gs : List (Value × List dQ)) : Fa (yK A k u gs) = wU (Fa A) k (Ag gs) := by
  funext j
  unfold Fa yK wU
  rw [List.find?_append]
  by_cases hj : j = k
  · subst hj
    rw [if_pos rfl, List.find?_eq_none.2 (by intro x hx; simp at hx; simpa using hx.2)]
    simp
  · rw [if_neg hj, List.find?_filter]
    have h1 : (fun a : LE => decide (a.1 != k ∧ (a.1 == j) = true)) = fun a : LE => a.1 == j := by
      funext a
      by_cases ha : a.1 = j
      · simp [ha, hj]
      · simp [ha]
    have h2 : (fun a : LE => (a.1 != k) && (a.1 == j)) = fun a : LE => a.1 == j := by
      funext a
      by_cases ha : a.1 = j
      · simp [ha, hj]
      · simp [ha]
    have h3 : ([(k, u, gs)] : List LE).find? (fun x => x.1 == j) = none := by
      rw [List.find?_eq_none]; intro x hx; rw [List.mem_singleton.1 hx]; simpa using Ne.symm hj
    first
      | rw [h3, Option.or_none, h2]
      | rw [h3, Option.or_none, h1]
      | (simp only [h3, Option.or_none, h2, h1])
theorem aaK {A : List LE} {k : Int} {i : Nat} (hi : i < A.length) (hn : ∀ j, j < i → (A.getD j default).1 ≠ k) (he : (A.getD i default).1 = k) : Fa A k = Ag (A.getD i default).2.2 := by
  induction A generalizing i with
  | nil => simp at hi
  | cons x r ih =>
    unfold Fa
    rw [List.find?_cons]
    cases i with
    | zero =>
      have : x.1 = k := he
      rw [show (x.1 == k) = true from by simpa using this]; rfl
    | succ m =>
      have h0 : x.1 ≠ k := hn 0 (by omega)
      rw [show (x.1 == k) = false from by simpa using h0]
      exact ih (i := m) (by simpa using hi) (fun j hj => hn (j + 1) (by omega)) he
theorem WH {A : List LE} {k : Int} (hn : ∀ j, j < A.length → (A.getD j default).1 ≠ k) : Fa A k = [] := by
  unfold Fa
  rw [List.find?_eq_none.2]
  · rfl
  · intro x hx
    obtain ⟨j, hj, rfl⟩ := List.getElem_of_mem hx
    have := hn j hj
    rw [List.getD_eq_getElem?_getD, List.getElem?_eq_getElem hj] at this
    simpa using this
theorem JM : ∀ (n : Nat) (l : List Int), l.Nodup → (∀ x ∈ l, 0 ≤ x ∧ x < n) → l.length ≤ n
  | 0, l, _, h => by
    cases l with
    | nil => simp
    | cons x r => have := h x (List.mem_cons_self ..); omega
  | n + 1, l, hn, h => by
    have h1 : (l.erase (n : Int)).length ≤ n := JM n (l.erase n) (hn.erase _) (fun x hx => by
      have hm := (List.Nodup.mem_erase_iff hn).1 hx
      have := h x hm.2
      have := hm.1
      omega)
    have h2 : l.length ≤ (l.erase (n : Int)).length + 1 := by rw [List.length_erase]; split <;> omega
    omega
theorem Oc (A : List LE) (k : Int) (u : Value) (gs : List (Value × List dQ)) : (yK A k u gs).map (·.1) = (A.map (·.1)).filter (· != k) ++ [k] := by
  unfold yK
  rw [List.map_append, List.filter_map]; rfl
theorem Yy {A : List LE} {n : Int} {k : Int} {u : Value} {gs : List (Value × List dQ)} (h : (A.map (·.1)).Nodup ∧ ∀ x ∈ A.map (·.1), 0 ≤ x ∧ x ≤ n) (hk : 0 ≤ k ∧ k ≤ n) :
    ((yK A k u gs).map (·.1)).Nodup ∧ ∀ x ∈ (yK A k u gs).map (·.1), 0 ≤ x ∧ x ≤ n := by
  rw [Oc]
  refine ⟨List.nodup_append.2 ⟨h.1.filter _, by simp, fun a ha b hb => ?_⟩, fun x hx => ?_⟩
  · rw [List.mem_singleton.1 hb]
    have := (List.mem_filter.1 ha).2
    simpa using this
  · rcases List.mem_append.1 hx with hx | hx
    · exact h.2 x (List.mem_filter.1 hx).1
    · rw [List.mem_singleton.1 hx]; exact hk
theorem Qs {A : List LE} {n : Int} (h : (A.map (·.1)).Nodup ∧ ∀ x ∈ A.map (·.1), 0 ≤ x ∧ x ≤ n) (hn : 0 ≤ n ∧ n ≤ 4096) : A.length ≤ 4097 := by
  have := JM (n.toNat + 1) _ h.1 (fun x hx => by have := h.2 x hx; omega)
  rw [List.length_map] at this
  omega
section
variable {w0 w : World} {F : HP} {v u pv gv : Value} {n sz k : Nat} {xs : List Value} {es : List dQ} {gs : List (Value × List dQ)} {A : List LE} {x : LE}
theorem V.oH (H : V w0 w (uD sz v n xs • F)) : Rd w sz v n xs := let ⟨I, h, hI⟩ := H.qC; h.rd hI
theorem V.WI (H : V w0 w (uD sz v n xs • F)) : V w0 w (uD sz v n xs • uD sz v n xs • F) := H.qW
theorem V.Qu (H : V w0 w F) (a : Option Addr) : V w0 w (uD sz (.slice a 0 0) 0 [] • F) := H.uY fun I => ⟨by simp, a, 0, rfl, by omega, by decide, fun h => by omega⟩
theorem V.En {t : TypeId} (H : V w0 w (Row t sz v n xs • F)) : V w0 w (uD sz v n xs • F) := by
  have hl := H.wY
  rcases H.tK with ⟨a, rfl, h1, h2, H1⟩ | ⟨g, o, c, cur, rfl, h2, h3, h4, h5, H1⟩
  · subst h1; exact H1.uY fun I => ⟨hl, a, 0, rfl, by omega, by decide, fun h => by omega⟩
  · exact H1.freeze.DR (oC (fun I hI => ⟨hl, _, c, rfl, h2, h3, fun _ => ⟨g, o, cur, _, (0, 0), rfl, hI, h5⟩⟩) F)
theorem V.Rw (H : V w0 w (glK v gs • F)) : V w0 w (uD 1 v gs.length (gs.map (·.1)) • nK gs • F) := H.flat
theorem V.Yz (H : V w0 w F) (a : Option Addr) : V w0 w (glK (.slice a 0 0) [] • F) := V.deep (H.F6.Qu (sz := 1) a)
theorem V.Ah (H : V w0 w (BG v gs • F)) : V w0 w (glK v gs • F) := V.deep (H.XL.En)
theorem V.Rx {p : Int} (H : V w0 w (qj A • F)) (hk : k < A.length) (hx : A.getD k default = (p, v, gs)) : V w0 w (uD 1 v gs.length (gs.map (·.1)) • nK gs • qj A • F) := by
  have H2 : V w0 w (uD 1 (A.getD k default).2.1 (A.getD k default).2.2.length ((A.getD k default).2.2.map (·.1)) • qj A • qj A • F) := H.qW.qW.DR (oC (fun I h => (h k hk).1) _)
  have H3 : V w0 w (nK (A.getD k default).2.2 • uD 1 (A.getD k default).2.1 (A.getD k default).2.2.length ((A.getD k default).2.2.map (·.1)) • qj A • F) := H2.f2.DR (oC (fun I h => (h k hk).2) _)
  rw [hx] at H3
  exact H3.f2
theorem Yw.set {I : Hp} {p : Int} (h : Yw I A) (g : Zq I u gs) : Yw I (yK A p u gs) := by
  have hm : ∀ x ∈ A, Zq I x.2.1 x.2.2 := fun x hx => by
    obtain ⟨j, hj, rfl⟩ := List.getElem_of_mem hx
    have := h j hj
    rwa [List.getD_eq_getElem?_getD, List.getElem?_eq_getElem hj] at this
  have hm2 : ∀ x ∈ yK A p u gs, Zq I x.2.1 x.2.2 := fun x hx => by
    rcases List.mem_append.1 hx with hx | hx
    · exact hm x (List.mem_filter.1 hx).1
    · rw [List.mem_singleton.1 hx]; exact g
  intro j hj
  rw [List.getD_eq_getElem?_getD, List.getElem?_eq_getElem hj]
  exact hm2 _ (List.getElem_mem hj)
theorem V.WJ {p : Int} (H : V w0 w (qj A • uD 1 u gs.length (gs.map (·.1)) • nK gs • F)) : V w0 w (qj (yK A p u gs) • F) := by
  have H1 : V w0 w (know (fun I => Zq I u gs) (fun _ _ hl h => h.mono hl) • qj A • F) := (H.f3.f3 : V w0 w (uD 1 u gs.length (gs.map (·.1)) • nK gs • qj A • F)).DR (tV (fun I h g => ⟨h, g⟩) _)
  exact H1.f2.DR (tV (fun I h g => h.set g) _)
theorem V.Oe (H : V w0 w F) : V w0 w (qj [] • F) := H.uY fun I k hk => by simp at hk
theorem V.Og {k : IntKind} (H : V w0 w F) (a : Option Addr) : V w0 w (mP k (.slice a 0 0) [] • F) := H.uY fun I => ⟨a, 0, rfl, by simp, by decide, fun h => by simp at h⟩
end
end Go.Proofs.YtpdeedplgmbopaaGreatDoor
end
section
namespace Go.Proofs.YtpdeedplgmbopaaGreatDoor
open Go.RowKit
open _root_.Go.Proofs.Tryz
def DC (v : Value) (pt mk : Int) : Array Value := #[v, .int .i64 pt, .int .i64 mk]
def nS (p : Nat) (L : List Int) (pt mk : Int) : HP := rQ fun (v : Value) => fact (L.length ≤ 1024 ∧ (0 ≤ pt ∧ pt ≤ L.length) ∧ (-1 ≤ mk ∧ mk ≤ L.length)) • dL p (.cells (DC v pt mk) 222 (0, 0)) • kW 21 .i32 v L
section
variable {w0 w : World} {F : HP} {p : Nat} {L : List Int} {pt mk : Int} {v : Value} {l : List Int} {i j : Int}
theorem V.ref (H : V w0 w (nS p L pt mk • F)) : ∃ (a : Option Addr) (c : Nat), L.length ≤ 1024 ∧ (0 ≤ pt ∧ pt ≤ L.length) ∧ (-1 ≤ mk ∧ mk ≤ L.length) ∧ L.length ≤ c ∧ (c : Int) ≤ 9223372036854775807 ∧
    V w0 w (dL p (.cells (DC (.slice a L.length c) pt mk) 222 (0, 0)) • kW 21 .i32 (.slice a L.length c) L • F) := by
  obtain ⟨v, H⟩ := H.lQ
  obtain ⟨⟨h1, h2, h3⟩, H⟩ := H.flat.fact
  have H := H.flat
  obtain ⟨a, c, hv, hc1, hc2, _⟩ := (H.swap.aS).form
  subst hv
  exact ⟨a, c, h1, h2, h3, hc1, hc2, H⟩
theorem V.Qv (h1 : L.length ≤ 1024) (h2 : 0 ≤ pt ∧ pt ≤ L.length) (h3 : -1 ≤ mk ∧ mk ≤ L.length) (H : V w0 w (dL p (.cells (DC v pt mk) 222 (0, 0)) • kW 21 .i32 v L • F)) : V w0 w (nS p L pt mk • F) :=
  V.iy v (V.deep (V.kD ⟨h1, h2, h3⟩ (V.deep H)))
theorem Le (H : V w0 w F) (hr : jq w0 F .i32 v l) (hl : 1024 < l.length) : gJ prog 112 #[v] w fun v' w' => v' = .tuple #[.pointer none, .int .i64 3] ∧ w = w' := by
  obtain ⟨a, c, rfl, _, _, _⟩ := (hr w H).open
  refine iG func112 ntmps112 ?_
  refine iH (fV O (wu O (bT O (aV (nI ay O) (aV (iV O O) (iJ (wcA O (fun h1 => ?_))))))))
  (try simp only [Z] at h1)
  refine iH (fV O (fC O (aF (LC results112 O O ?_))))
  exact ⟨O, O⟩
theorem Oh (H : V w0 w F) (hr : jq w0 F .i32 v l) (hl : l.length ≤ 1024) : gJ prog 112 #[v] w fun v' w' => ∃ p, v' = .tuple #[.pointer (some ⟨p, 0, none⟩), .int .i64 0] ∧ V w0 w' (nS p l l.length (-1) • F) := by
  obtain ⟨a, c, rfl, hc1, hc2, _⟩ := (hr w H).open
  refine iG func112 ntmps112 ?_
  refine iH (fV O (wu O (bT O (aV (nI ay O) (aV (iV O O) (iJ (wcB O (fun h1 => ?_))))))))
  (try simp only [Z] at h1)
  refine gq (jr O (bT O (bP O (jv (lK (l := []) (H.iO none) (hr _ H) ay CW O O (by simp only [List.length_nil]; omega) (by simp only [List.length_nil]; omega)) ?_))))
  rintro u w1 H1
  rw [List.nil_append] at H1
  obtain ⟨au, cu, hu, _⟩ := (H1.aS).form
  subst hu
  refine gI O (bT O (bP O (aV (nI ay O) (aV (pI (pl := #[(0, 1), (1, 1), (2, 1)]) (DC (.slice au l.length cu) l.length (-1)) underlying222 zeroValue222 (fun w => by kernel_rfl) O (by kernel_rfl)) (jv (QA H1 O) ?_)))))
  rintro _ w2 ⟨b2, rfl, H2⟩
  refine fV O (fC O (LC results112 O O ?_))
  exact ⟨_, O, V.Qv hl (by omega) (by omega) H2⟩
end
end Go.Proofs.YtpdeedplgmbopaaGreatDoor
end
