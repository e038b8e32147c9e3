import Derived.Test.YtpdeedplgmbopaaGreatDoorZ4
import Derived.Test.YtpdeedplgmbopaaGreatDoorZ18
import Derived.Test.YtpdeedplgmbopaaGreatDoorZ15
import Derived.Test.YtpdeedplgmbopaaGreatDoorZ12
set_option linter.unusedSimpArgs false
set_option linter.unusedVariables false
/- Texts of mine, joined, their names in short: VGo2 VT VO VMove VDel VPut. -/
section
namespace Go.Proofs.YtpdeedplgmbopaaGreatDoor
open Go.RowKit
open _root_.Go.Proofs.Tryz
def rZ (k : Nat) : Value := .func (.func k) #[] #[]
def Kq (q1 q2 q3 q4 q5 q6 : MP) : HP := qG q6 (rZ 97) true true (rZ 94) • qG q5 (rZ 97) false true (rZ 94) • qG q4 (rZ 96) true false (rZ 93) • qG q3 (rZ 96) false false (rZ 93) • qG q2 (rZ 95) true false (rZ 92) • qG q1 (rZ 95) false false (rZ 92)
def EN (q1 q2 q3 q4 q5 q6 : MP) : Int → Option Value := upd (upd (upd (upd (upd (upd (fun _ => none) 119 (UJ q1)) 87 (UJ q2)) 98 (UJ q3)) 66 (UJ q4)) 101 (UJ q5)) 69 (UJ q6)
section
variable {w0 w : World} {F : HP} {v sv mv : Value} {l : List Int} {x n key : Int} {b t : Bool} {q1 q2 q3 q4 q5 q6 : MP}
theorem Jv {k1 k2 : Nat} (H : V w0 w F) : wS prog (rZ 88) [rZ k1, .bool b, .bool t, rZ k2] w fun u w' => ∃ p, u = UJ p ∧ V w0 w' (qG p (rZ k1) b t (rZ k2) • F) := by
  refine ⟨_, [], [], _, _, O, func88, O, O, ?_⟩
  simp only [List.nil_append, List.append_nil]
  refine QD func88 ntmps88 ?_
  refine iy (kF (jF (l := [_]) H O O) ?_)
  rintro _ w1 ⟨b1, rfl, H1⟩
  refine kF (jF (l := [_]) H1 O O) ?_
  rintro _ w2 ⟨b2, rfl, H2⟩
  refine kF (jF (l := [_]) H2 O O) ?_
  rintro _ w3 ⟨b3, rfl, H3⟩
  refine kF (jF (l := [_]) H3 O O) ?_
  rintro _ w4 ⟨b4, rfl, H4⟩
  refine dZ O (iy (aQ (Ad O O) (fA O (dI results88 O ?_))))
  exact ⟨⟨_, _, _, _⟩, O, (H4).of_eq (by unfold qG; simp only [dH])⟩
theorem wS.mono {P : Program} {fv : Value} {vs : List Value} {w : World} {T T' : Value → World → Prop} (h : wS P fv vs w T) (k : ∀ v w', T v w' → T' v w') : wS P fv vs w T' := by
  obtain ⟨f, a, c, fn, b, h1, h2, h3, h4, h5⟩ := h
  exact ⟨f, a, c, fn, b, h1, h2, h3, h4, h5.mono k⟩
theorem Xd (H : V w0 w F) : iQ prog 39 #[] w fun u w' => ∃ b q1 q2 q3 q4 q5 q6, u = .map (some b) ∧ V w0 w' (iV (Aw .i32) b (EN q1 q2 q3 q4 q5 q6) • Kq q1 q2 q3 q4 q5 q6 • F) := by
  refine YP func39 ntmps39 ?_
  refine ku O (ku O (ku O (ku O (ku O (iy (kF (lF (Aw .i32) H) ?_))))))
  rintro _ w1 ⟨b1, rfl, H1⟩
  refine jX O O (kF (qN O O (Jv (k1 := 95) (k2 := 92) H1)) ?_)
  rintro _ w2 ⟨q1, rfl, H2⟩
  refine aJ (CO H2.f2 qH bC O O O) ?_
  rintro _ w3 H3
  refine jX O O (kF (qN O O (Jv (k1 := 95) (k2 := 92) H3)) ?_)
  rintro _ w4 ⟨q2, rfl, H4⟩
  refine aJ (CO H4.f2 qH bC O O O) ?_
  rintro _ w5 H5
  refine jX O O (kF (qN O O (Jv (k1 := 96) (k2 := 93) H5)) ?_)
  rintro _ w6 ⟨q3, rfl, H6⟩
  refine aJ (CO H6.f2 qH bC O O O) ?_
  rintro _ w7 H7
  refine jX O O (kF (qN O O (Jv (k1 := 96) (k2 := 93) H7)) ?_)
  rintro _ w8 ⟨q4, rfl, H8⟩
  refine aJ (CO H8.f2 qH bC O O O) ?_
  rintro _ w9 H9
  refine jX O O (kF (qN O O (Jv (k1 := 97) (k2 := 94) H9)) ?_)
  rintro _ w10 ⟨q5, rfl, pz⟩
  refine aJ (CO pz.f2 qH bC O O O) ?_
  rintro _ FM rY
  refine jX O O (kF (qN O O (Jv (k1 := 97) (k2 := 94) rY)) ?_)
  rintro _ w12 ⟨q6, rfl, vM⟩
  refine aJ (CO vM.f2 qH bC O O O) ?_
  rintro _ PD xI
  refine bJ O (fA O (dI results39 O ?_))
  exact ⟨_, q1, q2, q3, q4, q5, q6, O, (xI).of_eq (by unfold Kq; simp only [dH]; rfl)⟩
theorem UK (h : ¬ (key = 119 ∨ key = 87 ∨ key = 98 ∨ key = 66 ∨ key = 101 ∨ key = 69)) : EN q1 q2 q3 q4 q5 q6 key = none := by
  unfold EN upd
  rw [if_neg (by omega), if_neg (by omega), if_neg (by omega), if_neg (by omega), if_neg (by omega), if_neg (by omega)]
theorem UL (h : key = 119 ∨ key = 87 ∨ key = 98 ∨ key = 66 ∨ key = 101 ∨ key = 69) : (EN q1 q2 q3 q4 q5 q6 key).isSome = true := by
  rcases h with rfl | rfl | rfl | rfl | rfl | rfl <;> rfl
theorem UM (H : V w0 w (Kq q1 q2 q3 q4 q5 q6 • F)) (hk : key = 119 ∨ key = 87 ∨ key = 98 ∨ key = 66 ∨ key = 101 ∨ key = 69) (hT : vZ w0) (hr : jh w0 F .i32 v l) (hl : l.length ≤ 4611686018427387904) (hx : inL l x) (hn : n ≤ 9223372036854775807) (z : Value) :
    wS prog ((EN q1 q2 q3 q4 q5 q6 key).getD z) [v, .int .i64 x, .int .i64 n] w fun u w' => u = Zt (AO l x key n) ∧ V w0 w' (Kq q1 q2 q3 q4 q5 q6 • F) := by
  unfold Kq at H ⊢
  have hI1 : ∀ y, decide (y < (l.length : Int) - 1) = true → inL l y → ahu l y := fun y h1 h2 => ⟨h2.1, by have := of_decide_eq_true h1; omega⟩
  rcases hk with rfl | rfl | rfl | rfl | rfl | rfl
  · refine wS.mono (CV (p := q1) (F := qG q6 (rZ 97) true true (rZ 94) • qG q5 (rZ 97) false true (rZ 94) • qG q4 (rZ 96) true false (rZ 93) • qG q3 (rZ 96) false false (rZ 93) • qG q2 (rZ 95) true false (rZ 92) • F) (H.of_eq (by ac_rfl)) (Qh hT) NM (fun y h1 h2 => h2) (fun W HW => hr W HW.right.right.right.right.right) hl hx hn) fun u W h => ⟨h.1.trans (by unfold AO; simp), h.2.of_eq (by ac_rfl)⟩
  · refine wS.mono (CV (p := q2) (F := qG q6 (rZ 97) true true (rZ 94) • qG q5 (rZ 97) false true (rZ 94) • qG q4 (rZ 96) true false (rZ 93) • qG q3 (rZ 96) false false (rZ 93) • qG q1 (rZ 95) false false (rZ 92) • F) (H.of_eq (by ac_rfl)) (Qh hT) NM (fun y h1 h2 => h2) (fun W HW => hr W HW.right.right.right.right.right) hl hx hn) fun u W h => ⟨h.1.trans (by unfold AO; simp), h.2.of_eq (by ac_rfl)⟩
  · refine wS.mono (CV (p := q3) (F := qG q6 (rZ 97) true true (rZ 94) • qG q5 (rZ 97) false true (rZ 94) • qG q4 (rZ 96) true false (rZ 93) • qG q2 (rZ 95) true false (rZ 92) • qG q1 (rZ 95) false false (rZ 92) • F) (H.of_eq (by ac_rfl)) (Qi hT) Qj (fun y h1 h2 => h2) (fun W HW => hr W HW.right.right.right.right.right) hl hx hn) fun u W h => ⟨h.1.trans (by unfold AO; simp), h.2.of_eq (by ac_rfl)⟩
  · refine wS.mono (CV (p := q4) (F := qG q6 (rZ 97) true true (rZ 94) • qG q5 (rZ 97) false true (rZ 94) • qG q3 (rZ 96) false false (rZ 93) • qG q2 (rZ 95) true false (rZ 92) • qG q1 (rZ 95) false false (rZ 92) • F) (H.of_eq (by ac_rfl)) (Qi hT) Qj (fun y h1 h2 => h2) (fun W HW => hr W HW.right.right.right.right.right) hl hx hn) fun u W h => ⟨h.1.trans (by unfold AO; simp), h.2.of_eq (by ac_rfl)⟩
  · refine wS.mono (CV (p := q5) (F := qG q6 (rZ 97) true true (rZ 94) • qG q4 (rZ 96) true false (rZ 93) • qG q3 (rZ 96) false false (rZ 93) • qG q2 (rZ 95) true false (rZ 92) • qG q1 (rZ 95) false false (rZ 92) • F) (H.of_eq (by ac_rfl)) (step_end hT) NQ (fun y h1 h2 => hI1 y h1 h2) (fun W HW => hr W HW.right.right.right.right.right) hl hx hn) fun u W h => ⟨h.1.trans (by unfold AO; simp), h.2.of_eq (by ac_rfl)⟩
  · refine wS.mono (CV (p := q6) (F := qG q5 (rZ 97) false true (rZ 94) • qG q4 (rZ 96) true false (rZ 93) • qG q3 (rZ 96) false false (rZ 93) • qG q2 (rZ 95) true false (rZ 92) • qG q1 (rZ 95) false false (rZ 92) • F) (H.of_eq (by ac_rfl)) (step_end hT) NQ (fun y h1 h2 => hI1 y h1 h2) (fun W HW => hr W HW.right.right.right.right.right) hl hx hn) fun u W h => ⟨h.1.trans (by unfold AO; simp), h.2.of_eq (by ac_rfl)⟩
end
section
variable {w0 w : World} {F : HP} {v fv : Value} {l : List Int} {x n key c r : Int} {P : Int → Bool} {given : Bool}
theorem Xf (H : V w0 w F) (hr : jh w0 F .i32 v l) (hf : ∀ W r, V w0 W F → wS prog fv [.int .i32 r] W fun u W' => u = .bool (!P r) ∧ V w0 W' F) : iQ prog 40 #[v, fv] w fun u w' => u = .int .i64 (if mJ P l 0 < l.length then mJ P l 0 else -1) ∧ V w0 w' F := by
 have Yk : l.length ≤ 9223372036854775807 := by have := (hr _ H).open; obtain ⟨a, c, e, h3, h4, _⟩ := this; omega
 refine qc func40 ntmps40 ?_
 refine ku O (aI (bM O (aQ (iT (hr _ (H)) ah O) (bJ O (iE (bf ?_))))))
 refine iC [(0, _), (1, _), (7, _)] (fun (i : Int) => [(8, .int .i64 i)]) (fun (i : Int) W => ((0 ≤ i ∧ i ≤ l.length) ∧ mJ P l i = mJ P l 0) ∧ V w0 W F) (fun (i : Int) => (l.length - i).toNat) (0) vC mO ⟨⟨by omega, O⟩, H⟩ ?_
 rintro i w1 ⟨⟨hi, hE⟩, HL⟩
 dsimp only [List.cons_append, List.nil_append]
 refine iy (aQ (gW O O) (rP (aZ O (fun h1 => ?_) (fun h1 => ?_))))
 ·(try simp only [Z] at h1)
  refine fV (aI (bf (bM O (dZ O (bM O (jX O O ?_))))))
  obtain ⟨bv, ov, cv, ev⟩ := fJ.rW (hr _ (HL)) (by omega)
  cases ev
  refine aQ (dM ah bK O O (by omega)) ?_
  refine aQ (fF (dA bC O) O (by first | exact fJ.lX (hr _ (HL)) (by omega) | exact fJ.xJ (hr _ (HL)) (by omega) | exact fJ.xH (hr _ (HL)) (by omega))) ?_
  refine kF (qN O O (hf _ (l.getD i.toNat 0) HL)) ?_
  rintro _ w2 ⟨rfl, H2⟩
  refine jr O (fun h2 => ?_) (fun h2 => ?_)
  ·(try simp only [Z] at h2)
   have hP : ¬ P (l.getD i.toNat 0) = true := by have h9 := h2; simpa using h9
   refine bM O (fA O (aU (aA (aA (aU (aA (dI results40 O ?_)))))))
   exact ⟨by rw [← hE, nU hi.1 (by omega) hP, if_pos (by omega)], H2⟩
  ·(try simp only [Z] at h2)
   have hP : P (l.getD i.toNat 0) = true := by have h9 := h2; simpa using h9
   refine dh (aH (aX (aB (aQ (fQ O O (by omega)) (bJ O (bZ ?_))))))
   refine dX (i + 1) ?_ ?_ ?_ ?_
   ·exact mO
   ·exact vC
   ·(try dsimp only)
    first | done | exact ⟨⟨by omega, (uV hi.1 (by omega) hP).symm.trans hE⟩, H2⟩
   ·(try dsimp only); omega
 ·(try simp only [Z] at h1)
  refine dR (aO (aO (bG (aX (kC O (dI results40 O ?_))))))
  exact ⟨by rw [← hE, kY (by omega), if_neg (by omega)], HL⟩
theorem Xg (H : V w0 w F) (hT : vZ w0) : iQ prog 41 #[.int .i32 r] w fun u w' => u = .bool (!(iw r == 0)) ∧ V w0 w' F := by
  refine ji func41 ntmps41 ?_
  refine ku O (bM O (dS O func14 (rH H hT) ?_))
  rintro _ w1 ⟨rfl, H1⟩
  refine aQ (gY O O) (fA O (dI results41 O ?_))
  exact ⟨O, H1⟩
theorem abS (h : key = 119 ∨ key = 87 ∨ key = 98 ∨ key = 66 ∨ key = 101 ∨ key = 69) : nV l x key c n = AO l x key n := by
  unfold nV
  rw [if_neg (by omega), if_neg (by omega), if_neg (by omega), if_neg (by omega), if_neg (by omega), if_neg (by omega), if_neg (by omega), if_neg (by omega)]
theorem adv (h : ¬ (key = 119 ∨ key = 87 ∨ key = 98 ∨ key = 66 ∨ key = 101 ∨ key = 69)) : AO l x key n = (0, false, false) := by
  unfold AO
  rw [if_neg (by omega), if_neg (by omega), if_neg (by omega)]
theorem EO (H : V w0 w F) (hr : jh w0 F .i32 v l) (hT : vZ w0) (hl8 : l.length ≤ 4611686018427387904) (hn : n ≤ 9223372036854775807) : iQ prog 11 #[v, .int .i64 x, .int .i32 key, .int .i32 c, .int .i64 n, .bool given] w fun u w' => u = Zt (zM l x key c n) ∧ V w0 w' F := by
 obtain ⟨y, hy⟩ : ∃ y, y = min (max x 0) (l.length : Int) := ⟨_, rfl⟩
 obtain ⟨m, hm⟩ : ∃ m, m = max n 1 := ⟨_, rfl⟩
 unfold zM
 rw [← hy, ← hm]
 have hy2 : 0 ≤ y ∧ y ≤ l.length := by omega
 have hm2 : 1 ≤ m ∧ m ≤ 9223372036854775807 := by omega
 refine ZY func11 ntmps11 ?_
 dsimp only [zZ, Nat.reduceAdd]
 refine iy (gU O (gU O (dZ O (bM O (aQ (SH O O) (bJ O (aQ (iT (hr _ (H)) ah O) (aQ (Om (wO O O) (congrArg (Value.int .i64) hy.symm)) (dZ O (bM O (aQ (Om (SH O O) (congrArg (Value.int .i64) hm.symm)) (uf O (iy (dS O func39 (Xd H) ?_))))))))))))))
 rintro _ w1 ⟨b1, q1, q2, q3, q4, q5, q6, rfl, H1⟩
 refine bJ O (aQ (Ew (H1) qH bC zeroValue85 O O) (bJ O (pW O O (pW O O (gU O (dZ O (bM O (jr O (fun h1 => ?_) (fun h1 => ?_)))))))))
 ·(try simp only [Z] at h1)
  try (exfalso; first | contradiction | omega)
  all_goals
   have hk : key = 119 ∨ key = 87 ∨ key = 98 ∨ key = 66 ∨ key = 101 ∨ key = 69 := Decidable.byContradiction fun hc => by have h9 := h1; rw [UK hc] at h9; exact absurd h9 (by decide)
   refine bM O (jX O O (bJ O (kF (qN O O (UM H1.f2 hk hT (fun W HW => hr W HW.right) hl8 hy2 hm2.2 _)) ?_)))
   rintro _ w2 ⟨rfl, H2⟩
   refine pW O O (pW O O (pW O O (gU O (gU O (fA O (aA ?_))))))
   refine iP (.inl O) og O O O ?_
   exact ⟨by rw [abS hk]; rfl, H2.right.right⟩
 ·(try simp only [Z] at h1)
  try (exfalso; first | contradiction | omega)
  all_goals
   have hk : ¬ (key = 119 ∨ key = 87 ∨ key = 98 ∨ key = 66 ∨ key = 101 ∨ key = 69) := fun hc => by have h9 := h1; rw [UL hc] at h9; exact absurd h9 (by decide)
   refine fV (aI (bM O (iE (bf (iy (aQ (eF O O) (dZ O (aZ O (fun h2 => ?_) (fun h2 => ?_)))))))))
   ·(try simp only [Z] at h2)
    try (exfalso; first | contradiction | omega)
    all_goals
     refine aI (bM O (aQ (eF O O) (jr O (fun h3 => ?_) (fun h3 => ?_))))
     ·(try simp only [Z] at h3)
      try (exfalso; first | contradiction | omega)
      all_goals
       refine iy (gU O (gU O (fA O (aA (aU (aA ?_))))))
       refine iP (.inl O) og O O O ?_
       exact ⟨by unfold nV; rw [if_pos (by omega), if_pos (by omega)]; rfl, H1.right.right⟩
     ·(try simp only [Z] at h3)
      try (exfalso; first | contradiction | omega)
      all_goals
       refine fV (bM O (jX O O (aQ (wO O O) (aQ (jk O O (by omega)) (gU O (gU O (fA O (aU (aA ?_)))))))))
       refine iP (.inl O) og O O O ?_
       exact ⟨by unfold nV; rw [if_pos (by omega), if_neg (by omega)]; rfl, H1.right.right⟩
   ·(try simp only [Z] at h2)
    try (exfalso; first | contradiction | omega)
    all_goals
     refine kL [(0, _), (1, _), (2, _), (3, _), (4, _), (40, _)] (fun (_ : Unit) => [(50, .bool (decide (key = 108 ∨ key = 32)))]) (fun (_ : Unit) W => V w0 W (iV (Aw .i32) b1 (EN q1 q2 q3 q4 q5 q6) • Kq q1 q2 q3 q4 q5 q6 • F)) KO ?_ ?_
     ·rintro _ w3 HJ
      dsimp only [List.cons_append, List.nil_append]
      refine aZ O (fun h4 => ?_) (fun h4 => ?_)
      ·(try simp only [Z] at h4)
       try (exfalso; first | contradiction | omega)
       all_goals
        refine aI (bM O (bJ O (aQ (iT (hr _ (HJ.right.right)) ah O) (aQ (eF O O) (jr O (fun h5 => ?_) (fun h5 => ?_))))))
        ·(try simp only [Z] at h5)
         try (exfalso; first | contradiction | omega)
         all_goals
          refine iy (gU O (gU O (fA O (aA (aU (aA ?_))))))
          refine iP (.inl O) og O O O ?_
          exact ⟨by unfold nV; rw [if_neg (by omega), if_pos (by omega), if_pos (by omega)]; rfl, HJ.right.right⟩
        ·(try simp only [Z] at h5)
         try (exfalso; first | contradiction | omega)
         all_goals
          refine fV (bM O (jX O O (aQ (iT (hr _ (HJ.right.right)) ah O) (bJ O (aQ (jk O O (by omega)) (aQ (wO O O) (aQ (fQ O O (by omega)) (gU O (gU O (fA O (aU (aA ?_))))))))))))
          refine iP (.inl O) og O O O ?_
          exact ⟨by unfold nV; rw [if_neg (by omega), if_pos (by omega), if_neg (by omega)]; rfl, HJ.right.right⟩
      ·(try simp only [Z] at h4)
       try (exfalso; first | contradiction | omega)
       all_goals
        refine iy (aQ (eF O O) (dZ O (aZ O (fun h6 => ?_) (fun h6 => ?_))))
        ·(try simp only [Z] at h6)
         try (exfalso; first | contradiction | omega)
         all_goals
          refine iy (gU O (gU O (fA O (aU (aA ?_)))))
          refine iP (.inl O) og O O O ?_
          exact ⟨by unfold nV; rw [if_neg (by omega), if_neg (by omega), if_pos (by omega)]; rfl, HJ.right.right⟩
        ·(try simp only [Z] at h6)
         try (exfalso; first | contradiction | omega)
         all_goals
          refine iy (aQ (eF O O) (dZ O (aZ O (fun h7 => ?_) (fun h7 => ?_))))
          ·(try simp only [Z] at h7)
           try (exfalso; first | contradiction | omega)
           all_goals
            refine bM O (aQ (iT (hr _ (HJ.right.right)) ah O) (gU O (gU O (fA O (aU (aA ?_))))))
            refine iP (.inl O) og O O O ?_
            exact ⟨by unfold nV; rw [if_neg (by omega), if_neg (by omega), if_neg (by omega), if_pos (by omega)]; rfl, HJ.right.right⟩
          ·(try simp only [Z] at h7)
           try (exfalso; first | contradiction | omega)
           all_goals
            refine iy (aQ (eF O O) (dZ O (aZ O (fun h8 => ?_) (fun h8 => ?_))))
            ·(try simp only [Z] at h8)
             try (exfalso; first | contradiction | omega)
             all_goals
              refine bM O (aQ (jk O O (by omega)) (bJ O (aQ (iT (hr _ (HJ.right.right)) ah O) (aQ (wO O O) (gU O (gU O (fA O (aU (aA ?_)))))))))
              refine iP (.inl O) og O O O ?_
              exact ⟨by unfold nV; rw [if_neg (by omega), if_neg (by omega), if_neg (by omega), if_neg (by omega), if_neg (by omega), if_pos (by omega)]; rfl, HJ.right.right⟩
            ·(try simp only [Z] at h8)
             try (exfalso; first | contradiction | omega)
             all_goals
              refine iy (aQ (eF O O) (dZ O (aZ O (fun h9 => ?_) (fun h9 => ?_))))
              ·(try simp only [Z] at h9)
               try (exfalso; first | contradiction | omega)
               all_goals
                refine bM O (dS O func40 (Xf (P := fun r => iw r == 0) HJ (fun W HW => hr _ (HW.right.right)) (fun W r HW => ⟨41, [], [], _, _, O, func41, O, O, Xg HW hT⟩)) ?_)
                rintro _ w4 ⟨rfl, H4⟩
                have hrb := vI (P := fun r => iw r == 0) (l := l) (x := 0) (by omega) (by omega)
                refine dZ O ?_
                refine kL [] (fun (_ : Unit) => [(17, .int .i64 (mJ (fun r => iw r == 0) l 0))]) (fun (_ : Unit) W => V w0 W (iV (Aw .i32) b1 (EN q1 q2 q3 q4 q5 q6) • Kq q1 q2 q3 q4 q5 q6 • F)) (Sub.nil _) ?_ ?_
                ·rintro _ w5 HN
                 dsimp only [List.cons_append, List.nil_append]
                 refine bM O (gU O (gU O (fA O (aU (aA ?_)))))
                 refine iP (.inl O) og O O O ?_
                 exact ⟨by unfold nV; rw [if_neg (by omega), if_neg (by omega), if_neg (by omega), if_neg (by omega), if_pos (by omega)]; rfl, HN.right.right⟩
                ·skip
                 refine bM O (aQ (gW O O) (jr O (fun h10 => ?_) (fun h10 => ?_)))
                 ·(try simp only [Z] at h10)
                  try (exfalso; first | contradiction | omega)
                  all_goals
                   refine aB (bJ O (aQ (iT (hr _ (H4.right.right)) ah O) (gU O (bZ ?_))))
                   refine dD (()) ?_ ?_ ?_
                   ·exact (Sub.jW O (by congr 1; by_cases hq : mJ (fun r => iw r == 0) l 0 < l.length <;> simp_all <;> omega) (Sub.nil _))
                   ·exact (Sub.nil _)
                   ·(try dsimp only)
                    first | done | exact H4.f2.f2
                 ·(try simp only [Z] at h10)
                  try (exfalso; first | contradiction | omega)
                  all_goals
                   refine dh ?_
                   refine dD (()) ?_ ?_ ?_
                   ·exact (Sub.jW O (by congr 1; by_cases hq : mJ (fun r => iw r == 0) l 0 < l.length <;> simp_all <;> omega) (Sub.nil _))
                   ·exact (Sub.nil _)
                   ·(try dsimp only)
                    first | done | exact H4.f2.f2
              ·(try simp only [Z] at h9)
               try (exfalso; first | contradiction | omega)
               all_goals
                refine kL [(0, _), (1, _), (2, _), (3, _), (4, _), (40, _)] (fun (_ : Unit) => [(87, .bool (decide (key = 102 ∨ key = 70 ∨ key = 116 ∨ key = 84)))]) (fun (_ : Unit) W => V w0 W (iV (Aw .i32) b1 (EN q1 q2 q3 q4 q5 q6) • Kq q1 q2 q3 q4 q5 q6 • F)) KO ?_ ?_
                ·rintro _ w6 HK
                 dsimp only [List.cons_append, List.nil_append]
                 refine aZ O (fun h11 => ?_) (fun h11 => ?_)
                 ·(try simp only [Z] at h11)
                  try (exfalso; first | contradiction | omega)
                  all_goals
                   refine bM O (jX O O (jX O O (dS O func42 (WV HK (fun W HW => hr _ (HW.right.right)) (by omega) (by omega) (by omega) (by omega)) ?_)))
                   rintro _ w7 ⟨rfl, H7⟩
                   refine pW O O (pW O O (pW O O (gU O (gU O (fA O (aU (aA ?_)))))))
                   refine iP (.inl O) og O O O ?_
                   exact ⟨by unfold nV; rw [if_neg (by omega), if_neg (by omega), if_neg (by omega), if_neg (by omega), if_neg (by omega), if_neg (by omega), if_pos (by omega)]; rfl, H7.right.right⟩
                 ·(try simp only [Z] at h11)
                  try (exfalso; first | contradiction | omega)
                  all_goals
                   refine iy (aQ (eF O O) (dZ O (aZ O (fun h12 => ?_) (fun h12 => ?_))))
                   ·(try simp only [Z] at h12)
                    try (exfalso; first | contradiction | omega)
                    all_goals
                     refine bM O (bJ O (dS O func43 (RI HK (fun W HW => hr _ (HW.right.right)) (by omega) (by omega)) ?_))
                     rintro _ w8 ⟨rfl, H8⟩
                     refine pW O O (pW O O (pW O O (gU O (gU O (fA O (aU (aA ?_)))))))
                     refine iP (.inl O) og O O O ?_
                     exact ⟨by unfold nV; rw [if_neg (by omega), if_neg (by omega), if_neg (by omega), if_neg (by omega), if_neg (by omega), if_neg (by omega), if_neg (by omega), if_pos (by omega)]; rfl, H8.right.right⟩
                   ·(try simp only [Z] at h12)
                    try (exfalso; first | contradiction | omega)
                    all_goals
                     refine dh (aH (aX (iy (gU O (gU O (fA O ?_))))))
                     refine iP (.inl O) og O O O ?_
                     exact ⟨by unfold nV; rw [if_neg (by omega), if_neg (by omega), if_neg (by omega), if_neg (by omega), if_neg (by omega), if_neg (by omega), if_neg (by omega), if_neg (by omega), adv hk]; rfl, HK.right.right⟩
                ·skip
                 refine iy (aQ (eF O O) (dZ O (aZ O (fun h13 => ?_) (fun h13 => ?_))))
                 ·(try simp only [Z] at h13)
                  try (exfalso; first | contradiction | omega)
                  all_goals
                   refine dh ?_
                   refine dD (()) ?_ ?_ ?_
                   ·exact (Sub.jW O (congrArg Value.bool (decide_eq_decide.2 (by omega))) (Sub.nil _))
                   ·exact KO
                   ·(try dsimp only)
                    first | done | exact HJ.f2.f2
                 ·(try simp only [Z] at h13)
                  try (exfalso; first | contradiction | omega)
                  all_goals
                   refine iy (aQ (eF O O) (dZ O (aZ O (fun h14 => ?_) (fun h14 => ?_))))
                   ·(try simp only [Z] at h14)
                    try (exfalso; first | contradiction | omega)
                    all_goals
                     refine dh ?_
                     refine dD (()) ?_ ?_ ?_
                     ·exact (Sub.jW O (congrArg Value.bool (decide_eq_decide.2 (by omega))) (Sub.nil _))
                     ·exact KO
                     ·(try dsimp only)
                      first | done | exact HJ.f2.f2
                   ·(try simp only [Z] at h14)
                    try (exfalso; first | contradiction | omega)
                    all_goals
                     refine iy (aQ (eF O O) (dZ O (aZ O (fun h15 => ?_) (fun h15 => ?_))))
                     ·(try simp only [Z] at h15)
                      try (exfalso; first | contradiction | omega)
                      all_goals
                       refine dh ?_
                       refine dD (()) ?_ ?_ ?_
                       ·exact (Sub.jW O (congrArg Value.bool (decide_eq_decide.2 (by omega))) (Sub.nil _))
                       ·exact KO
                       ·(try dsimp only)
                        first | done | exact HJ.f2.f2
                     ·(try simp only [Z] at h15)
                      try (exfalso; first | contradiction | omega)
                      all_goals
                       refine aB (aQ (eF O O) (gU O (bZ ?_)))
                       refine dD (()) ?_ ?_ ?_
                       ·exact (Sub.jW O (congrArg Value.bool (decide_eq_decide.2 (by omega))) (Sub.nil _))
                       ·exact KO
                       ·(try dsimp only)
                        first | done | exact HJ.f2.f2
     ·skip
      refine iy (aQ (eF O O) (dZ O (aZ O (fun h16 => ?_) (fun h16 => ?_))))
      ·(try simp only [Z] at h16)
       try (exfalso; first | contradiction | omega)
       all_goals
        refine dh ?_
        refine dD (()) ?_ ?_ ?_
        ·exact (Sub.jW O (congrArg Value.bool (decide_eq_decide.2 (by omega))) (Sub.nil _))
        ·exact KO
        ·(try dsimp only)
         first | done | exact H1.f2.f2
      ·(try simp only [Z] at h16)
       try (exfalso; first | contradiction | omega)
       all_goals
        refine aB (aQ (eF O O) (gU O (bZ ?_)))
        refine dD (()) ?_ ?_ ?_
        ·exact (Sub.jW O (congrArg Value.bool (decide_eq_decide.2 (by omega))) (Sub.nil _))
        ·exact KO
        ·(try dsimp only)
         first | done | exact H1.f2.f2
end
def Xh : ByteArray := ⟨#[102, 70, 116, 84]⟩
def mg (n : ByteArray) : ByteArray :=
  if n.toList = sN.toList then ⟨#[100, 68]⟩ else if n.toList = Dv.toList then ⟨#[99, 67]⟩ else if n.toList = Jr.toList then ⟨#[121, 89]⟩ else if n.toList = J9.toList then ⟨#[120, 88]⟩ else
  if n.toList = abH.toList then ⟨#[115, 83]⟩ else if n.toList = abG.toList then ⟨#[112, 80]⟩ else if n.toList = abE.toList then ⟨#[105, 97, 73, 65]⟩ else if n.toList = abI.toList then ⟨#[117, 85]⟩ else ⟨#[]⟩
namespace VM
variable (M : VM)
def tgt (l : List Int) (p : Int) (keys : List Int) (n : Int) : Int × Bool × Bool :=
  if keys.length = 0 then (0, false, false)
  else if keys.getD 0 0 = 96 then (M.at (if 1 < keys.length then keys.getD 1 0 else 0), false, decide (0 ≤ M.at (if 1 < keys.length then keys.getD 1 0 else 0) ∧ M.at (if 1 < keys.length then keys.getD 1 0 else 0) ≤ l.length))
  else if keys.getD 0 0 = 59 ∨ keys.getD 0 0 = 44 then (if M.fk = 0 then (0, false, false) else zM l p (if keys.getD 0 0 = 44 then bits .xor .i32 M.fk 32 else M.fk) M.fc n)
  else zM l p (keys.getD 0 0) (if 1 < keys.length then keys.getD 1 0 else 0) n
def sought (l : List Int) (p : Int) (keys : List Int) (n : Int) : VM :=
  if keys.length = 0 then M else if keys.getD 0 0 = 96 then M else if keys.getD 0 0 = 59 ∨ keys.getD 0 0 = 44 then M
  else if (zM l p (keys.getD 0 0) (if 1 < keys.length then keys.getD 1 0 else 0) n).2.2 = true ∧ keys.getD 0 0 ∈ rJ Xh then { M with fk := keys.getD 0 0, fc := if 1 < keys.length then keys.getD 1 0 else 0 } else M
end VM
section
variable {w0 w : World} {F : HP} {c m e : Nat} {s : bF} {name : ByteArray} {kv lv qv : Value} {keys l ks : List Int} {n p x q : Int} {g : Bool} {M M' : VM}
theorem vY : iQ prog 160 #[.string name] w fun v w' => v = .string (mg name) ∧ w = w' := by
 refine ji func160 ntmps160 ?_
 refine ku O (aI (bM O (iE (bf (iy (aQ (bY O O) (dZ O (aZ O (fun h1 => ?_) (fun h1 => ?_)))))))))
 ·(try simp only [Z] at h1)
  refine kC O (aU (aA (dI ql O ?_)))
  refine ⟨congrArg Value.string ?_, O⟩
  unfold mg
  repeat (first | (rw [if_pos (by assumption)]; done) | rw [if_neg (by assumption)])
 ·(try simp only [Z] at h1)
  refine iy (aQ (bY O O) (dZ O (aZ O (fun h2 => ?_) (fun h2 => ?_))))
  ·(try simp only [Z] at h2)
   refine kC O (aU (aA (dI ql O ?_)))
   refine ⟨congrArg Value.string ?_, O⟩
   unfold mg
   repeat (first | (rw [if_pos (by assumption)]; done) | rw [if_neg (by assumption)])
  ·(try simp only [Z] at h2)
   refine iy (aQ (bY O O) (dZ O (aZ O (fun h3 => ?_) (fun h3 => ?_))))
   ·(try simp only [Z] at h3)
    refine kC O (aU (aA (dI ql O ?_)))
    refine ⟨congrArg Value.string ?_, O⟩
    unfold mg
    repeat (first | (rw [if_pos (by assumption)]; done) | rw [if_neg (by assumption)])
   ·(try simp only [Z] at h3)
    refine iy (aQ (bY O O) (dZ O (aZ O (fun h4 => ?_) (fun h4 => ?_))))
    ·(try simp only [Z] at h4)
     refine kC O (aU (aA (dI ql O ?_)))
     refine ⟨congrArg Value.string ?_, O⟩
     unfold mg
     repeat (first | (rw [if_pos (by assumption)]; done) | rw [if_neg (by assumption)])
    ·(try simp only [Z] at h4)
     refine iy (aQ (bY O O) (dZ O (aZ O (fun h5 => ?_) (fun h5 => ?_))))
     ·(try simp only [Z] at h5)
      refine kC O (aU (aA (dI ql O ?_)))
      refine ⟨congrArg Value.string ?_, O⟩
      unfold mg
      repeat (first | (rw [if_pos (by assumption)]; done) | rw [if_neg (by assumption)])
     ·(try simp only [Z] at h5)
      refine iy (aQ (bY O O) (dZ O (aZ O (fun h6 => ?_) (fun h6 => ?_))))
      ·(try simp only [Z] at h6)
       refine kC O (aU (aA (dI ql O ?_)))
       refine ⟨congrArg Value.string ?_, O⟩
       unfold mg
       repeat (first | (rw [if_pos (by assumption)]; done) | rw [if_neg (by assumption)])
      ·(try simp only [Z] at h6)
       refine iy (aQ (bY O O) (dZ O (aZ O (fun h7 => ?_) (fun h7 => ?_))))
       ·(try simp only [Z] at h7)
        refine kC O (aU (aA (dI ql O ?_)))
        refine ⟨congrArg Value.string ?_, O⟩
        unfold mg
        repeat (first | (rw [if_pos (by assumption)]; done) | rw [if_neg (by assumption)])
       ·(try simp only [Z] at h7)
        refine iy (aQ (bY O O) (dZ O (aZ O (fun h8 => ?_) (fun h8 => ?_))))
        ·(try simp only [Z] at h8)
         refine kC O (aU (aA (dI ql O ?_)))
         refine ⟨congrArg Value.string ?_, O⟩
         unfold mg
         repeat (first | (rw [if_pos (by assumption)]; done) | rw [if_neg (by assumption)])
        ·(try simp only [Z] at h8)
         refine dh (aH (aX (kC O (dI ql O ?_))))
         refine ⟨congrArg Value.string ?_, O⟩
         unfold mg
         repeat (first | (rw [if_pos (by assumption)]; done) | rw [if_neg (by assumption)])
theorem ahv (h : keys.length = 0) : M.tgt l p keys n = (0, false, false) ∧ M.sought l p keys n = M := ⟨if_pos h, if_pos h⟩
theorem aew (h : ¬ keys.length = 0) (h1 : keys.getD 0 0 = 96) : M.tgt l p keys n = (M.at (if 1 < keys.length then keys.getD 1 0 else 0), false, decide (0 ≤ M.at (if 1 < keys.length then keys.getD 1 0 else 0) ∧ M.at (if 1 < keys.length then keys.getD 1 0 else 0) ≤ l.length)) ∧ M.sought l p keys n = M := by
  unfold VM.tgt VM.sought; rw [if_neg h, if_neg h, if_pos h1, if_pos h1]; exact ⟨rfl, rfl⟩
theorem ahw (h : ¬ keys.length = 0) (h1 : ¬ keys.getD 0 0 = 96) (h2 : keys.getD 0 0 = 59 ∨ keys.getD 0 0 = 44) : M.tgt l p keys n = (if M.fk = 0 then (0, false, false) else zM l p (if keys.getD 0 0 = 44 then bits .xor .i32 M.fk 32 else M.fk) M.fc n) ∧ M.sought l p keys n = M := by
  unfold VM.tgt VM.sought; rw [if_neg h, if_neg h, if_neg h1, if_neg h1, if_pos h2, if_pos h2]; exact ⟨rfl, rfl⟩
theorem aex (h : ¬ keys.length = 0) (h1 : ¬ keys.getD 0 0 = 96) (h2 : ¬ (keys.getD 0 0 = 59 ∨ keys.getD 0 0 = 44)) : M.tgt l p keys n = zM l p (keys.getD 0 0) (if 1 < keys.length then keys.getD 1 0 else 0) n ∧ M.sought l p keys n = (if (zM l p (keys.getD 0 0) (if 1 < keys.length then keys.getD 1 0 else 0) n).2.2 = true ∧ keys.getD 0 0 ∈ rJ Xh then { M with fk := keys.getD 0 0, fc := (if 1 < keys.length then keys.getD 1 0 else 0) } else M) := by
  unfold VM.tgt VM.sought; rw [if_neg h, if_neg h, if_neg h1, if_neg h1, if_neg h2, if_neg h2]; exact ⟨rfl, rfl⟩
theorem UN (H : V w0 w (VC c m e name kv q g lv p • jw 21 .i32 lv l • jY m M • F)) (hr : jh w0 F .i32 qv keys) (hT : vZ w0) (Yk : l.length ≤ 4611686018427387904) (hn : n ≤ 9223372036854775807) :
  iQ prog 162 #[.pointer (some ⟨c, 0, none⟩), qv, .int .i64 n] w fun v w' => v = Zt (M.tgt l p keys n) ∧ V w0 w' (VC c m e name kv q g lv p • jw 21 .i32 lv l • jY m (M.sought l p keys n) • F) := by
 refine zk func162 ntmps162 ?_
 refine iy (gU O (gU O (uf O (bM O (aQ (iT (hr _ (H.right.right.right)) ah O) (aQ (eF O O) (jr O (fun h1 => ?_) (fun h1 => ?_))))))))
 ·(try simp only [Z] at h1)
  refine iy (gU O (gU O (fA O (aA ?_))))
  refine iP (.inl O) results162 O O O ?_
  obtain ⟨h8, h9⟩ := ahv (M := M) (l := l) (p := p) (n := n) (keys := keys) (by omega)
  exact ⟨by rw [h8]; rfl, by rw [h9]; exact H.f3.f3.f3⟩
 ·(try simp only [Z] at h1)
  refine fV (aI ?_)
  have hk0 : ¬ keys.length = 0 := by omega
  refine aB (bJ O ?_)
  obtain ⟨bqv, oqv, cqv, eqv⟩ := fJ.rW (hr _ (H.right.right.right)) (by omega)
  cases eqv
  refine aQ (dM ah bK O O (by omega)) ?_
  refine aQ (fF (dA bC O) O (by first | exact fJ.lX (hr _ (H.right.right.right)) (by omega) | exact fJ.xJ (hr _ (H.right.right.right)) (by omega) | exact fJ.xH (hr _ (H.right.right.right)) (by omega))) ?_
  refine gU O (dZ O ?_)
  refine kL [(0, _), (2, _), (9, _)] (fun (_ : Unit) => [(10, .int .i32 (if 1 < keys.length then keys.getD 1 0 else 0))]) (fun (_ : Unit) W => V w0 W (VC c m e name kv q g lv p • jw 21 .i32 lv l • jY m M • F)) vC ?_ ?_
  ·rintro _ w1 HJ
   dsimp only [List.cons_append, List.nil_append]
   refine aI (bM O (iE (bf (iy (aQ (eF O O) (dZ O (aZ O (fun h2 => ?_) (fun h2 => ?_))))))))
   ·(try simp only [Z] at h2)
    have hk1 : keys.getD 0 0 = 96 := h2
    refine bM O (dK O (bI 0 aN O vX O (fC fO O (HJ).get.2 O (bJ O (dS O func183 (UD HJ.f3) ?_)))))
    rintro _ w2 ⟨rfl, H2⟩
    refine uf O ?_
    have adw := H2.drew
    have qW := V.kp (adw.f3.f3.f3)
    refine uN [8] qW O (gX 0 O qW O (gX 1 O qW O (iI 2 O qW (fun _ => lI O O) ?_)))
    refine Hg 3 O O (by kernel_rfl) (by kernel_rfl) qW (lN O) (fun h3 => ?_) (fun h3 => ?_)
    ·(try simp only [Z] at h3)
     refine lg 4 O O O (by kernel_rfl) (by kernel_rfl) qW (fun _ => Gp O) (lN O) ?_
     refine lg 5 O O O (by kernel_rfl) (by kernel_rfl) qW (fun _ => Gp O) (lN O) ?_
     refine lg 6 O O O (by kernel_rfl) (by kernel_rfl) qW (fun _ => SG O) (lN O) ?_
     refine lg 7 O O O (by kernel_rfl) (by kernel_rfl) qW (fun _ => G9 6 aN O O bV (by decide) O rfl) (lN O) ?_
     refine D8 8 O O O (by kernel_rfl) (by kernel_rfl) qW (by decide) (fun W hW => fF (dA ah O) O (kS ((Kp.h hW).f2).get.2 O)) (lN O) ?_
     refine lg 9 O O O (by kernel_rfl) (by kernel_rfl) qW (fun _ => iT ((adw.f3).aP) ah O) (lN O) ?_
     refine lg 10 O O O (by kernel_rfl) (by kernel_rfl) qW (fun _ => pV O O) (lN O) ?_
     refine iI 11 O qW (fun _ => G6 O O) (iI 12 O qW (fun _ => dB O) (iI 13 O qW (fun _ => dB O) (iI 14 O qW (fun _ => dB O) (pq (aX (lQ (aU (aA ?_))))))))
     refine iP (.inl O) results162 O O O ?_
     obtain ⟨e1, e2⟩ := aew (M := M) (l := l) (p := p) (n := n) hk0 hk1
     refine ⟨?_, by rw [e2]; exact adw.f3.f3⟩
     rw [e1]
     refine congrArg (fun b => Value.tuple #[.int .i64 (M.at (if 1 < keys.length then keys.getD 1 0 else 0)), .bool false, .bool b]) ?_
     first | exact decide_eq_decide.2 (by omega) | exact (decide_eq_false (by omega)).symm
    ·(try simp only [Z] at h3)
     refine lC 4 O O O O (by kernel_rfl) (by kernel_rfl) qW (lN O) ?_
     refine lC 5 O O O O (by kernel_rfl) (by kernel_rfl) qW (lN O) ?_
     refine lC 6 O O O O (by kernel_rfl) (by kernel_rfl) qW (lN O) ?_
     refine lC 7 O O O O (by kernel_rfl) (by kernel_rfl) qW (lN O) ?_
     refine lC 8 O O O O (by kernel_rfl) (by kernel_rfl) qW (lN O) ?_
     refine lC 9 O O O O (by kernel_rfl) (by kernel_rfl) qW (lN O) ?_
     refine lC 10 O O O O (by kernel_rfl) (by kernel_rfl) qW (lN O) ?_
     refine iI 11 O qW (fun _ => Ac O O) (iI 12 O qW (fun _ => dB O) (iI 13 O qW (fun _ => dB O) (iI 14 O qW (fun _ => dB O) (pq (aX (lQ (aU (aA ?_))))))))
     refine iP (.inl O) results162 O O O ?_
     obtain ⟨e1, e2⟩ := aew (M := M) (l := l) (p := p) (n := n) hk0 hk1
     refine ⟨?_, by rw [e2]; exact adw.f3.f3⟩
     rw [e1]
     refine congrArg (fun b => Value.tuple #[.int .i64 (M.at (if 1 < keys.length then keys.getD 1 0 else 0)), .bool false, .bool b]) ?_
     first | exact decide_eq_decide.2 (by omega) | exact (decide_eq_false (by omega)).symm
   ·(try simp only [Z] at h2)
    have hk1 : ¬ keys.getD 0 0 = 96 := h2
    refine kL [(0, _), (2, _), (9, _), (10, _)] (fun (_ : Unit) => [(49, .bool (decide (keys.getD 0 0 = 59 ∨ keys.getD 0 0 = 44)))]) (fun (_ : Unit) W => V w0 W (VC c m e name kv q g lv p • jw 21 .i32 lv l • jY m M • F)) JF ?_ ?_
    ·rintro _ w3 HK
     dsimp only [List.cons_append, List.nil_append]
     refine aZ O (fun h4 => ?_) (fun h4 => ?_)
     ·(try simp only [Z] at h4)
      refine aI ?_
      obtain ⟨NG, KJ, Ju, tX, wL⟩ := (HK.f3).vm
      have hk2 : keys.getD 0 0 = 59 ∨ keys.getD 0 0 = 44 := by omega
      obtain ⟨e1, e2⟩ := ahw (M := M) (l := l) (p := p) (n := n) hk0 hk1 hk2
      refine aB (oq O O (bI 0 aN O vX O (fC fO O (wL.f5).get.2 O (dK O (bI 1 gQ O sizeOf115 O (aQ (pY 1 (xs := [_, _]) oV O sizeOf115 O O (wL).get.2 O) ?_))))))
      have Ho6 := wL.f4.f4.f4.f4
      have Hc7 := V.CS (M := M) tX Ho6
      refine kF (iR (l := [_, _]) Hc7 zeroValue115 O) ?_
      rintro _ w8 ⟨b8, rfl, H8⟩
      refine aJ (dG 0 (l' := [_, _]) (us := [_, _]) H8 sizeOf115 O O O (aG (aG bW)) O O) ?_
      rintro _ w9 H9
      refine rP (iy (bI 0 oV O bK O (fC bC O (H9).get.2 O (aQ (eF O O) (jr O (fun h5 => ?_) (fun h5 => ?_))))))
      ·(try simp only [Z] at h5)
       have hf0 : M.fk = 0 := h5
       refine iy (gU O (gU O (fA O (aA (aU (aA ?_))))))
       refine iP (.inl O) results162 O O O ?_
       exact ⟨by rw [e1, if_pos hf0]; rfl, by rw [e2]; exact H9.right.f3.f3⟩
      ·(try simp only [Z] at h5)
       have hf0 : ¬ M.fk = 0 := h5
       refine fV ?_
       refine kL [(0, _), (2, _), (12, _)] (fun (_ : Unit) => []) (fun (_ : Unit) W => V w0 W (eP b8 (.cells #[.int .i32 (if keys.getD 0 0 = 44 then bits .xor .i32 M.fk 32 else M.fk), .int .i32 M.fc] 115 (0, 0)) • VC c m e name kv q g lv p • jw 21 .i32 lv l • jY m M • F)) vC ?_ ?_
       ·rintro _ w10 HN
        dsimp only [List.cons_append, List.nil_append]
        refine aI ?_
        have abT := HN.drew
        have oW := V.kp (abT.f4.f4.f4.f4)
        refine uN [3, 7, 9, 11, 16] oW O (gX 0 O oW O (jE 1 O oW O (gy 2 O oW 6 aN O bV O (jf 3 O oW (fun W hW => jv ah O ((Kp.h hW).f2).get.2 O) (gX 4 O oW O (jE 5 O oW O (gy 6 O oW 7 aN O ay O (jf 7 O oW (fun W hW => jv aC O ((Kp.h hW).f2).get.2 O) (gy 8 O oW 0 oV O bK O (jf 9 O oW (fun W hW => jv bC O ((Kp.h hW)).get.2 O) (gy 10 O oW 1 oV O bK O (jf 11 O oW (fun W hW => jv bC O ((Kp.h hW)).get.2 O) (gX 12 O oW O (gX 13 O oW O (jE 14 O oW O (gy 15 O oW 5 aN O aS O (jf 16 O oW (fun W hW => jv cZ O ((Kp.h hW).f2).get.2 O) (mQ 17 O (wR O func11 (EO abT (fun W HW => (HW.f3).aP) hT (by omega) (by omega))) ?_))))))))))))))))))
        rintro _ FM ⟨rfl, rY⟩
        have Aq := V.kp (rY.f4.f4.f4.f4)
        refine iK Aq (by kernel_rfl) ?_
        refine iI 18 O Aq (fun _ => pJ O O) (iI 19 O Aq (fun _ => pJ O O) (iI 20 O Aq (fun _ => pJ O O) (iI 21 O Aq (fun _ => dB O) (iI 22 O Aq (fun _ => dB O) (iI 23 O Aq (fun _ => dB O) (pq (aX (lQ (aU (aA ?_))))))))))
        refine iP (.inl O) results162 O O O ?_
        exact ⟨by rw [e1, if_neg hf0]; rfl, by rw [e2]; exact rY.right.f3.f3.f3⟩
       ·skip
        refine bM O (aQ (eF O O) (jr O (fun h6 => ?_) (fun h6 => ?_)))
        ·(try simp only [Z] at h6)
         refine aB (bI 0 oV O bK O (fC bC O (H9).get.2 O ?_))
         refine aQ (Yh .xor O O (by simp)) ?_
         refine bI 0 oV O bK O (aJ (st2 0 H9 bK) ?_)
         rintro _ w12 vM
         refine bZ ?_
         refine dD (()) ?_ ?_ ?_
         ·exact (Sub.nil _)
         ·exact vC
         ·(try dsimp only)
          first | done | exact (by first | (rw [if_pos (by assumption)]; exact vM.f2.f4.f4.f4) | (rw [if_neg (by assumption)]; exact vM.f2.f4.f4.f4))
        ·(try simp only [Z] at h6)
         refine dh ?_
         refine dD (()) ?_ ?_ ?_
         ·exact (Sub.nil _)
         ·exact vC
         ·(try dsimp only)
          first | done | exact (by first | (rw [if_pos (by assumption)]; exact H9.f2.f4.f4.f4) | (rw [if_neg (by assumption)]; exact H9.f2.f4.f4.f4))
     ·(try simp only [Z] at h4)
      refine dh (aH (aX (aI ?_)))
      have hk2 : ¬ (keys.getD 0 0 = 59 ∨ keys.getD 0 0 = 44) := by omega
      obtain ⟨e1, e2⟩ := aex (M := M) (l := l) (p := p) (n := n) hk0 hk1 hk2
      have abU := HK.drew
      have qM := V.kp (abU.f3.f3.f3)
      refine uN [3, 7, 14] qM O (gX 0 O qM O (jE 1 O qM O (gy 2 O qM 6 aN O bV O (jf 3 O qM (fun W hW => jv ah O ((Kp.h hW)).get.2 O) (gX 4 O qM O (jE 5 O qM O (gy 6 O qM 7 aN O ay O (jf 7 O qM (fun W hW => jv aC O ((Kp.h hW)).get.2 O) (gX 8 O qM O (gX 9 O qM O (gX 10 O qM O (gX 11 O qM O (jE 12 O qM O (gy 13 O qM 5 aN O aS O (jf 14 O qM (fun W hW => jv cZ O ((Kp.h hW)).get.2 O) (mQ 15 O (wR O func11 (EO abU (fun W HW => (HW.f2).aP) hT (by omega) (by omega))) ?_))))))))))))))))
      rintro _ PD ⟨rfl, xI⟩
      have y8 := V.kp (xI.f3.f3.f3)
      refine iK y8 (by kernel_rfl) ?_
      refine gX 16 O y8 O (iI 17 O y8 (fun _ => pJ O O) (iI 18 O y8 (fun _ => pJ O O) (iI 19 O y8 (fun _ => pJ O O) (iI 20 O y8 (fun _ => dB O) (iI 21 O y8 (fun _ => dB O) (iI 22 O y8 (fun _ => dB O) (pq (aX (aI (bM O (jm O (fun h7 => ?_) (fun h7 => ?_))))))))))))
      ·(try simp only [Z] at h7)
       refine aY (bJ O (aY (dS O func50 (yD (s := Xh) (by decide)) ?_)))
       rintro _ _ ⟨rfl, rfl⟩
       refine je O O (jr O (fun h8 => ?_) (fun h8 => ?_))
       ·(try simp only [Z] at h8)
        obtain ⟨NG, KJ, Ju, tX, wL⟩ := (xI.f3).vm
        refine aB (oq O O (bI 0 aN O vX O (fC fO O (wL.f5).get.2 O (jX O O ?_))))
        refine aQ (fU (zl := [.int .i32 0, .int .i32 0]) (pl := [(0, 1), (1, 1)]) [_, _] oV zeroValue115 O (fun w => by kernel_rfl) O (.on (.on .nil)) O) ?_
        refine dK O (bI 1 gQ O sizeOf115 O (aJ (dG 1 (l' := [_, _, _, _, _, _, _, _]) (us := [_, _]) wL sizeOf115 O O O (aG (aG bW)) O O) ?_))
        rintro _ w16 vN
        have Wi := vN.f4.f4.f4.f4
        have Wj := V.CS (M := { M with fk := keys.getD 0 0, fc := (if 1 < keys.length then keys.getD 1 0 else 0) }) tX Wi
        refine sG O (jX O O (gU O (gU O (fA O ?_))))
        refine iP (.inl O) results162 O O O ?_
        refine ⟨by rw [e1]; rfl, ?_⟩
        rw [e2]
        first | (rw [if_pos ⟨by assumption, by assumption⟩]; exact Wj.f3.f3) | (rw [if_neg (fun hc => absurd hc.2 (by assumption))]; exact Wj.f3.f3) | (rw [if_neg (fun hc => absurd hc.1 (by simp only [*]; decide))]; exact Wj.f3.f3)
       ·(try simp only [Z] at h8)
        refine fV (bM O (jX O O (gU O (gU O (fA O ?_)))))
        refine iP (.inl O) results162 O O O ?_
        refine ⟨by rw [e1]; rfl, ?_⟩
        rw [e2]
        first | (rw [if_pos ⟨by assumption, by assumption⟩]; exact xI.f3.f3.f3) | (rw [if_neg (fun hc => absurd hc.2 (by assumption))]; exact xI.f3.f3.f3) | (rw [if_neg (fun hc => absurd hc.1 (by simp only [*]; decide))]; exact xI.f3.f3.f3)
      ·(try simp only [Z] at h7)
       refine bn (bn (fG O O (iE (oh (fV (bM O (jX O O (gU O (gU O (fA O ?_))))))))))
       refine iP (.inl O) results162 O O O ?_
       refine ⟨by rw [e1]; rfl, ?_⟩
       rw [e2]
       first | (rw [if_pos ⟨by assumption, by assumption⟩]; exact xI.f3.f3.f3) | (rw [if_neg (fun hc => absurd hc.2 (by assumption))]; exact xI.f3.f3.f3) | (rw [if_neg (fun hc => absurd hc.1 (by simp only [*]; decide))]; exact xI.f3.f3.f3)
    ·skip
     refine iy (aQ (eF O O) (dZ O (aZ O (fun h9 => ?_) (fun h9 => ?_))))
     ·(try simp only [Z] at h9)
      refine dh ?_
      refine dD (()) ?_ ?_ ?_
      ·exact (Sub.jW O (congrArg Value.bool (decide_eq_decide.2 (by omega))) (Sub.nil _))
      ·exact JF
      ·(try dsimp only)
       first | done | exact HJ.f3.f3.f3
     ·(try simp only [Z] at h9)
      refine aB (aQ (eF O O) (gU O (bZ ?_)))
      refine dD (()) ?_ ?_ ?_
      ·exact (Sub.jW O (congrArg Value.bool (decide_eq_decide.2 (by omega))) (Sub.nil _))
      ·exact JF
      ·(try dsimp only)
       first | done | exact HJ.f3.f3.f3
  ·skip
   refine bM O (aQ (jH ah O) (aQ (eX O O) (jr O (fun h10 => ?_) (fun h10 => ?_))))
   ·(try simp only [Z] at h10)
    refine aB (bJ O (aQ (dM ah bK O O (by omega)) ?_))
    refine aQ (fF (dA bC O) O (by first | exact fJ.lX (hr _ (H.right.right.right)) (by omega) | exact fJ.xJ (hr _ (H.right.right.right)) (by omega) | exact fJ.xH (hr _ (H.right.right.right)) (by omega))) ?_
    refine gU O (bZ ?_)
    refine dD (()) ?_ ?_ ?_
    ·exact (Sub.jW O (by first | (rw [if_pos (by omega)]; rfl) | rw [if_neg (by omega)]) (Sub.nil _))
    ·exact vC
    ·(try dsimp only)
     first | done | exact H.f3.f3.f3
   ·(try simp only [Z] at h10)
    refine dh ?_
    refine dD (()) ?_ ?_ ?_
    ·exact (Sub.jW O (by first | (rw [if_pos (by omega)]; rfl) | rw [if_neg (by omega)]) (Sub.nil _))
    ·exact vC
    ·(try dsimp only)
     first | done | exact H.f3.f3.f3
end
theorem IK {a b : ByteArray} (h : a.toList = b.toList) : a = b := by
  rw [ByteArray.toList_eq, ByteArray.toList_eq] at h
  cases a; cases b
  exact congrArg ByteArray.mk (Array.ext' h)
theorem fB {a b : ByteArray} (h : a.data.toList ≠ b.data.toList) : ¬ a.toList = b.toList := by rw [ByteArray.toList_eq, ByteArray.toList_eq]; exact h
theorem Xi : mg uX = ⟨#[]⟩ := by
  unfold mg
  rw [if_neg (fB (by decide)), if_neg (fB (by decide)), if_neg (fB (by decide)), if_neg (fB (by decide)), if_neg (fB (by decide)), if_neg (fB (by decide)), if_neg (fB (by decide)), if_neg (fB (by decide))]
theorem BG {w0 w : World} {F : HP} {e : Nat} {s : bF} (H : V w0 w (eH e s • F)) : s.c.L.length ≤ 1024 ∧ (0 ≤ s.c.pt ∧ s.c.pt ≤ s.c.L.length) := by
  obtain ⟨pb, pr, pw, pt, pm, ph, bl, pv, es, u0, u1, u2, u3, u4, u5, u6, u7, u8, u9, ua, h, _, _, H2⟩ := H.JV
  obtain ⟨a, c, xs, f, t, h1, h2, h3, h4, h5, h6, h7, _⟩ := H2.f2.buf
  exact ⟨h4, h6⟩
namespace bF
variable (s : bF)
def ZE (M : VM) (keys : List Int) (n : Int) : Int := if (M.tgt s.c.L s.c.pt keys n).2.2 = true then s.Eu (M.tgt s.c.L s.c.pt keys n).1 else 6
def Xj (M : VM) (keys : List Int) (n : Int) : bF := if (M.tgt s.c.L s.c.pt keys n).2.2 = true then s.uF (M.tgt s.c.L s.c.pt keys n).1 else s
end bF
section
variable {w0 : World} {s : bF} {keys : List Int} {n : Int} {g : Bool} {M : VM}
theorem ZF (hT : vZ w0) (hn : n ≤ 9223372036854775807) : GV w0 uX keys n g s M fun x t M' => x = s.ZE M keys n ∧ t = s.Xj M keys n ∧ M' = M.sought s.c.L s.c.pt keys n := by
 intro F w c m e kv lv H hk
 have hln := (BG H.f4).1
 refine ji func124 ntmps124 ?_
 refine ku O (aI (bM O (dK O (bI 2 aN O eG O (fC dw O (H).get.2 O (dS O func160 (vY) ?_))))))
 rintro _ _ ⟨rfl, rfl⟩
 refine dZ O (bM O (aQ (kM O O) (jm O (fun h => by exfalso; (try simp only [Z] at h); exact h (by rw [Xi])) (fun h1 => ?_))))
 (try simp only [Z] at h1)
 refine bn (bn (bn (bn (bn (bn (bn (bn (bn (fG O O (iE (oh (fV (aI (bM O (dK O (bI 2 aN O eG O (fC dw O (H).get.2 O (iE (bf (iy (aQ (bY O O) (dZ O (aZ O (fun h => by exfalso; (try simp only [Z] at h); exact absurd h (fB (by decide))) (fun h2 => ?_))))))))))))))))))))))))
 (try simp only [Z] at h2)
 refine iy (aQ (bY O O) (dZ O (aZ O (fun h3 => ?_) (fun h => by exfalso; (try simp only [Z] at h); exact h O))))
 (try simp only [Z] at h3)
 refine aI ?_
 have ahx := H.drew
 have Gm := V.kp (ahx.f4.f4.f4.f4)
 refine uN [4, 8] Gm O (gX 0 O Gm O (gX 1 O Gm O (jE 2 O Gm O (gy 3 O Gm 3 aN O bV O (jf 4 O Gm (fun W hW => jv ah O ((Kp.h hW)).get.2 O) (gX 5 O Gm O (jE 6 O Gm O (gy 7 O Gm 4 aN O ay O (jf 8 O Gm (fun W hW => jv aC O ((Kp.h hW)).get.2 O) (mQ 9 O (wR O func162 (UN ahx.f3.f3.f3 (fun W HW => hk _ (HW.right)) hT (by omega) (by omega))) ?_))))))))))
 rintro _ w2 ⟨rfl, H2⟩
 have zx := V.kp (H2.f4.f4.f4.f4)
 refine iK zx (by kernel_rfl) ?_
 refine gX 10 O zx O (iI 11 O zx (fun _ => pJ O O) (iI 12 O zx (fun _ => pJ O O) (iI 13 O zx (fun _ => pJ O O) (iI 14 O zx (fun _ => dB O) (iI 15 O zx (fun _ => dB O) (iI 16 O zx (fun _ => dB O) (pq (aX (aI (bM O (aQ (kG O) (jr O (fun h4 => ?_) (fun h4 => ?_)))))))))))))
 ·(try simp only [Z] at h4)
  have hok : ¬ (M.tgt s.c.L s.c.pt keys n).2.2 = true := by have h9 := h4; simpa using h9
  refine kC O (aA (aU (aA (dI qo O ?_))))
  exact ⟨_, _, _, ⟨by unfold bF.ZE; rw [if_neg hok], by unfold bF.Xj; rw [if_neg hok], O⟩, O, H2.f4.f4.f4.f4⟩
 ·(try simp only [Z] at h4)
  have hok : (M.tgt s.c.L s.c.pt keys n).2.2 = true := by have h9 := h4; simpa using h9
  refine fV (bM O (dK O (bI 1 aN O jM O (fC dU O (H2).get.2 O (bJ O (dS O func30 (tK H2.f4) ?_))))))
  rintro _ w3 ⟨rfl, H3⟩
  refine fA O (aU (aA (dI qo O ?_)))
  exact ⟨_, _, _, ⟨by unfold bF.ZE; rw [if_pos hok], by unfold bF.Xj; rw [if_pos hok], O⟩, O, H3.f4.f4.f4⟩
end
namespace bF
variable (s : bF)
def Xk (i j : Int) : Int := if i = j then 6 else if s.JQ i j false = 0 then (s.xu i j false).Eu i else s.JQ i j false
def RJ (i j : Int) : bF := if i = j then s else if s.JQ i j false = 0 then (s.xu i j false).uF i else s.xu i j false
def vdA (keys : List Int) (n : Int) : Int := if keys.getD 0 0 = 88 then s.c.pt - min n s.c.pt else s.c.pt
def vdB (keys : List Int) (n : Int) : Int := if keys.getD 0 0 = 88 then s.c.pt else s.c.pt + min n (s.c.L.length - s.c.pt)
def Yp (keys : List Int) (n : Int) : Int := if keys.getD 0 0 ∈ rJ ⟨#[120, 88]⟩ then s.Xk (s.vdA keys n) (s.vdB keys n) else 6
def Qk (keys : List Int) (n : Int) : bF := if keys.getD 0 0 ∈ rJ ⟨#[120, 88]⟩ then s.RJ (s.vdA keys n) (s.vdB keys n) else s
end bF
section
variable {w0 w : World} {F : HP} {c m e : Nat} {s : bF} {name : ByteArray} {kv lv : Value} {n p i j q : Int} {g : Bool}
theorem Yq (H : V w0 w (VC c m e name kv q g lv p • eH e s • F)) : iQ prog 164 #[.pointer (some ⟨c, 0, none⟩), .int .i64 i, .int .i64 j] w fun v w' => v = .int .i64 (s.Xk i j) ∧ V w0 w' (VC c m e name kv q g lv p • eH e (s.RJ i j) • F) := by
  refine zk func164 ntmps164 ?_
  refine ku O (aI (bM O (bJ O (aQ (eF O O) (jr O (fun h1 => ?_) (fun h1 => ?_))))))
  · (try simp only [Z] at h1)
    have hij := h1
    refine kC O (aA (dI results164 O ?_))
    exact ⟨by unfold bF.Xk; rw [if_pos hij], by unfold bF.RJ; rw [if_pos hij]; exact H.f2.f2⟩
  · (try simp only [Z] at h1)
    have hij : ¬ i = j := h1
    refine fV (aI (bM O (dK O (bI 1 aN O jM O (fC dU O (H).get.2 O (jX O O (dS O func186 (Ug H.f2) ?_)))))))
    rintro _ w1 ⟨rfl, H1⟩
    refine dZ O (bM O (aQ (gY O O) (jr O (fun h2 => ?_) (fun h2 => ?_))))
    · (try simp only [Z] at h2)
      have hke : ¬ s.JQ i j false = 0 := h2
      refine bM O (fA O (aA (dI results164 O ?_)))
      exact ⟨by unfold bF.Xk; rw [if_neg hij, if_neg hke], by unfold bF.RJ; rw [if_neg hij, if_neg hke]; exact H1.f2⟩
    · (try simp only [Z] at h2)
      have hke : s.JQ i j false = 0 := by have h9 := h2; omega
      refine fV (bM O (dK O (bI 1 aN O jM O (fC dU O (H1.f2).get.2 O (bJ O (dS O func30 (tK H1) ?_))))))
      rintro _ w2 ⟨rfl, H2⟩
      refine fA O (dI results164 O ?_)
      exact ⟨by unfold bF.Xk; rw [if_neg hij, if_pos hke], by unfold bF.RJ; rw [if_neg hij, if_pos hke]; exact H2.f2⟩
end
theorem Dx : mg J9 = ⟨#[120, 88]⟩ := by
  unfold mg
  rw [if_neg (fB (by decide)), if_neg (fB (by decide)), if_neg (fB (by decide)), if_pos rfl]
section
variable {w0 : World} {s : bF} {keys : List Int} {n : Int} {g : Bool} {M : VM}
theorem abV (hk1 : 1 ≤ keys.length) (hn : 1 ≤ n ∧ n ≤ 1000000) : GV w0 J9 keys n g s M fun x t M' => x = s.Yp keys n ∧ t = s.Qk keys n ∧ M' = M := by
 intro F w c m e kv lv H hk
 obtain ⟨hln, hpt⟩ := BG H.f4
 refine ji func124 ntmps124 ?_
 refine ku O (aI (bM O (dK O (bI 2 aN O eG O (fC dw O (H).get.2 O (dS O func160 (vY) ?_))))))
 rintro _ _ ⟨rfl, rfl⟩
 refine dZ O (bM O (aQ (kM O O) (jm O (fun h1 => ?_) (fun h => by exfalso; (try simp only [Z] at h); exact absurd h (by rw [Dx]; exact fB (by decide))))))
 (try simp only [Z] at h1)
 refine aY (bJ O (aY (dK O (aY (bI 3 aN O bV O (aY (fC ah O (H).get.2 O (aY ?_))))))))
 obtain ⟨bkv, okv, ckv, ekv⟩ := fJ.rW (hk _ (H.right.right.right.right)) (by omega)
 cases ekv
 refine aQ (dM ah bK O O (by omega)) (aY ?_)
 refine aQ (fF (dA bC O) O (by first | exact fJ.lX (hk _ (H.right.right.right.right)) (by omega) | exact fJ.xJ (hk _ (H.right.right.right.right)) (by omega) | exact fJ.xH (hk _ (H.right.right.right.right)) (by omega))) ?_
 refine aY (bJ O (aY (dS O func50 (yD (by rw [Dx]; decide)) ?_)))
 rintro _ _ ⟨rfl, rfl⟩
 refine aY (aQ (kG O) (je O O (jr O (fun h2 => ?_) (fun h2 => ?_))))
 ·(try simp only [Z] at h2)
  have hin : ¬ keys.getD 0 0 ∈ rJ ⟨#[120, 88]⟩ := by have h9 := h2; rw [Dx] at h9; exact h9
  refine kC O (aA (dI qo O ?_))
  exact ⟨_, _, _, ⟨by unfold bF.Yp; rw [if_neg hin], by unfold bF.Qk; rw [if_neg hin], O⟩, O, H.f4.f4.f4.f4⟩
 ·(try simp only [Z] at h2)
  have hin : keys.getD 0 0 ∈ rJ ⟨#[120, 88]⟩ := by have h9 := h2; rw [Dx] at h9; exact h9
  refine fV (aI (bM O (dK O (bI 2 aN O eG O (fC dw O (H).get.2 O (iE (bf (iy (aQ (bY O O) (dZ O (aZ O (fun h => by exfalso; (try simp only [Z] at h); exact absurd h (fB (by decide))) (fun h3 => ?_))))))))))))
  (try simp only [Z] at h3)
  refine iy (aQ (bY O O) (dZ O (aZ O (fun h => by exfalso; (try simp only [Z] at h); exact absurd h (fB (by decide))) (fun h4 => ?_))))
  (try simp only [Z] at h4)
  refine aI (iy (aQ (bY O O) (dZ O (aZ O (fun h => by exfalso; (try simp only [Z] at h); exact absurd h (fB (by decide))) (fun h5 => ?_)))))
  (try simp only [Z] at h5)
  refine iy (aQ (bY O O) (dZ O (aZ O (fun h => by exfalso; (try simp only [Z] at h); exact absurd h (fB (by decide))) (fun h6 => ?_))))
  (try simp only [Z] at h6)
  refine aB (aQ (bY O O) (dZ O (aZ O (fun h => by exfalso; (try simp only [Z] at h); exact absurd h (fB (by decide))) (fun h7 => ?_))))
  (try simp only [Z] at h7)
  refine iy (aQ (bY O O) (dZ O (aZ O (fun h8 => ?_) (fun h => by exfalso; (try simp only [Z] at h); exact h O))))
  (try simp only [Z] at h8)
  refine aI ?_
  have Kr := H.drew
  have mP := V.kp (Kr.f4.f4.f4.f4)
  refine uN [3, 7, 11, 15, 20] mP O (gX 0 O mP O (jE 1 O mP O (gy 2 O mP 7 aN O ay O (jf 3 O mP (fun W hW => jv aC O ((Kp.h hW)).get.2 O) (gX 4 O mP O (jE 5 O mP O (gy 6 O mP 7 aN O ay O (jf 7 O mP (fun W hW => jv aC O ((Kp.h hW)).get.2 O) (gX 8 O mP O (jE 9 O mP O (gy 10 O mP 4 aN O ay O (jf 11 O mP (fun W hW => jv aC O ((Kp.h hW)).get.2 O) (gX 12 O mP O (jE 13 O mP O (gy 14 O mP 6 aN O bV O (jf 15 O mP (fun W hW => jv ah O ((Kp.h hW)).get.2 O) (iI 16 O mP (fun _ => iT ((Kr.f2).aP) ah O) (gX 17 O mP O (jE 18 O mP O (gy 19 O mP 7 aN O ay O (jf 20 O mP (fun W hW => jv aC O ((Kp.h hW)).get.2 O) (iI 21 O mP (fun _ => jk O O (by omega)) (iI 22 O mP (fun _ => wO O O) (iI 23 O mP (fun _ => fQ O O (by omega)) (iI 24 O mP (fun _ => dB O) (iI 25 O mP (fun _ => dB O) (pq (aX ?_))))))))))))))))))))))))))))
  refine kL [(0, _)] (fun (_ : Unit) => [(7, .int .i64 (s.vdA keys n)), (8, .int .i64 (s.vdB keys n))]) (fun (_ : Unit) W => V w0 W (VC c m e J9 (.slice (some ⟨bkv, okv, none⟩) (keys.length) ckv) n g lv s.c.pt • jw 21 .i32 lv s.c.L • jY m M • eH e s • F)) mO ?_ ?_
  ·rintro _ w3 HJ
   dsimp only [List.cons_append, List.nil_append]
   refine bM O (jX O O (dS O func164 (Yq HJ.f4.f2) ?_))
   rintro _ w4 ⟨rfl, H4⟩
   refine fA O (aU (aA (dI qo O ?_)))
   exact ⟨_, _, _, ⟨by unfold bF.Yp; rw [if_pos hin], by unfold bF.Qk; rw [if_pos hin], O⟩, O, H4.f2.f4.f4.f4⟩
  ·skip
   refine bM O (dK O (bI 3 aN O bV O (fC ah O (Kr).get.2 O (aQ (dM ah bK O O (by omega)) ?_))))
   refine aQ (fF (dA bC O) O (by first | exact fJ.lX (hk _ (Kr.right.right.right.right)) (by omega) | exact fJ.xJ (hk _ (Kr.right.right.right.right)) (by omega) | exact fJ.xH (hk _ (Kr.right.right.right.right)) (by omega))) ?_
   refine aQ (eF O O) (jr O (fun h9 => ?_) (fun h9 => ?_))
   ·(try simp only [Z] at h9)
    have aey := Kr.drew
    have qI := V.kp (aey.f4.f4.f4.f4)
    refine uN [3, 7, 11, 17] qI O (gX 0 O qI O (jE 1 O qI O (gy 2 O qI 7 aN O ay O (jf 3 O qI (fun W hW => jv aC O ((Kp.h hW)).get.2 O) (gX 4 O qI O (jE 5 O qI O (gy 6 O qI 4 aN O ay O (jf 7 O qI (fun W hW => jv aC O ((Kp.h hW)).get.2 O) (gX 8 O qI O (jE 9 O qI O (gy 10 O qI 7 aN O ay O (jf 11 O qI (fun W hW => jv aC O ((Kp.h hW)).get.2 O) (iI 12 O qI (fun _ => wO O O) (iI 13 O qI (fun _ => jk O O (by omega)) (gX 14 O qI O (jE 15 O qI O (gy 16 O qI 7 aN O ay O (jf 17 O qI (fun W hW => jv aC O ((Kp.h hW)).get.2 O) (iI 18 O qI (fun _ => dB O) (iI 19 O qI (fun _ => dB O) (pq ?_)))))))))))))))))))))
    refine dD (()) ?_ ?_ ?_
    ·exact (Sub.jW O (by unfold bF.vdA; by_cases hz : keys.getD 0 0 = 88 <;> simp_all) (Sub.jW O (by unfold bF.vdB; by_cases hz : keys.getD 0 0 = 88 <;> simp_all) (Sub.nil _)))
    ·exact mO
    ·(try dsimp only)
     first | done | exact aey.f4.f4.f4.f4
   ·(try simp only [Z] at h9)
    refine dh ?_
    refine dD (()) ?_ ?_ ?_
    ·exact (Sub.jW O (by unfold bF.vdA; by_cases hz : keys.getD 0 0 = 88 <;> simp_all) (Sub.jW O (by unfold bF.vdB; by_cases hz : keys.getD 0 0 = 88 <;> simp_all) (Sub.nil _)))
    ·exact mO
    ·(try dsimp only)
     first | done | exact Kr.f4.f4.f4.f4
end
end Go.Proofs.YtpdeedplgmbopaaGreatDoor
end
section
namespace Go.Proofs.YtpdeedplgmbopaaGreatDoor
open Go.RowKit
namespace bF
def ahy (a : Int) : Nat → bF → Int × bF
  | 0, s => (s.Eu (s.c.pt - 1), s.uF (s.c.pt - 1))
  | k + 1, s => if s.Cm = 0 then (if s.xP.c.pt = a then (0, s.xP) else ahy a k s.xP) else (s.Cm, s.xP)
variable (s : bF)
def afG (keys : List Int) : Prop := keys.getD 0 0 = 112 ∧ 0 < s.c.L.length
instance (keys : List Int) : Decidable (s.afG keys) := by unfold afG; infer_instance
def abn (keys : List Int) : Int × bF := if s.afG keys then (s.Eu (min (s.c.pt + 1) s.c.L.length), s.uF (min (s.c.pt + 1) s.c.L.length)) else (0, s)
def akh (keys : List Int) (n : Int) : Int × bF := if (s.abn keys).1 = 0 then ahy (s.abn keys).2.c.pt n.toNat (s.abn keys).2 else s.abn keys
end bF
section
variable {w0 w : World} {F : HP} {c m e : Nat} {s t : bF} {name : ByteArray} {kv lv : Value} {n p i j q a : Int} {g : Bool} {keys : List Int} {k : Nat}
end
end Go.Proofs.YtpdeedplgmbopaaGreatDoor
end
