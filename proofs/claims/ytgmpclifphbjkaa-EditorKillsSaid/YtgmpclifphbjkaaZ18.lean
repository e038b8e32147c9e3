import Derived.Test.YtgmpclifphbjkaaZ12
/- Texts of mine, joined: Build. -/
section
/- A struct's value, as a list of cells. -/
set_option linter.unusedSimpArgs false
set_option linter.unusedVariables false
namespace Go.Proofs.Ytgmpclifphbjkaa
open Go.RowKit
/-- The cells of a struct, field by field: from field i at o on, what is left of the places, of the zero cells, of the parts. -/
inductive Cells : Nat → Nat → List (Nat × Nat) → List Value → List (Nat × Value) → List Value → Prop
  | nil {i o : Nat} : Cells i o [] [] [] []
  | one {i o : Nat} {pl : List (Nat × Nat)} {z : List Value} {vs : List (Nat × Value)} {cs : List Value} {v zv : Value} (h : v.oneCell' = true) (k : Cells (i + 1) (o + 1) pl z vs cs) : Cells i o ((o, 1) :: pl) (zv :: z) ((i, v) :: vs) (v :: cs)
  | agg {i o m : Nat} {pl : List (Nat × Nat)} {z : List Value} {vs : List (Nat × Value)} {cs us zs : List Value} (hm : us.length = m) (hz : zs.length = m) (k : Cells (i + 1) (o + m) pl z vs cs) : Cells i o ((o, m) :: pl) (zs ++ z) ((i, .agg us.toArray) :: vs) (us ++ cs)
  | zero {i o m : Nat} {pl : List (Nat × Nat)} {z : List Value} {vs : List (Nat × Value)} {cs zs : List Value} (hz : zs.length = m) (k : Cells (i + 1) (o + m) pl z vs cs) : Cells i o ((o, m) :: pl) (zs ++ z) vs (zs ++ cs)
theorem one_cells' {v : Value} (h : v.oneCell' = true) : v.cells = #[v] := by cases v <;> simp_all [Value.cells, Value.oneCell']
theorem fill_step {pl : Array (Nat × Nat)} {i o m : Nat} {v : Value} {vs : List (Nat × Value)} {pre zs us z : List Value} {R : Option (Array Value)} (hp : pl[i]? = some (o, m)) (ho : pre.length = o) (hv : v.cells = us.toArray) (hm : us.length = m) (hz : zs.length = m)
    (h : Instr.fill (fun i => pl[i]?) (pre ++ us ++ z).toArray vs = R) : Instr.fill (fun i => pl[i]?) (pre ++ (zs ++ z)).toArray ((i, v) :: vs) = R := by
  simp only [Instr.fill]
  rw [hp]
  dsimp only
  rw [hv, if_neg (by simp; omega)]
  have hfr := fill_run us o 0 (pre ++ (zs ++ z)).toArray (by simp; omega)
  simp only [Nat.add_zero] at hfr
  rw [← Array.foldl_toList, Array.toList_zipIdx]
  simp only [List.toList_toArray] at hfr ⊢
  rw [show (us.zipIdx.foldl (fun cs (x : Value × Nat) => cs.setIfInBounds (o + x.2) x.1) (pre ++ (zs ++ z)).toArray) = _ from hfr]
  rw [← h]
  congr 2
  subst ho
  rw [List.take_left, ← List.append_assoc pre zs z, show pre.length + us.length = (pre ++ zs).length from by simp; omega, List.drop_left]
theorem fill_cells {i o : Nat} {pl : List (Nat × Nat)} {z cs : List Value} {vs : List (Nat × Value)} (h : Cells i o pl z vs cs) : ∀ {pp : List (Nat × Nat)} {pre : List Value}, pp.length = i → pre.length = o →
    Instr.fill (fun j => (pp ++ pl).toArray[j]?) (pre ++ z).toArray vs = some (pre ++ cs).toArray := by
  induction h with
  | nil => intro pp pre _ _; rfl
  | @one i o pl z vs cs v zv h k ih =>
    intro pp pre h1 h2
    refine fill_step (zs := [zv]) (us := [v]) (o := o) (m := 1) (by simp [← h1]) h2 (one_cells' h) rfl rfl ?_
    have := ih (pp := pp ++ [(o, 1)]) (pre := pre ++ [v]) (by simp; omega) (by simp; omega)
    simpa using this
  | @agg i o m pl z vs cs us zs hm hz k ih =>
    intro pp pre h1 h2
    refine fill_step (zs := zs) (us := us) (o := o) (m := m) (by simp [← h1]) h2 rfl hm hz ?_
    have := ih (pp := pp ++ [(o, m)]) (pre := pre ++ us) (by simp; omega) (by simp; omega)
    simpa using this
  | @zero i o m pl z vs cs zs hz k ih =>
    intro pp pre h1 h2
    have := ih (pp := pp ++ [(o, m)]) (pre := pre ++ zs) (by simp; omega) (by simp; omega)
    simpa using this
section
variable {P : Program} {L : List (Nat × Value)} {w : World} {ty : TypeId}
theorem r_buildL {t : TypeId} {fs : Array Field} {z : Value} {zl : List Value} {pl : List (Nat × Nat)} {ps : List (Nat × Operand)} {vs : List (Nat × Value)} {cs : List Value} (cells : List Value) (ht : P.underlying t = some (.struct fs)) (hz : ∀ w, (zeroValue t).run P w = .ok z w) (hzl : z.cells = zl.toArray)
    (hpl : ∀ w, (fs.mapM fun f => do pure (f.offset, ← sizeOf f.type) : Sem (Array (Nat × Nat))).run P w = .ok pl.toArray w) (hp : evp L ps = some vs) (hC : Cells 0 0 pl zl vs cs) (hcs : cs = cells) : Val P L (.build t ps.toArray) ty w (.agg cells.toArray) w := by
  subst hcs
  exact r_build cs.toArray ht hz hpl hp (by rw [hzl]; exact fill_cells hC (pp := []) (pre := []) rfl rfl)
end
end Go.Proofs.Ytgmpclifphbjkaa
end
