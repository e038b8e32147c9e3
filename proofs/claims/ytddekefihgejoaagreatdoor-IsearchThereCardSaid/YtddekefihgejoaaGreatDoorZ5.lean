import Derived.Test.YtddekefihgejoaaGreatDoorZ2
import Derived.Test.YtddekefihgejoaaGreatDoorZ3
import Derived.Test.YtddekefihgejoaaGreatDoorZ4
import Derived.Test.YtddekefihgejoaaGreatDoorProg
set_option linter.unusedSimpArgs false
set_option linter.unusedVariables false
/- Texts of mine, joined, their names in short: ELaidU Five IsM IsThM Equal Slices Buf. -/
section
set_option maxRecDepth 100000
namespace Go.Proofs.YtddekefihgejoaaGreatDoor
open Go.ChangeShapes Go.WideShapes Go.ChangeAt Go.RowKit
theorem Vm : Tryz.prog.globalNamed "unicode/utf8.first" = some 0 := by kernel_rfl
theorem Zj : Tryz.prog.globalNamed "unicode/utf8.acceptRanges" = some 1 := by kernel_rfl
theorem Vo : (Tryz.prog.globals[0]?).map (·.type) = some 245 := by kernel_rfl
theorem Zk : (Tryz.prog.globals[1]?).map (·.type) = some 248 := by kernel_rfl
def Fe : List (Int × Int) := [(128, 191), (160, 191), (128, 159), (144, 191), (128, 143), (0, 0), (0, 0), (0, 0), (0, 0), (0, 0), (0, 0), (0, 0), (0, 0), (0, 0), (0, 0), (0, 0)]
def MF (x : Int × Int) : DataW Unit := .agg [.lit (.int .u8 x.1), .lit (.int .u8 x.2)]
def pz (T : List (Int × Int)) : List Value := T.flatMap fun x => [.int .u8 x.1, .int .u8 x.2]
theorem Fg (T : List (Int × Int)) (k : Nat) (h : k < T.length) : (pz T).getD (k * 2) undef = .int .u8 (T.getD k (0, 0)).1 ∧ (pz T).getD (k * 2 + 1) undef = .int .u8 (T.getD k (0, 0)).2 := by
  induction T generalizing k with
  | nil => simp at h
  | cons x r ih =>
    cases k with
    | zero => exact ⟨rfl, rfl⟩
    | succ k =>
      have := ih k (by simpa using h)
      rw [show (k + 1) * 2 = k * 2 + 2 from by omega, show k * 2 + 2 + 1 = (k * 2 + 1) + 2 from by omega]
      simpa [pz, List.getD_eq_getElem?_getD] using this
theorem II (T : List (Int × Int)) : (pz T).length = T.length * 2 := by
  induction T with
  | nil => rfl
  | cons x r ih => simp only [pz, List.flatMap_cons, List.length_append] at *; simp [ih]; omega
section
variable {enc : TypeId × Value → Unit} {w : World} {base : Nat} {spare : Nat → Bool} {held : Bool} {fuel : Nat} {ps : List MemPlace}
theorem Tq {cs : List Value} {x : Int × Int} (h : DataW.trod enc Tryz.prog w base spare held fuel 247 cs = some (MF x, ps)) : cs = [.int .u8 x.1, .int .u8 x.2] := by
  obtain ⟨xs, n, -, hx, hl, hl2, hf⟩ := DataW.trod_struct Tryz.underlying247 h
  rw [show Tryz.prog.cellsOf 247 = 2 from by kernel_rfl] at hl
  simp only [Prod.mk.injEq, MF, DataW.agg.injEq] at hx
  match xs, hl2, hx, cs, hl with
  | [y0, y1], _, hx, [c0, c1], _ =>
    have h0 : DataW.trod enc Tryz.prog w base spare held n 5 (([c0, c1].drop 0).take (Tryz.prog.cellsOf 5)) = some y0 := hf 0 _ rfl
    have h1 : DataW.trod enc Tryz.prog w base spare held n 5 (([c0, c1].drop 1).take (Tryz.prog.cellsOf 5)) = some y1 := hf 1 _ rfl
    simp only [List.map_cons, List.map_nil, List.cons.injEq] at hx
    obtain ⟨n0, e0, d0, -⟩ := DataW.trod_int Tryz.underlying5 h0
    obtain ⟨n1, e1, d1, -⟩ := DataW.trod_int Tryz.underlying5 h1
    rw [show Tryz.prog.cellsOf 5 = 1 from by kernel_rfl] at e0 e1
    simp at e0 e1
    rw [d0, d1] at hx
    simp at hx
    subst e0; subst e1
    rw [hx.1.1, hx.1.2]
theorem Tt {t n : Nat} {cs : List Value} {T : List (Int × Int)} (ht : Tryz.prog.underlying t = some (.array n 247)) (hc : Tryz.prog.cellsOf t = n * 2) (h : DataW.trod enc Tryz.prog w base spare held fuel t cs = some (.agg (T.map MF), ps)) : cs = pz T := by
  obtain ⟨xs, m, -, hx, hl, hl2, hel⟩ := DataW.trod_array ht h
  simp only [Prod.mk.injEq, DataW.agg.injEq] at hx
  rw [hc] at hl
  have hTn : T.length = n := by have := congrArg List.length hx.1; simpa [hl2] using this
  have hv := II T
  apply List.ext_getElem?
  intro j
  by_cases hj : j < n * 2
  · have hk : j / 2 < n := by omega
    have h1 := hel (j / 2) hk
    rw [show Tryz.prog.cellsOf 247 = 2 from by kernel_rfl, List.getElem?_eq_getElem (by omega)] at h1
    have h2 : xs[j / 2].1 = MF (T.getD (j / 2) (0, 0)) := by
      have := congrArg (fun l => l[j / 2]?) hx.1
      simp [List.getElem?_eq_getElem (show j / 2 < T.length by omega), List.getElem?_eq_getElem (show j / 2 < xs.length by omega)] at this
      rw [List.getD_eq_getElem?_getD, List.getElem?_eq_getElem (show j / 2 < T.length by omega), Option.getD_some, this]
    have h3 := Tq (x := T.getD (j / 2) (0, 0)) (ps := xs[j / 2].2) (by rw [h1, ← h2])
    obtain ⟨e0, e1⟩ := Fg T (j / 2) (by omega)
    have hq : (pz T)[j]? = some ((pz T).getD j undef) := by rw [List.getD_eq_getElem?_getD, List.getElem?_eq_getElem (by omega)]; rfl
    rw [hq]
    rcases (show j = j / 2 * 2 ∨ j = j / 2 * 2 + 1 by omega) with hj2 | hj2
    · have := congrArg (fun l => l[0]?) h3
      simp [List.getElem?_drop] at this
      rw [show j / 2 * 2 = j from by omega] at this e0
      rw [this, e0]; simp [List.getD_eq_getElem?_getD]
    · have := congrArg (fun l => l[1]?) h3
      simp [List.getElem?_take, List.getElem?_drop] at this
      rw [show j / 2 * 2 + 1 = j from by omega] at this e1
      rw [this, e1]; simp [List.getD_eq_getElem?_getD]
  · rw [List.getElem?_eq_none (by omega), List.getElem?_eq_none (by omega)]
theorem PV {t n : Nat} {cs : List Value} {Z : List Nat} (ht : Tryz.prog.underlying t = some (.array n 5)) (h : DataW.trod enc Tryz.prog w base spare held fuel t cs = some (.agg (Z.map fun (q : Nat) => .lit (.int .u8 q)), ps)) {r : Nat} (hr : r < n) : cs[r]? = some (.int .u8 (Z.getD r 0 : Nat)) := by
  obtain ⟨xs, m, _, ex, _, hl, hel⟩ := DataW.trod_array ht h
  have c5 : Tryz.prog.cellsOf 5 = 1 := by kernel_rfl
  have hE := hel r hr
  rw [c5, Nat.mul_one, List.getElem?_eq_getElem (by omega)] at hE
  obtain ⟨z, e1, e2, _⟩ := DataW.trod_int Tryz.underlying5 hE
  have e3 : (xs.map (·.1)) = Z.map fun (q : Nat) => .lit (.int .u8 q) := (DataW.agg.inj (Prod.mk.inj ex).1).symm
  have hzl : Z.length = n := by have := congrArg List.length e3; simpa [hl] using this.symm
  have e4 : (xs.map (·.1))[r]? = (Z.map fun (q : Nat) => (DataW.lit (.int .u8 q) : DataW Unit))[r]? := by rw [e3]
  rw [List.getElem?_map, List.getElem?_map, List.getElem?_eq_getElem (by omega : r < xs.length), List.getElem?_eq_getElem (by omega : r < Z.length), e2] at e4
  have hz : z = (Z.getD r 0 : Nat) := by
    simp only [Option.map_some, Option.some.injEq, DataW.lit.injEq, Lit.int.injEq, true_and] at e4
    rw [e4, List.getD_eq_getElem?_getD, List.getElem?_eq_getElem (by omega : r < Z.length)]; rfl
  have : cs[r]? = some (.int .u8 z) := by
    have h0 : ((cs.drop r).take 1)[0]? = some (.int .u8 z) := by rw [e1]; rfl
    simpa using h0
  rw [this, hz]
end
theorem IJ {W : World} (h : laidMetH Tryz.prog Dn W) : rZ W := by
  rw [MakeChecks.laidMetH_plain _ _ _ (by kernel_rfl)] at h
  obtain ⟨ps, ⟨g3, t3, cs3, f3, p3, q3, hg3, ht3, hv3, hd3, ⟨g2, t2, cs2, f2, p2, q2, hg2, ht2, hv2, hd2, _, _⟩, _⟩, _, _⟩ := h
  obtain rfl := Option.some.inj (Vm.symm.trans hg2)
  obtain rfl := Option.some.inj (Zj.symm.trans hg3)
  obtain rfl := Option.some.inj (Vo.symm.trans ht2)
  obtain rfl := Option.some.inj (Zk.symm.trans ht3)
  have e3 := Tt (T := Fe) Tryz.underlying248 (by kernel_rfl) hd3
  refine ⟨fun x hx => ?_, fun i hi => ?_⟩
  · rw [World.var?_cell hg2 hv2 x, ← Array.getElem?_toList, PV (Z := Go.Pinned.utf8FirstZ) Tryz.underlying245 hd2 hx]; rfl
  · have hp := Fg Fe i (by simp [Fe]; omega)
    have ha : Fe.getD i (0, 0) = NY.getD i (0, 0) := by
      match i, hi with
      | 0, _ => rfl
      | 1, _ => rfl
      | 2, _ => rfl
      | 3, _ => rfl
      | 4, _ => rfl
    rw [ha] at hp
    have hl := II Fe
    have hl2 : Fe.length = 16 := rfl
    constructor
    · rw [World.var?_cell hg3 hv3 _, ← Array.getElem?_toList, e3, ← hp.1, List.getD_eq_getElem?_getD, List.getElem?_eq_getElem (by omega)]; rfl
    · rw [World.var?_cell hg3 hv3 _, ← Array.getElem?_toList, e3, ← hp.2, List.getD_eq_getElem?_getD, List.getElem?_eq_getElem (by omega)]; rfl
end Go.Proofs.YtddekefihgejoaaGreatDoor
end
section
namespace Go.Proofs.YtddekefihgejoaaGreatDoor
open Go.ChangeShapes Go.WideShapes Go.ChangeAt Go.RowKit
theorem vX.five {H : Type} {B : Nat} {enc : TypeId × Value → H} {P : Program} {W : World} {args : Array Value} {t1 t2 t3 t4 t5 : TypeId} (h : vX B enc P W [t1, t2, t3, t4, t5] args.toList) : ∃ v1 v2 v3 v4 v5, args = #[v1, v2, v3, v4, v5] ∧ ((∃ base, Value.okWide P W .any base t1 v1) ∧ yS B enc P W t1 v1.cells.toList) ∧ ((∃ base, Value.okWide P W .any base t2 v2) ∧ yS B enc P W t2 v2.cells.toList) ∧ ((∃ base, Value.okWide P W .any base t3 v3) ∧ yS B enc P W t3 v3.cells.toList) ∧ ((∃ base, Value.okWide P W .any base t4 v4) ∧ yS B enc P W t4 v4.cells.toList) ∧ ((∃ base, Value.okWide P W .any base t5 v5) ∧ yS B enc P W t5 v5.cells.toList) := by
  obtain ⟨v1, w1, e, h1, i1, r1⟩ := h.cons; obtain ⟨v2, w2, rfl, h2, i2, r2⟩ := r1.cons; obtain ⟨v3, w3, rfl, h3, i3, r3⟩ := r2.cons; obtain ⟨v4, w4, rfl, h4, i4, r4⟩ := r3.cons; obtain ⟨v5, w5, rfl, h5, i5, r5⟩ := r4.cons; obtain rfl := r5.nil'
  exact ⟨v1, v2, v3, v4, v5, by cases args; simp_all, ⟨h1, i1⟩, ⟨h2, i2⟩, ⟨h3, i3⟩, ⟨h4, i4⟩, ⟨h5, i5⟩⟩
theorem PW {α : Type _} {l : List α} (h : l.length = 5) : ∃ a b c d e, l = [a, b, c, d, e] := by match l, h with | [a, b, c, d, e], _ => exact ⟨a, b, c, d, e, rfl⟩
end Go.Proofs.YtddekefihgejoaaGreatDoor
end
section
namespace Go.Proofs.YtddekefihgejoaaGreatDoor
open Go.RowKit
def wu (l p : List Int) (i : Nat) : Bool := decide (i + p.length ≤ l.length ∧ (l.drop i).take p.length = p)
def kQ (l p : List Int) : Nat → Int
  | 0 => -1
  | n + 1 => if wu l p n then n else kQ l p n
def jB (l p : List Int) : Nat → Nat → Int
  | 0, _ => -1
  | n + 1, i => if wu l p i then i else jB l p n (i + 1)
def lJ (l p : List Int) : Int := (l.length : Int) - p.length
def jF (l p : List Int) (from_ : Int) (back : Bool) : Int :=
  if back then kQ l p ((min from_ (lJ l p)) + 1).toNat else jB l p (lJ l p - max from_ 0 + 1).toNat (max from_ 0).toNat
def gY (ls : List (List Int)) (place at_ : Int) (p : List Int) (back : Bool) (i : Nat) : Int :=
  jF (ls.getD i []) p (if (i : Int) = place then at_ else if back then ((ls.getD i []).length : Int) else 0) back
def ou (ls : List (List Int)) (place at_ : Int) (p : List Int) : Nat → Int × Int × Bool
  | 0 => (0, 0, false)
  | n + 1 => if 0 ≤ gY ls place at_ p true n then (n, gY ls place at_ p true n, true) else ou ls place at_ p n
def findF (ls : List (List Int)) (place at_ : Int) (p : List Int) : Nat → Nat → Int × Int × Bool
  | 0, _ => (0, 0, false)
  | n + 1, i => if 0 ≤ gY ls place at_ p false i then (i, gY ls place at_ p false i, true) else findF ls place at_ p n (i + 1)
def fH (ls : List (List Int)) (place at_ : Int) (p : List Int) (back : Bool) : Int × Int × Bool :=
  if place < 0 ∨ (ls.length : Int) ≤ place ∨ p.length = 0 then (0, 0, false) else if back then ou ls place at_ p (place + 1).toNat else findF ls place at_ p ((ls.length : Int) - place).toNat place.toNat
theorem vk {l p : List Int} {i : Nat} : wu l p i = true ↔ i + p.length ≤ l.length ∧ (l.drop i).take p.length = p := by unfold wu; simp
theorem KD {l p : List Int} {i : Int} (h : 0 ≤ i) (ha : wu l p i.toNat = true) : kQ l p (i + 1).toNat = i := by
  obtain ⟨n, rfl⟩ := Int.eq_ofNat_of_zero_le h
  rw [show ((n : Int) + 1).toNat = n + 1 from by omega]
  rw [Int.toNat_natCast] at ha
  unfold kQ; rw [if_pos ha]
theorem N9 {l p : List Int} {i : Int} (h : 0 ≤ i) (ha : ¬ wu l p i.toNat = true) : kQ l p (i + 1).toNat = kQ l p (i - 1 + 1).toNat := by
  obtain ⟨n, rfl⟩ := Int.eq_ofNat_of_zero_le h
  rw [show ((n : Int) + 1).toNat = n + 1 from by omega, show ((n : Int) - 1 + 1).toNat = n from by omega]
  rw [Int.toNat_natCast] at ha
  rw [kQ, if_neg ha]
theorem KE {l p : List Int} {i : Int} (h : ¬ 0 ≤ i) : kQ l p (i + 1).toNat = -1 := by rw [show (i + 1).toNat = 0 from by omega]; rfl
theorem IK {l p : List Int} {i m : Int} (h : 0 ≤ i) (hm : i ≤ m) (ha : wu l p i.toNat = true) : jB l p (m - i + 1).toNat i.toNat = i := by
  obtain ⟨n, hn⟩ : ∃ n, (m - i + 1).toNat = n + 1 := ⟨(m - i).toNat, by omega⟩
  rw [hn, jB, if_pos ha]; omega
theorem KF {l p : List Int} {i m : Int} (h : 0 ≤ i) (hm : i ≤ m) (ha : ¬ wu l p i.toNat = true) : jB l p (m - i + 1).toNat i.toNat = jB l p (m - (i + 1) + 1).toNat (i + 1).toNat := by
  rw [show (m - i + 1).toNat = (m - (i + 1) + 1).toNat + 1 from by omega, jB, if_neg ha, show (i + 1).toNat = i.toNat + 1 from by omega]
theorem IL {l p : List Int} {i m : Int} (h : ¬ i ≤ m) : jB l p (m - i + 1).toNat i.toNat = -1 := by rw [show (m - i + 1).toNat = 0 from by omega]; rfl
theorem AZ (l p : List Int) : ∀ n, (kQ l p n = -1 ∧ ∀ i, i < n → ¬ wu l p i = true) ∨ ∃ i, kQ l p n = (i : Nat) ∧ i < n ∧ wu l p i = true ∧ ∀ j, i < j → j < n → ¬ wu l p j = true
  | 0 => .inl ⟨rfl, fun i h => absurd h (by omega)⟩
  | n + 1 => by
    by_cases h : wu l p n = true
    · exact .inr ⟨n, by rw [kQ, if_pos h], by omega, h, fun j h1 h2 => absurd h2 (by omega)⟩
    · have e : kQ l p (n + 1) = kQ l p n := by rw [kQ, if_neg h]
      rw [e]
      rcases AZ l p n with ⟨h1, h2⟩ | ⟨i, h1, h2, h3, h4⟩
      · exact .inl ⟨h1, fun i hi => (show i < n ∨ i = n from by omega).elim (h2 i) (fun c => c ▸ h)⟩
      · exact .inr ⟨i, h1, by omega, h3, fun j h5 h6 => (show j < n ∨ j = n from by omega).elim (h4 j h5) (fun c => c ▸ h)⟩
theorem yY (l p : List Int) : ∀ n i, (jB l p n i = -1 ∧ ∀ j, i ≤ j → j < i + n → ¬ wu l p j = true) ∨ ∃ k, jB l p n i = (k : Nat) ∧ i ≤ k ∧ k < i + n ∧ wu l p k = true ∧ ∀ j, i ≤ j → j < k → ¬ wu l p j = true
  | 0, i => .inl ⟨rfl, fun j h1 h2 => absurd h2 (by omega)⟩
  | n + 1, i => by
    by_cases h : wu l p i = true
    · exact .inr ⟨i, by rw [jB, if_pos h], by omega, by omega, h, fun j h1 h2 => absurd h2 (by omega)⟩
    · have e : jB l p (n + 1) i = jB l p n (i + 1) := by rw [jB, if_neg h]
      rw [e]
      rcases yY l p n (i + 1) with ⟨h1, h2⟩ | ⟨k, h1, h2, h3, h4, h5⟩
      · exact .inl ⟨h1, fun j h3 h4 => (show i + 1 ≤ j ∨ j = i from by omega).elim (fun c => h2 j c (by omega)) (fun c => c ▸ h)⟩
      · exact .inr ⟨k, h1, by omega, by omega, h4, fun j h6 h7 => (show i + 1 ≤ j ∨ j = i from by omega).elim (fun c => h5 j c h7) (fun c => c ▸ h)⟩
theorem vw (l p : List Int) (f : Int) : (jF l p f true = -1 ∧ ∀ i : Nat, (i : Int) ≤ f → ¬ wu l p i = true) ∨ ∃ i : Nat, jF l p f true = i ∧ (i : Int) ≤ f ∧ wu l p i = true ∧ ∀ j : Nat, i < j → (j : Int) ≤ f → ¬ wu l p j = true := by
  have hm : ∀ i : Nat, wu l p i = true → (i : Int) ≤ lJ l p := fun i h => by have := (vk.1 h).1; unfold lJ; omega
  have e : jF l p f true = kQ l p ((min f (lJ l p)) + 1).toNat := by unfold jF; rw [if_pos rfl]
  rw [e]
  rcases AZ l p ((min f (lJ l p)) + 1).toNat with ⟨h1, h2⟩ | ⟨i, h1, h2, h3, h4⟩
  · exact .inl ⟨h1, fun i hi ha => h2 i (by have := hm i ha; omega) ha⟩
  · exact .inr ⟨i, h1, by omega, h3, fun j h5 h6 ha => h4 j h5 (by have := hm j ha; omega) ha⟩
theorem tq (l p : List Int) (f : Int) : (jF l p f false = -1 ∧ ∀ i : Nat, f ≤ (i : Int) → ¬ wu l p i = true) ∨ ∃ i : Nat, jF l p f false = i ∧ f ≤ (i : Int) ∧ wu l p i = true ∧ ∀ j : Nat, f ≤ (j : Int) → j < i → ¬ wu l p j = true := by
  have hm : ∀ i : Nat, wu l p i = true → (i : Int) ≤ lJ l p := fun i h => by have := (vk.1 h).1; unfold lJ; omega
  have e : jF l p f false = jB l p (lJ l p - max f 0 + 1).toNat (max f 0).toNat := by unfold jF; rw [if_neg (by decide)]
  rw [e]
  rcases yY l p (lJ l p - max f 0 + 1).toNat (max f 0).toNat with ⟨h1, h2⟩ | ⟨k, h1, h2, h3, h4, h5⟩
  · exact .inl ⟨h1, fun i hi ha => h2 i (by omega) (by have := hm i ha; omega) ha⟩
  · exact .inr ⟨k, h1, by omega, h4, fun j h6 h7 ha => h5 j (by omega) h7 ha⟩
def findAt (ls : List (List Int)) (place at_ : Int) (p : List Int) (back : Bool) (i : Int) : Int × Int × Bool :=
  if back then ou ls place at_ p (i + 1).toNat else findF ls place at_ p ((ls.length : Int) - i).toNat i.toNat
theorem KG {ls : List (List Int)} {place at_ i : Int} {p : List Int} {back : Bool} (h0 : 0 ≤ i) (h1 : i < ls.length) (h : 0 ≤ gY ls place at_ p back i.toNat) : findAt ls place at_ p back i = (i, gY ls place at_ p back i.toNat, true) := by
  obtain ⟨n, rfl⟩ := Int.eq_ofNat_of_zero_le h0
  rw [Int.toNat_natCast] at *
  cases back with
  | true => unfold findAt; rw [if_pos rfl, show ((n : Int) + 1).toNat = n + 1 from by omega, ou, if_pos h]
  | false => unfold findAt; rw [if_neg (by decide), Int.toNat_natCast, show ((ls.length : Int) - (n : Int)).toNat = ((ls.length : Int) - (n : Int)).toNat - 1 + 1 from by omega, findF, if_pos h]
theorem uq {ls : List (List Int)} {place at_ i : Int} {p : List Int} {back : Bool} (h0 : 0 ≤ i) (h1 : i < ls.length) (h : ¬ 0 ≤ gY ls place at_ p back i.toNat) : findAt ls place at_ p back i = findAt ls place at_ p back (i + if back then -1 else 1) := by
  obtain ⟨n, rfl⟩ := Int.eq_ofNat_of_zero_le h0
  rw [Int.toNat_natCast] at *
  cases back with
  | true => unfold findAt; rw [if_pos rfl, if_pos rfl, if_pos rfl, show ((n : Int) + 1).toNat = n + 1 from by omega, ou, if_neg h, show ((n : Int) + -1 + 1).toNat = n from by omega]
  | false =>
    unfold findAt
    rw [if_neg (by decide), if_neg (by decide), if_neg (by decide), Int.toNat_natCast, show ((ls.length : Int) - (n : Int)).toNat = ((ls.length : Int) - ((n : Int) + 1)).toNat + 1 from by omega, findF, if_neg h, show ((n : Int) + 1).toNat = n + 1 from by omega]
theorem Dv {ls : List (List Int)} {place at_ i : Int} {p : List Int} {back : Bool} (h : ¬ (0 ≤ i ∧ i < ls.length)) (h1 : back = true → i < ls.length) (h2 : ¬ back = true → 0 ≤ i) : findAt ls place at_ p back i = (0, 0, false) := by
  cases back with
  | true => have := h1 rfl; unfold findAt; rw [if_pos rfl, show (i + 1).toNat = 0 from by omega]; rfl
  | false => have := h2 (by decide); unfold findAt; rw [if_neg (by decide), show ((ls.length : Int) - i).toNat = 0 from by omega]; rfl
theorem wH {ls : List (List Int)} {place at_ : Int} {p : List Int} {i : Nat} {back : Bool} (hb : back = true) (h : (i : Int) = place) (ha : at_ < 0) : ¬ 0 ≤ gY ls place at_ p back i := by
  subst hb
  unfold gY; rw [if_pos h]
  rcases vw (ls.getD i []) p at_ with ⟨h1, _⟩ | ⟨k, h1, h2, _⟩
  · rw [h1]; omega
  · omega
theorem wI {ls : List (List Int)} {place at_ : Int} {p : List Int} {i : Nat} {back : Bool} (hb : back = false) (h : (i : Int) = place) (ha : ((ls.getD i []).length : Int) < at_) : ¬ 0 ≤ gY ls place at_ p back i := by
  subst hb
  unfold gY; rw [if_pos h]
  rcases tq (ls.getD i []) p at_ with ⟨h1, _⟩ | ⟨k, h1, h2, h3, _⟩
  · rw [h1]; omega
  · have := (vk.1 h3).1; omega
end Go.Proofs.YtddekefihgejoaaGreatDoor
end
section
namespace Go.Proofs.YtddekefihgejoaaGreatDoor
open Go.RowKit
def MG (back : Bool) (n m place at_ : Int) (found : Bool) (i k : Int) : Bool := back && (decide (n < place) || (decide (n = place) && decide (m ≤ at_))) && (!found || (decide (i < n) || (decide (n = i) && decide (k < m))))
def MH (back : Bool) (n m place at_ : Int) (found : Bool) (i k : Int) : Bool := !back && (decide (place < n) || (decide (n = place) && decide (at_ ≤ m))) && (!found || (decide (n < i) || (decide (n = i) && decide (m < k))))
def xP (l : List Int) (at_ : Int) (p : List Int) : Bool := decide (0 ≤ at_) && wu l p at_.toNat
section
variable {ls : List (List Int)} {place at_ : Int} {p : List Int}
theorem yj : ∀ n, ((ou ls place at_ p n).2.2 = false ∧ ∀ i, i < n → ¬ 0 ≤ gY ls place at_ p true i) ∨ ∃ i, i < n ∧ ou ls place at_ p n = (((i : Nat) : Int), gY ls place at_ p true i, true) ∧ 0 ≤ gY ls place at_ p true i ∧ ∀ j, i < j → j < n → ¬ 0 ≤ gY ls place at_ p true j
  | 0 => .inl ⟨rfl, fun i h => absurd h (by omega)⟩
  | n + 1 => by
    by_cases h : 0 ≤ gY ls place at_ p true n
    · exact .inr ⟨n, by omega, by rw [ou, if_pos h], h, fun j h1 h2 => absurd h2 (by omega)⟩
    · have e : ou ls place at_ p (n + 1) = ou ls place at_ p n := by rw [ou, if_neg h]
      rw [e]
      rcases yj n with ⟨h1, h2⟩ | ⟨i, h1, h2, h3, h4⟩
      · exact .inl ⟨h1, fun i hi => (show i < n ∨ i = n from by omega).elim (h2 i) (fun c => c ▸ h)⟩
      · exact .inr ⟨i, by omega, h2, h3, fun j h5 h6 => (show j < n ∨ j = n from by omega).elim (h4 j h5) (fun c => c ▸ h)⟩
theorem yt : ∀ n i, ((findF ls place at_ p n i).2.2 = false ∧ ∀ j, i ≤ j → j < i + n → ¬ 0 ≤ gY ls place at_ p false j) ∨ ∃ k, i ≤ k ∧ k < i + n ∧ findF ls place at_ p n i = (((k : Nat) : Int), gY ls place at_ p false k, true) ∧ 0 ≤ gY ls place at_ p false k ∧ ∀ j, i ≤ j → j < k → ¬ 0 ≤ gY ls place at_ p false j
  | 0, i => .inl ⟨rfl, fun j h1 h2 => absurd h2 (by omega)⟩
  | n + 1, i => by
    by_cases h : 0 ≤ gY ls place at_ p false i
    · exact .inr ⟨i, by omega, by omega, by rw [findF, if_pos h], h, fun j h1 h2 => absurd h2 (by omega)⟩
    · have e : findF ls place at_ p (n + 1) i = findF ls place at_ p n (i + 1) := by rw [findF, if_neg h]
      rw [e]
      rcases yt n (i + 1) with ⟨h1, h2⟩ | ⟨k, h1, h2, h3, h4, h5⟩
      · exact .inl ⟨h1, fun j h3 h4 => (show i + 1 ≤ j ∨ j = i from by omega).elim (fun c => h2 j c (by omega)) (fun c => c ▸ h)⟩
      · exact .inr ⟨k, by omega, by omega, h3, h4, fun j h6 h7 => (show i + 1 ≤ j ∨ j = i from by omega).elim (fun c => h5 j c h7) (fun c => c ▸ h)⟩
theorem KH {i : Nat} (h : 0 ≤ gY ls place at_ p true i) : wu (ls.getD i []) p (gY ls place at_ p true i).toNat = true ∧ ((i : Int) = place → gY ls place at_ p true i ≤ at_) := by
  unfold gY at h ⊢
  rcases vw (ls.getD i []) p (if (i : Int) = place then at_ else if true then ((ls.getD i []).length : Int) else 0) with ⟨h1, _⟩ | ⟨k, h1, h2, h3, _⟩
  · rw [h1] at h; omega
  · rw [h1]; exact ⟨h3, fun e => by rw [if_pos e] at h2; exact h2⟩
theorem Fh {i m : Nat} (hm : wu (ls.getD i []) p m = true) (hp : (i : Int) = place → (m : Int) ≤ at_) : 0 ≤ gY ls place at_ p true i ∧ (m : Int) ≤ gY ls place at_ p true i := by
  have hl := (vk.1 hm).1
  unfold gY
  have hf : (m : Int) ≤ (if (i : Int) = place then at_ else if true then ((ls.getD i []).length : Int) else 0) := by
    split
    · rename_i e; exact hp e
    · rw [if_pos rfl]; omega
  rcases vw (ls.getD i []) p (if (i : Int) = place then at_ else if true then ((ls.getD i []).length : Int) else 0) with ⟨h1, h2⟩ | ⟨k, h1, h2, h3, h4⟩
  · exact absurd hm (h2 m hf)
  · rw [h1]
    by_cases c : k < m
    · exact absurd hm (h4 m c hf)
    · exact ⟨by omega, by omega⟩
theorem KI {i : Nat} (h : 0 ≤ gY ls place at_ p false i) : wu (ls.getD i []) p (gY ls place at_ p false i).toNat = true ∧ ((i : Int) = place → at_ ≤ gY ls place at_ p false i) := by
  unfold gY at h ⊢
  rcases tq (ls.getD i []) p (if (i : Int) = place then at_ else if false then ((ls.getD i []).length : Int) else 0) with ⟨h1, _⟩ | ⟨k, h1, h2, h3, _⟩
  · rw [h1] at h; omega
  · rw [h1]; exact ⟨h3, fun e => by rw [if_pos e] at h2; exact h2⟩
theorem Fj {i m : Nat} (hm : wu (ls.getD i []) p m = true) (hp : (i : Int) = place → at_ ≤ (m : Int)) : 0 ≤ gY ls place at_ p false i ∧ gY ls place at_ p false i ≤ (m : Int) := by
  have hl := (vk.1 hm).1
  unfold gY
  have hf : (if (i : Int) = place then at_ else if false then ((ls.getD i []).length : Int) else 0) ≤ (m : Int) := by
    split
    · rename_i e; exact hp e
    · rw [if_neg (by decide)]; omega
  rcases tq (ls.getD i []) p (if (i : Int) = place then at_ else if false then ((ls.getD i []).length : Int) else 0) with ⟨h1, h2⟩ | ⟨k, h1, h2, h3, h4⟩
  · exact absurd hm (h2 m hf)
  · rw [h1]
    by_cases c : m < k
    · exact absurd hm (h4 m hf c)
    · exact ⟨by omega, by omega⟩
theorem rF {back : Bool} (h : place < 0 ∨ (ls.length : Int) ≤ place ∨ p.length = 0) : (fH ls place at_ p back).2.2 = false := by unfold fH; rw [if_pos h]
theorem IQ {back : Bool} (h : (fH ls place at_ p back).2.2 = true) : (0 ≤ (fH ls place at_ p back).1 ∧ (fH ls place at_ p back).1 < ls.length) ∧ xP (ls.getD (fH ls place at_ p back).1.toNat []) (fH ls place at_ p back).2.1 p = true ∧
    (back = true → (fH ls place at_ p back).1 ≤ place ∧ ((fH ls place at_ p back).1 = place → (fH ls place at_ p back).2.1 ≤ at_)) ∧ (back = false → place ≤ (fH ls place at_ p back).1 ∧ ((fH ls place at_ p back).1 = place → at_ ≤ (fH ls place at_ p back).2.1)) := by
  by_cases hb : place < 0 ∨ (ls.length : Int) ≤ place ∨ p.length = 0
  · rw [rF hb] at h; cases h
  · cases back with
    | true =>
      have e : fH ls place at_ p true = ou ls place at_ p (place + 1).toNat := by unfold fH; rw [if_neg hb, if_pos rfl]
      rw [e] at h ⊢
      rcases yj (ls := ls) (place := place) (at_ := at_) (p := p) (place + 1).toNat with ⟨h1, _⟩ | ⟨i, h1, h2, h3, _⟩
      · rw [h1] at h; cases h
      · rw [h2]
        have hy := KH h3
        refine ⟨⟨by show (0 : Int) ≤ (i : Nat); omega, by show ((i : Nat) : Int) < _; omega⟩, by unfold xP; rw [decide_eq_true h3, Bool.true_and]; exact hy.1, fun _ => ⟨by show ((i : Nat) : Int) ≤ place; omega, hy.2⟩, fun c => by cases c⟩
    | false =>
      have e : fH ls place at_ p false = findF ls place at_ p ((ls.length : Int) - place).toNat place.toNat := by unfold fH; rw [if_neg hb, if_neg (by decide)]
      rw [e] at h ⊢
      rcases yt (ls := ls) (place := place) (at_ := at_) (p := p) ((ls.length : Int) - place).toNat place.toNat with ⟨h1, _⟩ | ⟨i, h0, h1, h2, h3, _⟩
      · rw [h1] at h; cases h
      · rw [h2]
        have hy := KI h3
        refine ⟨⟨by show (0 : Int) ≤ (i : Nat); omega, by show ((i : Nat) : Int) < _; omega⟩, by unfold xP; rw [decide_eq_true h3, Bool.true_and]; exact hy.1, fun c => (by cases c), fun _ => ⟨by show place ≤ ((i : Nat) : Int); omega, hy.2⟩⟩
theorem Fp {back : Bool} (h0 : ¬ place < 0) (h1 : ¬ (ls.length : Int) ≤ place) (h2 : ¬ p.length = 0) {n m : Nat} (hn : n < ls.length) (hm : wu (ls.getD n []) p m = true) :
    MG back n m place at_ (fH ls place at_ p back).2.2 (fH ls place at_ p back).1 (fH ls place at_ p back).2.1 = false ∧ MH back n m place at_ (fH ls place at_ p back).2.2 (fH ls place at_ p back).1 (fH ls place at_ p back).2.1 = false := by
  have hb : ¬ (place < 0 ∨ (ls.length : Int) ≤ place ∨ p.length = 0) := by omega
  cases back with
  | true =>
    have e : fH ls place at_ p true = ou ls place at_ p (place + 1).toNat := by unfold fH; rw [if_neg hb, if_pos rfl]
    rw [e]
    refine ⟨?_, by unfold MH; rfl⟩
    unfold MG
    rcases yj (ls := ls) (place := place) (at_ := at_) (p := p) (place + 1).toNat with ⟨g1, g2⟩ | ⟨i, g1, g2, g3, g4⟩
    · rw [g1]
      by_cases c : (n : Int) < place ∨ ((n : Int) = place ∧ (m : Int) ≤ at_)
      · exact absurd (Fh hm (fun e => (c.resolve_left (by omega)).2)).1 (g2 n (by omega))
      · have c1 : ¬ (n : Int) < place := fun h => c (.inl h)
        have c2 : ¬ ((n : Int) = place ∧ (m : Int) ≤ at_) := fun h => c (.inr h)
        simp [c1]; intro h; omega
    · rw [g2]
      by_cases c : (n : Int) < place ∨ ((n : Int) = place ∧ (m : Int) ≤ at_)
      · have hq := Fh (place := place) (at_ := at_) hm (fun e => (c.resolve_left (by omega)).2)
        have c3 : ¬ i < n := fun h => g4 n h (by omega) hq.1
        by_cases c4 : n = i
        · subst c4; simp; intro _; omega
        · rw [show decide ((i : Int) < n) = false from decide_eq_false (by omega), show decide ((n : Int) = (i : Int)) = false from decide_eq_false (by omega)]; simp
      · have c1 : ¬ (n : Int) < place := fun h => c (.inl h)
        have c2 : ¬ ((n : Int) = place ∧ (m : Int) ≤ at_) := fun h => c (.inr h)
        simp [c1]; intro h; omega
  | false =>
    have e : fH ls place at_ p false = findF ls place at_ p ((ls.length : Int) - place).toNat place.toNat := by unfold fH; rw [if_neg hb, if_neg (by decide)]
    rw [e]
    refine ⟨by unfold MG; rfl, ?_⟩
    unfold MH
    rcases yt (ls := ls) (place := place) (at_ := at_) (p := p) ((ls.length : Int) - place).toNat place.toNat with ⟨g1, g2⟩ | ⟨i, g0, g1, g2, g3, g4⟩
    · rw [g1]
      by_cases c : place < (n : Int) ∨ ((n : Int) = place ∧ at_ ≤ (m : Int))
      · exact absurd (Fj hm (fun e => (c.resolve_left (by omega)).2)).1 (g2 n (by omega) (by omega))
      · have c1 : ¬ place < (n : Int) := fun h => c (.inl h)
        have c2 : ¬ ((n : Int) = place ∧ at_ ≤ (m : Int)) := fun h => c (.inr h)
        simp [c1]; intro h; omega
    · rw [g2]
      by_cases c : place < (n : Int) ∨ ((n : Int) = place ∧ at_ ≤ (m : Int))
      · have hq := Fj (place := place) (at_ := at_) hm (fun e => (c.resolve_left (by omega)).2)
        have c3 : ¬ n < i := fun h => g4 n (by omega) h hq.1
        by_cases c4 : n = i
        · subst c4; simp; intro _; omega
        · rw [show decide ((n : Int) < i) = false from decide_eq_false (by omega), show decide ((n : Int) = (i : Int)) = false from decide_eq_false (by omega)]; simp
      · have c1 : ¬ place < (n : Int) := fun h => c (.inl h)
        have c2 : ¬ ((n : Int) = place ∧ at_ ≤ (m : Int)) := fun h => c (.inr h)
        simp [c1]; intro h; omega
end
end Go.Proofs.YtddekefihgejoaaGreatDoor
end
section
namespace Go.Proofs.YtddekefihgejoaaGreatDoor
open Go.RowKit
open _root_.Go.Proofs.Tryz
theorem yZ {l m : List Int} {i : Nat} (h1 : i < l.length) (h2 : i < m.length) (h : l.take i = m.take i) (e : l.getD i 0 = m.getD i 0) : l.take (i + 1) = m.take (i + 1) := by
  rw [List.take_succ_eq_append_getElem h1, List.take_succ_eq_append_getElem h2, h]
  simp [List.getD_eq_getElem?_getD, h1, h2] at e
  rw [e]
theorem zY (w : World) (v1 v2 : Value) (l1 l2 : List Int) (h1 : jc w .i32 v1 l1) (h2 : jc w .i32 v2 l2) :
  gG prog 70 #[v1, v2] w fun v w' => v = .bool (l1 == l2) ∧ o7 w w' := by
 obtain ⟨a1, c1, rfl, hc1, hm1, hr1⟩ := h1.open
 obtain ⟨a2, c2, rfl, hc2, hm2, hr2⟩ := h2.open
 clear h1 h2
 refine iF func70 ntmps70 ?_
 dsimp only [bg, Nat.reduceAdd]
 refine ay (ah (aW rfl (aA (aj (ay (ay (ah (aI rfl (aU (jg underlying23 rfl) (aI rfl (aU (jg underlying23 rfl) (aU (gy rfl rfl) (aA (aj (aP rfl (fun h1 => ?_) (fun h1 => ?_))))))))))))))))
 ·(try simp only [aG] at h1)
  try (exfalso; first | contradiction | omega)
  all_goals
   refine ay (ah (aW rfl (aA (aj (aK (aN (aQ (.inl rfl) results70 rfl ?_)))))))
   exact ⟨by rw [show (l1 == l2) = false from beq_eq_false_iff_ne.2 (by rintro rfl; exact h1 rfl)], o7.refl _⟩
 ·(try simp only [aG] at h1)
  try (exfalso; first | contradiction | omega)
  all_goals
   refine aO (aj (ay (ay (ah (aI rfl (aU (jg underlying23 rfl) (aI rfl (aA (aj (bf ?_))))))))))
   refine eP [(0, _), (1, _), (12, _)] (fun (k : Nat) => [(13, .int .i64 (k : Int))]) (fun (k : Nat) W => k ≤ l1.length ∧ l1.length = l2.length ∧ l1.take k = l2.take k ∧ o7 w W) (fun (k : Nat) => l1.length - k) (0) (Sub.cons rfl (Sub.cons rfl (Sub.cons rfl (Sub.nil _)))) (Sub.cons rfl (Sub.nil _)) ⟨by omega, by omega, by simp, o7.refl _⟩ ?_
   rintro k w1 ⟨hk, hl, ht, hD⟩
   dsimp only [List.cons_append, List.nil_append]
   refine ay (ah (aU (dB rfl rfl) (aA (aj (ay (aP rfl (fun h2 => ?_) (fun h2 => ?_)))))))
   ·(try simp only [aG] at h2)
    try (exfalso; first | contradiction | omega)
    all_goals
     refine aO (aj (ay (bf (ay (ah (aI rfl (aW rfl (aA (aj (ay ?_))))))))))
     obtain ⟨b1, o1, rfl, hq1⟩ := hr1 (by omega)
     obtain ⟨b2, o2, rfl, hq2⟩ := hr2 (by omega)
     have hc1 := hq1 k (by omega)
     have hc2 := hq2 k (by omega)
     refine lI (n := 9) [0, 1, 2, 3, 4, 5, 6, 7, 8] (fun W => W.heap = w1.heap) (by kernel_rfl) (by kernel_rfl) rfl ?_
     have hS0 : (fun W => W.heap = w1.heap) (w1.drew) := rfl
     refine gV 0 rfl hS0 rfl (gV 1 rfl hS0 rfl (iR 2 rfl hS0 (fun _ => bY underlying23 sizeOf21 rfl rfl (by omega)) ?_))
     refine iy 3 rfl hS0 (fun W hW => dZ (bU underlying21 rfl) rfl (by rw [uf (hW.trans hD.heap)]; simpa using hc1)) ?_
     refine gV 4 rfl hS0 rfl (gV 5 rfl hS0 rfl (iR 6 rfl hS0 (fun _ => bY underlying23 sizeOf21 rfl rfl (by omega)) ?_))
     refine iy 7 rfl hS0 (fun W hW => dZ (bU underlying21 rfl) rfl (by rw [uf (hW.trans hD.heap)]; simpa using hc2)) ?_
     refine iR 8 rfl hS0 (fun _ => gy rfl rfl) (nJ (aj (aP rfl (fun h3 => ?_) (fun h3 => ?_))))
     ·(try simp only [aG] at h3)
      try (exfalso; first | contradiction | omega)
      all_goals
       refine ay (ah (aW rfl (aA (aj (aK (aX (aN (aN (aX (aN (aQ (.inl rfl) results70 rfl ?_)))))))))))
       exact ⟨by rw [show (l1 == l2) = false from beq_eq_false_iff_ne.2 (by rintro rfl; exact h3 rfl)], hD.drew⟩
     ·(try simp only [aG] at h3)
      try (exfalso; first | contradiction | omega)
      all_goals
       refine aO (aH (aj (ah (aU (dG rfl rfl (by omega)) (aI rfl (aA ?_))))))
       refine cO (k + 1) ?_ ?_ ?_ ?_
       ·exact (Sub.cons rfl (Sub.nil _))
       ·exact (Sub.cons rfl (Sub.cons rfl (Sub.cons rfl (Sub.nil _))))
       ·(try dsimp only)
        first | done | exact ⟨by omega, by omega, yZ (by omega) (by omega) ht (by simpa using h3), hD.drew⟩
       ·(try dsimp only); omega
   ·(try simp only [aG] at h2)
    try (exfalso; first | contradiction | omega)
    all_goals
     refine dK (aV (aV (bD (aj (ay (ah (aW rfl (aA (aj (aK (aQ (.inl rfl) results70 rfl ?_)))))))))))
     exact ⟨by rw [show (l1 == l2) = true from beq_iff_eq.2 (by rw [List.take_of_length_le (by omega), List.take_of_length_le (by omega)] at ht; exact ht)], hD⟩
end Go.Proofs.YtddekefihgejoaaGreatDoor
end
section
namespace Go.Proofs.YtddekefihgejoaaGreatDoor
open Go.RowKit
open _root_.Go.Proofs.Tryz
theorem y5 : (prog.info? 21).map (fun i => (i.zero, i.size, i.bytes)) = some (some (.int .i32 0), 1, 4) := by kernel_rfl
theorem kW {w0 w : World} {F : HP} {v : Value} {l : List Int} (H : aB w0 w F) (hr : iG w0 F .i32 v l) (hb : l.length * 4 ≤ 140737488355328) :
    gG prog 59 #[v] w fun v' w' => aB w0 w' (iD 21 .i32 v' l • F) := by
  obtain ⟨a, c, rfl, h1, h2, h3⟩ := (hr w H).open
  refine iF func59 ntmps59 ?_
  dsimp only [bg, Nat.reduceAdd]
  refine ay (ah (aW rfl (aA (aj (ay (ay (ah (aI rfl (aU (o9 underlying23 rfl rfl) (aA (aj (aP rfl (fun h1 => ?_) (fun h1 => ?_)))))))))))))
  · (try simp only [aG] at h1)
    try (exfalso; first | contradiction | omega)
    all_goals
      refine ay (ah (aW rfl (aA (aj (aK (aN (aQ (.inl rfl) results59 rfl ?_)))))))
      obtain rfl : a = none := by simpa using h1
      obtain rfl : l = [] := by
        cases l with
        | nil => rfl
        | cons x l => obtain ⟨b, o, e, _⟩ := h3 (by simp); cases e
      exact H.iE none
  · (try simp only [aG] at h1)
    try (exfalso; first | contradiction | omega)
    all_goals
      refine aO (aj (ay (ah (iw (jv (vs := []) H underlying23 sizeOf21 zeroValue21 rfl rfl rfl (by decide) (by simp)) ?_))))
      rintro _ w1 H1
      refine aI rfl (iw (dJ (l := []) H1 (hr.under _ H1) underlying23 y5 rfl rfl (by simp; omega) (by simpa using hb)) ?_)
      rintro _ w2 H2
      refine aW rfl (aA (aj (aK (aQ (.inl rfl) results59 rfl ?_))))
      exact H2
theorem PX {w0 w : World} {F : HP} {n : Int} (H : aB w0 w F) (h0 : 0 ≤ n) (hb : n ≤ 70368744177664) :
  gG prog 120 #[.slice none 0 0, .int .i64 n] w fun v' w' => aB w0 w' (iD 21 .i32 v' [] • F) := by
 refine iF func120 ntmps120 ?_
 dsimp only [bg, Nat.reduceAdd]
 refine ay (ah (aW rfl (aA (aj (ay (ay (ah (aI rfl (aU (dB rfl rfl) (aA (aj (aP rfl (fun h => by exfalso; (try simp only [aG] at h); first | contradiction | omega | (simp at h <;> omega)) (fun h1 => ?_)))))))))))))
 (try simp only [aG] at h1)
 refine aO (aj (ay (ay (ah (aI rfl (aI rfl (aU (Uy underlying23 rfl) (aI rfl (aU (jg underlying23 rfl) (aU (je rfl rfl (by omega)) (aU (je rfl rfl (by omega)) (aW rfl (aA (aj (ay (ah (aI rfl (aU (fB rfl rfl) (aA (aj (aP rfl (fun h2 => ?_) (fun h2 => ?_))))))))))))))))))))))
 ·(try simp only [aG] at h2)
  try (exfalso; first | contradiction | omega)
  all_goals
   refine ah (aI rfl (aI rfl (aU (Uy underlying23 rfl) (aU (oP underlying23 sizeOf21 rfl rfl rfl (by omega)) (aI rfl (iw (Dk H underlying23 underlying3 y5 rfl rfl (by omega) (by omega) (by omega)) ?_))))))
   rintro _ w1 ⟨g, c, cur, rfl, hc1, hc2, hc3, H1⟩
   refine aI rfl (aU (jg underlying23 rfl) (aU (oP underlying23 sizeOf21 rfl rfl rfl (by omega)) (aW rfl (aA (aj (ay (ah (aI rfl (aW rfl (aA (aj (aK (aQ (.inl rfl) results120 rfl ?_)))))))))))))
   exact H1.sZ (o := 0) (by simp) (E5 1 0 g 0 _ c) (by simp) hc2 (by simpa using hc3) (by simp)
 ·(try simp only [aG] at h2)
  try (exfalso; first | contradiction | omega)
  all_goals
   refine aO (aj (ay (ah (aI rfl (aW rfl (aA (aj (aK (aQ (.inl rfl) results120 rfl ?_)))))))))
   exact H.iE none
theorem Dw {w0 w : World} {F : HP} {v : Value} {vs : List Value} {ls : List (List Int)} (H : aB w0 w F) (hv : EL w0 F 1 v ls.length vs) (hls : ∀ k, k < ls.length → iG w0 F .i32 (vs.getD k undef) (ls.getD k [])) (hb : ls.flatten.length * 4 ≤ 140737488355328) :
  gG prog 62 #[v] w fun v' w' => aB w0 w' (iD 21 .i32 v' ls.flatten • F) := by
 obtain ⟨_, a, c, rfl, hc1, hc2, _⟩ := hv w H
 refine iF func62 ntmps62 ?_
 dsimp only [bg, Nat.reduceAdd]
 refine ay (ah (aW rfl (aA (aj (ay (ah (aW rfl (aA (aj (ay (ay (ah (aI rfl (aU (jg underlying22 rfl) (aI rfl (aA (aj (bf ?_))))))))))))))))))
 refine eP [(0, _), (9, _), (10, _)] (fun (k : Nat) => [(3, .int .i64 ((ls.take k).flatten.length : Int)), (11, .int .i64 (k : Int))]) (fun (k : Nat) W => k ≤ ls.length ∧ aB w0 W F) (fun (k : Nat) => ls.length - k) (0) (Sub.cons rfl (Sub.cons rfl (Sub.cons rfl (Sub.nil _)))) (Sub.dQ rfl (by simp) (Sub.dQ rfl (rfl) (Sub.nil _))) ⟨by omega, H⟩ ?_
 rintro k w1 ⟨hk, HL⟩
 dsimp only [List.cons_append, List.nil_append]
 refine ay (ah (aU (dB rfl rfl) (aA (aj (ay (aP rfl (fun h1 => ?_) (fun h1 => ?_)))))))
 ·(try simp only [aG] at h1)
  try (exfalso; first | contradiction | omega)
  all_goals
   refine aO (aj (ay (bf (ay ?_))))
   have hk1 : k < ls.length := by omega
   obtain ⟨b, o, rfl, hc⟩ := hv.cell HL (j := k) (by omega)
   obtain ⟨ak, ck, ek, hk2, hk3, _⟩ := (hls k hk1 _ HL).open
   rw [ek] at hc
   have hfl := Gg ls (k + 1)
   rw [wW ls hk1, List.length_append] at hfl
   refine ah (aU (bY underlying22 sizeOf23 rfl rfl (by omega)) ?_)
   refine aU (dZ (bU underlying23 rfl) rfl (by rw [show ((k : Int).toNat * 1) = k from by omega]; exact hc)) ?_
   refine aW rfl (aA (aj (ay (ah (aI rfl (aI rfl (aU (jg underlying23 rfl) (aU (dG rfl rfl (by omega)) (aW rfl (aA (aj (ay (ah (aI rfl (aU (dB rfl rfl) (aA (aj (aP rfl (fun h => by exfalso; (try simp only [aG] at h); first | contradiction | omega | (simp at h <;> omega)) (fun h2 => ?_)))))))))))))))))))
   (try simp only [aG] at h2)
   refine aO (aH (aj (ah (aU (dG rfl rfl (by omega)) (aI rfl (aA ?_))))))
   refine cO (k + 1) ?_ ?_ ?_ ?_
   ·exact (Sub.dQ rfl (by rw [wW ls hk1, List.length_append, Int.natCast_add]) (Sub.cons rfl (Sub.nil _)))
   ·exact (Sub.cons rfl (Sub.cons rfl (Sub.cons rfl (Sub.nil _))))
   ·(try dsimp only)
    first | done | exact ⟨by omega, HL⟩
   ·(try dsimp only); omega
 ·(try simp only [aG] at h1)
  try (exfalso; first | contradiction | omega)
  all_goals
   refine dK (aV (aV (bD (aj (ay (ah (aI rfl (dH rfl func120 (PX HL (by omega) (by have := Gg ls k; omega)) ?_))))))))
   rintro vg w2 H2
   refine aW rfl (aA (aj (ay (ay (ah (aI rfl (aU (jg underlying22 rfl) (aI rfl (aA (aj (bf ?_)))))))))))
   refine eP [(25, _), (26, _)] (fun (⟨k, u⟩ : Nat × Value) => [(6, u), (27, .int .i64 (k : Int))]) (fun (⟨k, u⟩ : Nat × Value) W => k ≤ ls.length ∧ aB w0 W (iD 21 .i32 u (ls.take k).flatten • F)) (fun (⟨k, u⟩ : Nat × Value) => ls.length - k) ((0, vg)) (Sub.cons rfl (Sub.cons rfl (Sub.nil _))) (Sub.cons rfl (Sub.cons rfl (Sub.nil _))) ⟨by omega, H2⟩ ?_
   rintro ⟨k, u⟩ w3 ⟨hk, HM⟩
   dsimp only [List.cons_append, List.nil_append]
   refine ay (ah (aU (dB rfl rfl) (aA (aj (ay (aP rfl (fun h3 => ?_) (fun h3 => ?_)))))))
   ·(try simp only [aG] at h3)
    try (exfalso; first | contradiction | omega)
    all_goals
     refine aO (aj (ay (bf (ay ?_))))
     have hk1 : k < ls.length := by omega
     obtain ⟨b, o, rfl, hc⟩ := hv.cell HM.right (j := k) (by omega)
     have hrk := hls k hk1
     have hfl := Gg ls (k + 1)
     rw [wW ls hk1, List.length_append] at hfl
     refine ah (aU (bY underlying22 sizeOf23 rfl rfl (by omega)) ?_)
     refine aU (dZ (bU underlying23 rfl) rfl (by rw [show ((k : Int).toNat * 1) = k from by omega]; exact hc)) ?_
     refine aW rfl (aA (aj (ah (aI rfl (aI rfl (iw (dJ HM (hrk _ HM.right) underlying23 y5 rfl rfl (by omega) (by omega)) ?_))))))
     rintro va w4 H4
     refine aW rfl (aA (aH (aj (ah (aU (dG rfl rfl (by omega)) (aI rfl (aA ?_)))))))
     refine cO ((k + 1, va)) ?_ ?_ ?_ ?_
     ·exact (Sub.cons rfl (Sub.cons rfl (Sub.nil _)))
     ·exact (Sub.cons rfl (Sub.cons rfl (Sub.nil _)))
     ·(try dsimp only)
      first | done | exact ⟨by omega, by rw [wW ls hk1]; exact H4⟩
     ·(try dsimp only); omega
   ·(try simp only [aG] at h3)
    try (exfalso; first | contradiction | omega)
    all_goals
     refine dK (aV (aV (bD (aj (ay (ah (aI rfl (aW rfl (aA (aj (aK (aQ (.inl rfl) results62 rfl ?_))))))))))))
     rw [List.take_of_length_le (by omega)] at HM; exact HM
theorem IU {w0 w : World} {F : HP} {b : Nat} {T : TypeId} {u1 u2 : Value} {l1 l2 : List Int} (H : aB w0 w (dh b (.cells #[u1, u2] T (0, 0)) • F)) (h1 : iG w0 (dh b (.cells #[u1, u2] T (0, 0)) • F) .i32 u1 l1) (h2 : iG w0 (dh b (.cells #[u1, u2] T (0, 0)) • F) .i32 u2 l2)
    (hb : (l1.length + l2.length) * 4 ≤ 140737488355328) :
    gG prog 62 #[.slice (some ⟨b, 0, none⟩) 2 2] w fun v' w' => aB w0 w' (iD 21 .i32 v' (l1 ++ l2) • dh b (.cells #[u1, u2] T (0, 0)) • F) := by
  have := Dw (ls := [l1, l2]) (vs := [u1, u2]) (v := .slice (some ⟨b, 0, none⟩) 2 2) H (fun W HW => ⟨rfl, _, 2, rfl, by simp, by decide, fun _ => ⟨b, 0, rfl, fun j hj => ?_⟩⟩) (fun k hk => ?_) (by simpa using hb)
  · simpa using this
  · refine iC HW.get.2 ?_
    simp at hj
    match j, hj with
    | 0, _ => rfl
    | 1, _ => rfl
  · simp at hk
    match k, hk with
    | 0, _ => exact h1
    | 1, _ => exact h2
end Go.Proofs.YtddekefihgejoaaGreatDoor
end
section
namespace Go.Proofs.YtddekefihgejoaaGreatDoor
open Go.RowKit
open _root_.Go.Proofs.Tryz
theorem IV {s i j : Nat} {v : Value} (h : v.oneCell' = true) : (nK s i j v).oneCell' = true := by cases v <;> simp_all [nK, Value.oneCell']
def dS (v : Value) (f t pt mk : Int) : Array Value := #[.bool true, v, .int .i64 f, .int .i64 t, .int .i64 pt, .int .i64 mk]
theorem Tv {a b : Value} (h : a.oneCell' = true) (k : b.oneCell' = true) : ∀ u ∈ [a, b], u.oneCell' = true := by
  intro u hu; simp at hu; rcases hu with rfl | rfl
  · exact h
  · exact k
section
variable {v u : Value} {f t pt mk x : Int}
theorem iY : (dS v f t pt mk).size = 6 := rfl
theorem Oa : (dS v f t pt mk).setIfInBounds 1 u = dS u f t pt mk := rfl
theorem vC : (dS v f t pt mk).setIfInBounds 2 (.int .i64 x) = dS v x t pt mk := rfl
theorem yu : (dS v f t pt mk).setIfInBounds 3 (.int .i64 x) = dS v f x pt mk := rfl
theorem tu : (dS v f t pt mk).setIfInBounds 4 (.int .i64 x) = dS v f t x mk := rfl
theorem kX : (dS v f t pt mk).setIfInBounds 5 (.int .i64 x) = dS v f t pt x := rfl
end
def dM (p : Nat) (L : List Int) (pt mk : Int) : HP := qN fun (x : Value × List Int × Nat × Nat) =>
  fact (x.2.2.1 ≤ x.2.2.2 ∧ x.2.2.2 ≤ x.2.1.length ∧ L = x.2.1.take x.2.2.1 ++ x.2.1.drop x.2.2.2 ∧ L.length ≤ 1024 ∧ x.2.1.length ≤ 4096 ∧ (0 ≤ pt ∧ pt ≤ L.length) ∧ (-1 ≤ mk ∧ mk ≤ L.length)) •
    dh p (.cells (dS x.1 x.2.2.1 x.2.2.2 pt mk) 208 (0, 0)) • iD 21 .i32 x.1 x.2.1
section
variable {w0 w : World} {F : HP} {p : Nat} {L : List Int} {pt mk : Int}
theorem aB.buf (H : aB w0 w (dM p L pt mk • F)) : ∃ (a : Option Addr) (c : Nat) (xs : List Int) (f t : Nat), f ≤ t ∧ t ≤ xs.length ∧ L = xs.take f ++ xs.drop t ∧ L.length ≤ 1024 ∧ xs.length ≤ 4096 ∧ (0 ≤ pt ∧ pt ≤ L.length) ∧ (-1 ≤ mk ∧ mk ≤ L.length) ∧ xs.length ≤ c ∧ (c : Int) ≤ 9223372036854775807 ∧ L.length + t = xs.length + f ∧
    aB w0 w (dh p (.cells (dS (.slice a xs.length c) f t pt mk) 208 (0, 0)) • iD 21 .i32 (.slice a xs.length c) xs • F) := by
  obtain ⟨⟨v, xs, f, t⟩, H⟩ := H.lD
  obtain ⟨⟨h1, h2, h3, h4, h5, h6, h7⟩, H⟩ := H.flat.fact
  have H := H.flat
  obtain ⟨a, c, hv, hc1, hc2, _⟩ := (H.swap.aT).form
  dsimp only at *
  subst hv
  refine ⟨a, c, xs, f, t, h1, h2, h3, h4, h5, h6, h7, hc1, hc2, ?_, H⟩
  rw [h3]; simp; omega
theorem aB.kG {v : Value} {xs : List Int} {f t : Nat} (h1 : f ≤ t) (h2 : t ≤ xs.length) (h3 : L = xs.take f ++ xs.drop t) (h4 : L.length ≤ 1024) (h5 : xs.length ≤ 4096) (h6 : 0 ≤ pt ∧ pt ≤ L.length) (h7 : -1 ≤ mk ∧ mk ≤ L.length)
    (H : aB w0 w (dh p (.cells (dS v f t pt mk) 208 (0, 0)) • iD 21 .i32 v xs • F)) : aB w0 w (dM p L pt mk • F) :=
  aB.gK (v, xs, f, t) (aB.deep (aB.jP ⟨h1, h2, h3, h4, h5, h6, h7⟩ (aB.deep H)))
theorem nN (t : TypeId) {cs : Array Value} {fr : Nat × Nat} {m : Bool} (hb : w.heap[p]? = some (.cells cs t fr)) (h0 : cs[0]? = some (.bool m)) :
  gG prog 139 #[.pointer (some ⟨p, 0, none⟩)] w fun v w' => v = .bool (!m) ∧ w = w' := by
 refine iF func139 ntmps139 ?_
 dsimp only [bg, Nat.reduceAdd]
 refine ay (ah (aW rfl (aA (aj (ay (ah (aI rfl (aU (iI underlying59 rfl rfl) (iM rfl (fun h => by exfalso; (try simp only [aG] at h); simp at h) (fun h1 => ?_))))))))))
 (try simp only [aG] at h1)
 refine aY (aI rfl (aY (bQ rfl (aY (bC 0 underlying208 rfl sizeOf4 rfl (aY (eu underlying4 rfl hb h0 (aY (aU (gQ rfl) (fC rfl rfl (aW rfl (aA (aj (aK (aQ (.inl rfl) results139 rfl ?_)))))))))))))))
 exact ⟨rfl, rfl⟩
theorem su (H : aB w0 w (dM p L pt mk • F)) : gG prog 140 #[.pointer (some ⟨p, 0, none⟩)] w fun v w' => v = .int .i64 L.length ∧ o7 w w' := by
 obtain ⟨a, c, xs, f, t, h1, h2, h3, h4, h5, h6, h7, hc1, hc2, hl, H1⟩ := H.buf
 have hb := H1.get.2
 refine iF func140 ntmps140 ?_
 dsimp only [bg, Nat.reduceAdd]
 refine ay (ah (aW rfl (aA (aj (ay (ay (ah (aI rfl (dH rfl func139 (nN _ hb rfl) ?_)))))))))
 rintro _ _ ⟨rfl, rfl⟩
 refine aA (aj (nY (aO (aj (ay ?_)))))
 refine lI (n := 16) [0, 1, 2, 3, 4, 5, 6, 7, 8, 9, 10, 11, 12, 13, 14, 15] (fun W => W.heap = w.heap) (by kernel_rfl) (by kernel_rfl) rfl ?_
 have hS0 : (fun W => W.heap = w.heap) (w.drew) := rfl
 have H3d := H1.drew
 refine gV 0 rfl hS0 rfl (iZ 1 rfl hS0 rfl (dV 2 rfl hS0 1 underlying208 rfl sizeOf23 rfl ?_))
 refine iy 3 rfl hS0 (fun W hW => iQ underlying23 rfl (by rw [hW]; exact hb) rfl) ?_
 refine iR 4 rfl hS0 (fun _ => jg underlying23 rfl) (gV 5 rfl hS0 rfl (iZ 6 rfl hS0 rfl (dV 7 rfl hS0 3 underlying208 rfl sizeOf3 rfl ?_)))
 refine iy 8 rfl hS0 (fun W hW => iQ underlying3 rfl (by rw [hW]; exact hb) rfl) ?_
 refine gV 9 rfl hS0 rfl (iZ 10 rfl hS0 rfl (dV 11 rfl hS0 2 underlying208 rfl sizeOf3 rfl ?_))
 refine iy 12 rfl hS0 (fun W hW => iQ underlying3 rfl (by rw [hW]; exact hb) rfl) ?_
 refine iR 13 rfl hS0 (fun _ => je rfl rfl (by omega)) (iR 14 rfl hS0 (fun _ => je rfl rfl (by omega)) (iR 15 rfl hS0 (fun _ => fA rfl) (nJ (aj (aK (aQ (.inl rfl) results140 rfl ?_))))))
 exact ⟨by congr 1; omega, o7.refl _ |>.drew⟩
theorem tC (H : aB w0 w (dM p L pt mk • F)) : gG prog 89 #[.pointer (some ⟨p, 0, none⟩)] w fun v w' => v = .int .i64 pt ∧ w = w' := by
 obtain ⟨a, c, xs, f, t, h1, h2, h3, h4, h5, h6, h7, hc1, hc2, hl, H1⟩ := H.buf
 have hb := H1.get.2
 refine iF func89 ntmps89 ?_
 dsimp only [bg, Nat.reduceAdd]
 refine ay (ah (aW rfl (aA (aj (ay (ay (ah (aI rfl (dH rfl func139 (nN _ hb rfl) ?_)))))))))
 rintro _ _ ⟨rfl, rfl⟩
 refine aA (aj (nY (aO (aj (ay (ah (aI rfl (bQ rfl (bC 4 underlying208 rfl sizeOf3 rfl (eu underlying3 rfl hb rfl (aW rfl (aA (aj (aK (aQ (.inl rfl) results89 rfl ?_)))))))))))))))
 exact ⟨rfl, rfl⟩
theorem Gn (H : aB w0 w (dM p L pt mk • F)) : gG prog 122 #[.pointer (some ⟨p, 0, none⟩)] w fun v w' => v = .int .i64 mk ∧ w = w' := by
 obtain ⟨a, c, xs, f, t, h1, h2, h3, h4, h5, h6, h7, hc1, hc2, hl, H1⟩ := H.buf
 have hb := H1.get.2
 refine iF func122 ntmps122 ?_
 dsimp only [bg, Nat.reduceAdd]
 refine ay (ah (aW rfl (aA (aj (ay (ay (ah (aI rfl (dH rfl func139 (nN _ hb rfl) ?_)))))))))
 rintro _ _ ⟨rfl, rfl⟩
 refine aA (aj (nY (aO (aj (ay (ah (aI rfl (bQ rfl (bC 5 underlying208 rfl sizeOf3 rfl (eu underlying3 rfl hb rfl (aW rfl (aA (aj (aK (aQ (.inl rfl) results122 rfl ?_)))))))))))))))
 exact ⟨rfl, rfl⟩
theorem nO (H : aB w0 w (dM p L pt mk • F)) : gG prog 121 #[.pointer (some ⟨p, 0, none⟩)] w fun v w' => aB w0 w' (iD 21 .i32 v L • dM p L pt mk • F) := by
 obtain ⟨a, c, xs, f, t, h1, h2, h3, h4, h5, h6, h7, hc1, hc2, hl, H1⟩ := H.buf
 have hb := H1.get.2
 refine iF func121 ntmps121 ?_
 dsimp only [bg, Nat.reduceAdd]
 refine ay (ah (aW rfl (aA (aj (ay (ay (ah (aI rfl (dH rfl func139 (nN _ hb rfl) ?_)))))))))
 rintro _ _ ⟨rfl, rfl⟩
 refine aA (aj (nY (aO (aj (ay ?_)))))
 refine lI (n := 21) [0, 1, 2, 3, 4, 5, 6, 7, 8, 9, 10, 11, 12, 13, 14, 15, 16, 17, 18, 19, 20] (fun W => W.heap[p]? = some (.cells (dS (.slice a xs.length c) f t pt mk) 208 (0, 0))) (by kernel_rfl) (by kernel_rfl) rfl ?_
 have hS0 : (fun W => W.heap[p]? = some (.cells (dS (.slice a xs.length c) f t pt mk) 208 (0, 0))) (w.drew) := hb
 have H3d := H1.drew
 refine gV 0 rfl hS0 rfl (iZ 1 rfl hS0 rfl (dV 2 rfl hS0 1 underlying208 rfl sizeOf23 rfl (iy 3 rfl hS0 (fun W hW => iQ underlying23 rfl hW rfl) (gV 4 rfl hS0 rfl (iZ 5 rfl hS0 rfl (dV 6 rfl hS0 2 underlying208 rfl sizeOf3 rfl (iy 7 rfl hS0 (fun W hW => iQ underlying3 rfl hW rfl) (iR 8 rfl hS0 (fun _ => oP underlying23 sizeOf21 rfl rfl rfl (by omega)) (gV 9 rfl hS0 rfl (iZ 10 rfl hS0 rfl (dV 11 rfl hS0 1 underlying208 rfl sizeOf23 rfl (iy 12 rfl hS0 (fun W hW => iQ underlying23 rfl hW rfl) (gV 13 rfl hS0 rfl (iZ 14 rfl hS0 rfl (dV 15 rfl hS0 3 underlying208 rfl sizeOf3 rfl (iy 16 rfl hS0 (fun W hW => iQ underlying3 rfl hW rfl) (iR 17 rfl hS0 (fun _ => oP underlying23 sizeOf21 rfl rfl rfl (by omega)) (jr 18 rfl (UA (vs := [nK 1 0 f (.slice a xs.length c), nK 1 t xs.length (.slice a xs.length c)]) H3d underlying22 sizeOf23 zeroValue23 rfl rfl rfl (by decide) (Tv (IV rfl) (IV rfl))) ?_))))))))))))))))))
 rintro _ w2 ⟨b2, rfl, H2⟩
 have hS2 : (fun W => W.heap[p]? = some (.cells (dS (.slice a xs.length c) f t pt mk) 208 (0, 0))) w2 := H2.swap.get.2
 refine Uz hS2 ?_
 refine jr 19 rfl (rX rfl func62 (IU (l1 := xs.take f) (l2 := xs.drop t) H2 (fun W HW => jc.upto HW.Ii.aT (by omega)) (fun W HW => jc.from HW.Ii.aT (by omega)) (by simp; omega))) ?_
 rintro u w3 H3
 have hS3 : (fun W => W.heap[p]? = some (.cells (dS (.slice a xs.length c) f t pt mk) 208 (0, 0))) w3 := H3.Ii.get.2
 refine Uz hS3 ?_
 refine iR 20 rfl hS3 (fun _ => fA rfl) (nJ (aj (aK (aQ (.inl rfl) results121 rfl ?_))))
 rw [← h3] at H3
 exact (aB.kG h1 h2 h3 h4 h5 h6 h7 H3.swap.right.d3).swap
theorem Ba {v : Value} {l : List Int} (H : aB w0 w F) (hr : iG w0 F .i32 v l) (hl : l.length ≤ 1024) : gG prog 87 #[v] w fun v' w' => ∃ p, v' = .tuple #[.pointer (some ⟨p, 0, none⟩), .int .i64 0] ∧ aB w0 w' (dM p l l.length (-1) • F) := by
 obtain ⟨a, c, rfl, _, _, _⟩ := (hr w H).open
 refine iF func87 ntmps87 ?_
 dsimp only [bg, Nat.reduceAdd]
 refine ay (ah (aW rfl (aW rfl (aA (aj (ay (ay (ah (aI rfl (aU (jg underlying23 rfl) (aU (fB rfl rfl) (aA (aj (aP rfl (fun h => by exfalso; (try simp only [aG] at h); first | contradiction | omega | (simp at h <;> omega)) (fun h1 => ?_)))))))))))))))
 (try simp only [aG] at h1)
 refine aO (aj (ay (ah (aI rfl (dH rfl func59 (kW H hr (by omega)) ?_)))))
 rintro u w1 H1
 obtain ⟨au, cu, hu, _⟩ := (H1.aT).form
 subst hu
 refine aI rfl (aU (jg underlying23 rfl) (aU (fO (pl := #[(0, 1), (1, 1), (2, 1), (3, 1), (4, 1), (5, 1)]) (dS (.slice au l.length cu) 0 0 l.length (-1)) underlying208 zeroValue208 (fun w => by kernel_rfl) rfl (by kernel_rfl)) (iw (Pn H1 rfl) ?_)))
 rintro _ w2 ⟨b2, rfl, H2⟩
 refine aW rfl (aA (aj (ay ?_)))
 have HB : aB w0 w2 (dh b2 (.cells (dS (.slice au l.length cu) 0 0 l.length (-1)) 208 (0, 0)) • iD 21 .i32 (.slice au l.length cu) l • F) := H2
 refine ah (aI rfl (aI rfl (aI rfl (aU (jg underlying23 rfl) (aI rfl (aU (jg underlying23 rfl) (bQ rfl (bC 2 underlying208 rfl sizeOf3 rfl (aJ (fM HB sizeOf3 rfl rfl rfl (by rw [iY]; decide)) ?_)))))))))
 rintro _ w3 HB1
 rw [vC] at HB1
 refine bQ rfl (bC 3 underlying208 rfl sizeOf3 rfl (aJ (fM HB1 sizeOf3 rfl rfl rfl (by rw [iY]; decide)) ?_))
 rintro _ w4 HB2
 rw [yu] at HB2
 refine aA (aj (ay (ah (aI rfl (aW rfl (aW rfl (aA (aj (aK (gW (.inl rfl) results87 rfl rfl ?_))))))))))
 exact ⟨_, rfl, aB.kG (f := l.length) (t := l.length) (Nat.le_refl _) (Nat.le_refl _) (by simp) hl (by omega) (by omega) (by omega) HB2⟩
end
end Go.Proofs.YtddekefihgejoaaGreatDoor
end
