import Derived.Test.YtgndbccogcofjaaGreatDoorZ2
import Derived.Test.YtgndbccogcofjaaGreatDoorRows
import Derived.Test.YtgndbccogcofjaaGreatDoorZ3
import Derived.JoinedCond
import Derived.Deep.CondSized
import Derived.Test.YtgndbccogcofjaaGreatDoorTie
import Derived.Test.YtgndbccogcofjaaGreatDoorZ5
import Derived.Lay
import Derived.LaidMore
import Derived.Deep.DeepHandedRow
import Derived.Test.YtgndbccogcofjaaGreatDoorZ4
import Derived.Maps.RangeRun
import Derived.Test.YtgndbccogcofjaaGreatDoorProg
set_option linter.unusedSimpArgs false
set_option linter.unusedVariables false
/- Texts of mine, joined, their names in short: Upto ULaid Map EmMap. -/
section
namespace Go.Proofs.YtgndbccogcofjaaGreatDoor
open Go.ChangeShapes Go.WideShapes Go.ChangeAt Go.RowKit
section
variable {H : Type} {P : Program} {M : Nat}
theorem PY (d : DataW H) : 1 ≤ Rows.uptoBulk d := by
  cases d with
  | lit l => cases l <;> simp [Rows.uptoBulk]
  | nil => simp [Rows.uptoBulk]
  | ptr d => simp [Rows.uptoBulk]
  | slice elems spare => simp [Rows.uptoBulk]
  | agg parts => simp [Rows.uptoBulk]
  | iface t d => simp [Rows.uptoBulk]
  | map entries => simp [Rows.uptoBulk]
  | held h => simp [Rows.uptoBulk]
theorem Jf (l : List (DataW H)) : l.length ≤ Rows.uptoBulkAll l := by
  induction l with
  | nil => simp [Rows.uptoBulkAll]
  | cons x r ih => have := PY x; simp only [Rows.uptoBulkAll, List.length_cons]; omega
theorem G9 (l : List (Lit × DataW H)) : l.length ≤ Rows.uptoBulkEntries l := by
  induction l with
  | nil => simp [Rows.uptoBulkEntries]
  | cons x r ih =>
    have : 1 ≤ Rows.uptoBulkEntry x := by
      obtain ⟨k, d⟩ := x
      cases k <;> simp [Rows.uptoBulkEntry]
    simp only [Rows.uptoBulkEntries, List.length_cons]; omega
def pK (n : Nat) : Option TypeDesc → Bool
  | some (.pointer e) => decide (e < n)
  | some (.slice e) => decide (e < n)
  | some (.array _ e) => decide (e < n)
  | some (.struct fs) => fs.toList.all fun f => decide (f.type < n)
  | some (.map k e) => decide (k < n) && decide (e < n)
  | _ => true
def pO (P : Program) (M n : Nat) : Bool := (List.range n).all fun t => decide (2 * P.bytesOf t ≤ M) && pK n (P.underlying t)
theorem sU {n : Nat} (hG : pO P M n = true) {t : TypeId} (ht : t < n) : 2 * P.bytesOf t ≤ M ∧ pK n (P.underlying t) = true := by
  have := List.all_eq_true.1 hG t (List.mem_range.2 ht)
  simpa using this
theorem He {a b c : Nat} (h : a ≤ b) (hc : c ≤ M) : a * c ≤ b * M := Nat.mul_le_mul h hc
mutual
theorem nT {z : Nat} (hG : pO P M z = true) (h1 : 1 ≤ M) : ∀ (d : DataW H) (t : TypeId) (n : Nat), t < z → n ∈ d.weights P t → n ≤ Rows.uptoBulk d * M
  | .lit l, t, n, ht, h => by
    cases l with
    | string b =>
      simp only [DataW.weights, List.mem_singleton] at h
      subst h
      simp only [Rows.uptoBulk]
      have := He (M := M) (a := b.length) (b := b.length + 1) (c := 1) (by omega) h1
      omega
    | _ => simp [DataW.weights] at h
  | .nil, t, n, ht, h => by simp [DataW.weights] at h
  | .ptr d, t, n, ht, h => by
    simp only [DataW.weights] at h
    split at h
    · rename_i e he
      have hp := (sU hG ht).2
      rw [he] at hp
      have := nT hG h1 d _ n (by simpa [pK] using hp) h
      simp only [Rows.uptoBulk, Nat.add_mul]; omega
    · simp at h
  | .slice elems spare, t, n, ht, h => by
    simp only [DataW.weights] at h
    split at h
    · rename_i e he
      have hp := (sU hG ht).2
      rw [he] at hp
      have he' : e < z := by simpa [pK] using hp
      simp only [List.mem_cons, List.mem_append] at h
      simp only [Rows.uptoBulk, Nat.add_mul]
      rcases h with rfl | h | h
      · have l1 := Jf elems
        have l2 := Jf spare
        have := He (M := M) (a := elems.length + spare.length) (b := Rows.uptoBulkAll elems + Rows.uptoBulkAll spare) (c := P.bytesOf e) (by omega) (by have := (sU hG he').1; omega)
        rw [Nat.add_mul (Rows.uptoBulkAll elems)] at this
        omega
      · have := mX hG h1 elems _ n he' h; omega
      · have := mX hG h1 spare _ n he' h; omega
    · simp at h
  | .agg parts, t, n, ht, h => by
    simp only [DataW.weights] at h
    simp only [Rows.uptoBulk, Nat.add_mul]
    split at h
    · rename_i fs he
      have hp := (sU hG ht).2
      rw [he] at hp
      have := pR hG h1 parts _ n (fun t' ht' => by
        obtain ⟨f, hf, rfl⟩ := List.mem_map.1 ht'
        simpa using List.all_eq_true.1 hp f hf) h
      omega
    · rename_i k e he
      have hp := (sU hG ht).2
      rw [he] at hp
      have := mX hG h1 parts _ n (by simpa [pK] using hp) h
      omega
    · simp at h
  | .iface t' d, t, n, ht, h => by simp [DataW.weights] at h
  | .map entries, t, n, ht, h => by
    simp only [DataW.weights] at h
    simp only [Rows.uptoBulk, Nat.add_mul]
    split at h
    · rename_i k e he
      have hp := (sU hG ht).2
      rw [he] at hp
      have hke : k < z ∧ e < z := by simpa [pK] using hp
      simp only [List.mem_cons] at h
      rcases h with rfl | h
      · have := He (M := M) (G9 entries) (c := P.bytesOf k + P.bytesOf e) (by have := (sU hG hke.1).1; have := (sU hG hke.2).1; omega); omega
      · have := mF hG h1 entries _ n hke.2 h; omega
    · simp at h
  | .held x, t, n, ht, h => by simp [DataW.weights] at h
theorem mX {z : Nat} (hG : pO P M z = true) (h1 : 1 ≤ M) : ∀ (l : List (DataW H)) (t : TypeId) (n : Nat), t < z → n ∈ DataW.weightsAll P t l → n ≤ Rows.uptoBulkAll l * M
  | [], t, n, ht, h => by simp [DataW.weightsAll] at h
  | d :: r, t, n, ht, h => by
    simp only [DataW.weightsAll, List.mem_append] at h
    simp only [Rows.uptoBulkAll, Nat.add_mul]
    rcases h with h | h
    · have := nT hG h1 d _ n ht h; omega
    · have := mX hG h1 r _ n ht h; omega
theorem pR {z : Nat} (hG : pO P M z = true) (h1 : 1 ≤ M) : ∀ (l : List (DataW H)) (ts : List TypeId) (n : Nat), (∀ t ∈ ts, t < z) → n ∈ DataW.weightsEach P ts l → n ≤ Rows.uptoBulkAll l * M
  | [], ts, n, ht, h => by cases ts <;> simp [DataW.weightsEach] at h
  | d :: r, [], n, ht, h => by simp [DataW.weightsEach] at h
  | d :: r, t :: ts, n, ht, h => by
    simp only [DataW.weightsEach, List.mem_append] at h
    simp only [Rows.uptoBulkAll, Nat.add_mul]
    rcases h with h | h
    · have := nT hG h1 d _ n (ht t (by simp)) h; omega
    · have := pR hG h1 r _ n (fun x hx => ht x (by simp [hx])) h; omega
theorem mF {z : Nat} (hG : pO P M z = true) (h1 : 1 ≤ M) : ∀ (l : List (Lit × DataW H)) (t : TypeId) (n : Nat), t < z → n ∈ DataW.weightsEntries P t l → n ≤ Rows.uptoBulkEntries l * M
  | [], t, n, ht, h => by simp [DataW.weightsEntries] at h
  | (k, d) :: r, t, n, ht, h => by
    cases k with
    | string b =>
      simp only [DataW.weightsEntries, DataW.weightsEntry, List.mem_append, List.mem_cons] at h
      simp only [Rows.uptoBulkEntries, Rows.uptoBulkEntry, Nat.add_mul]
      have hb := He (M := M) (a := b.length) (b := b.length) (c := 1) (by omega) h1
      rcases h with (h | h) | h
      · omega
      · have := nT hG h1 d _ n ht h; omega
      · have := mF hG h1 r _ n ht h; omega
    | _ =>
      simp only [DataW.weightsEntries, DataW.weightsEntry, List.mem_append] at h
      simp only [Rows.uptoBulkEntries, Rows.uptoBulkEntry, Nat.add_mul]
      rcases h with h | h
      · have := nT hG h1 d _ n ht h; omega
      · have := mF hG h1 r _ n ht h; omega
end
end
theorem PZ {H : Type} {enc : TypeId × Value → H} {P : Program} {fn : Func} {s : ChangeSpec} {ts : List TypeId} {M z : Nat} (hG : pO P M z = true) (h1 : 1 ≤ M) (hz : ∀ t ∈ ts, t < z) (hpn : fn.params.toList = ts) (hvars : s.vars = []) {W : World} {base : Nat} {args : Array Value} {ds gs : List (DataW H)} {before : List MemPlace}
    (hval : ∀ (j : Nat) t v, fn.params[j]? = some t → args[j]? = some v → Value.okWide P W .any base t v) (hW : DataW.Whole enc P fn.params.toList s.vars false W args.toList ds gs before)
    (hk : Rows.uptoSmall H (ds ++ gs) = true) : uD (1048576 * M) enc P W ts args.toList := by
  obtain ⟨p, q, hA, hV, rfl, hfz, hnd⟩ := hW
  rw [hvars] at hV
  obtain ⟨rfl, rfl⟩ : gs = [] ∧ q = [] := by cases gs <;> simp_all [DataW.TrodVars]
  rw [List.append_nil] at hk
  have hk1 : Rows.uptoBulkAll ds ≤ 1048576 := of_decide_eq_true hk
  have hw2 : ∀ n ∈ DataW.weightsEach P fn.params.toList ds, n ≤ 1048576 * M := fun n hn => by
    have h2 := pR hG h1 ds _ n (by rw [hpn]; exact hz) hn
    have h3 := Nat.mul_le_mul_right M hk1
    omega
  obtain ⟨hn1, hn2, hin⟩ := Ba hA hw2
  rw [← hpn]
  exact uD.mk hn1 fun j t v ht hv => ⟨⟨base, hval j t v (by simpa using ht) (by simpa using hv)⟩, hin j t v ht hv⟩
end Go.Proofs.YtgndbccogcofjaaGreatDoor
end
section
set_option maxRecDepth 100000
namespace Go.Proofs.YtgndbccogcofjaaGreatDoor
open Go.ChangeShapes Go.WideShapes Go.ChangeAt Go.RowKit
theorem XI : Tryz.prog.globalNamed "lanyard/ucell.none" = some 0 := by kernel_rfl
theorem XJ : Tryz.prog.globalNamed "lanyard/ucell.wide" = some 1 := by kernel_rfl
theorem VA : Tryz.prog.globalNamed "unicode/utf8.first" = some 2 := by kernel_rfl
theorem Zp : Tryz.prog.globalNamed "unicode/utf8.acceptRanges" = some 3 := by kernel_rfl
theorem XK : (Tryz.prog.globals[0]?).map (·.type) = some 218 := by kernel_rfl
theorem XL : (Tryz.prog.globals[1]?).map (·.type) = some 219 := by kernel_rfl
theorem VB : (Tryz.prog.globals[2]?).map (·.type) = some 251 := by kernel_rfl
theorem Zq : (Tryz.prog.globals[3]?).map (·.type) = some 254 := by kernel_rfl
abbrev Jg : List (String × DataW Unit) := [("unicode/utf8.acceptRanges", Rows.laid_unicode_utf8_acceptRanges), ("lanyard/ucell.none", Rows.laid_lanyard_ucell_none), ("lanyard/ucell.wide", Rows.laid_lanyard_ucell_wide), ("unicode/utf8.first", Rows.laid_unicode_utf8_first)]
def FW : List (Int × Int) := [(128, 191), (160, 191), (128, 159), (144, 191), (128, 143), (0, 0), (0, 0), (0, 0), (0, 0), (0, 0), (0, 0), (0, 0), (0, 0), (0, 0), (0, 0), (0, 0)]
def Na (x : Int × Int) : DataW Unit := .agg [.lit (.int .u8 x.1), .lit (.int .u8 x.2)]
def qC (T : List (Int × Int)) : List Value := T.flatMap fun x => [.int .u8 x.1, .int .u8 x.2]
theorem FX (T : List (Int × Int)) (k : Nat) (h : k < T.length) : (qC T).getD (k * 2) undef = .int .u8 (T.getD k (0, 0)).1 ∧ (qC T).getD (k * 2 + 1) undef = .int .u8 (T.getD k (0, 0)).2 := by
  induction T generalizing k with
  | nil => simp at h
  | cons x r ih =>
    cases k with
    | zero => exact ⟨rfl, rfl⟩
    | succ k =>
      have := ih k (by simpa using h)
      rw [show (k + 1) * 2 = k * 2 + 2 from by omega, show k * 2 + 2 + 1 = (k * 2 + 1) + 2 from by omega]
      simpa [qC, List.getD_eq_getElem?_getD] using this
theorem Jh (T : List (Int × Int)) : (qC T).length = T.length * 2 := by
  induction T with
  | nil => rfl
  | cons x r ih => simp only [qC, List.flatMap_cons, List.length_append] at *; simp [ih]; omega
section
variable {enc : TypeId × Value → Unit} {w : World} {base : Nat} {spare : Nat → Bool} {held : Bool} {fuel : Nat} {ps : List MemPlace}
theorem SV {cs : List Value} {x : Int × Int} (h : DataW.trod enc Tryz.prog w base spare held fuel 253 cs = some (Na x, ps)) : cs = [.int .u8 x.1, .int .u8 x.2] := by
  obtain ⟨xs, n, -, hx, hl, hl2, hf⟩ := DataW.trod_struct Tryz.underlying253 h
  rw [show Tryz.prog.cellsOf 253 = 2 from by kernel_rfl] at hl
  simp only [Prod.mk.injEq, Na, DataW.agg.injEq] at hx
  match xs, hl2, hx, cs, hl with
  | [y0, y1], _, hx, [c0, c1], _ =>
    have h0 : DataW.trod enc Tryz.prog w base spare held n 5 (([c0, c1].drop 0).take (Tryz.prog.cellsOf 5)) = some y0 := hf 0 _ rfl
    have h1 : DataW.trod enc Tryz.prog w base spare held n 5 (([c0, c1].drop 1).take (Tryz.prog.cellsOf 5)) = some y1 := hf 1 _ rfl
    simp only [List.map_cons, List.map_nil, List.cons.injEq] at hx
    obtain ⟨n0, e0, d0, -⟩ := DataW.trod_int Tryz.underlying5 h0
    obtain ⟨n1, e1, d1, -⟩ := DataW.trod_int Tryz.underlying5 h1
    rw [show Tryz.prog.cellsOf 5 = 1 from by kernel_rfl] at e0 e1
    simp at e0 e1
    rw [d0, d1] at hx
    simp at hx
    subst e0; subst e1
    rw [hx.1.1, hx.1.2]
theorem SX {t n : Nat} {cs : List Value} {T : List (Int × Int)} (ht : Tryz.prog.underlying t = some (.array n 253)) (hc : Tryz.prog.cellsOf t = n * 2) (h : DataW.trod enc Tryz.prog w base spare held fuel t cs = some (.agg (T.map Na), ps)) : cs = qC T := by
  obtain ⟨xs, m, -, hx, hl, hl2, hel⟩ := DataW.trod_array ht h
  simp only [Prod.mk.injEq, DataW.agg.injEq] at hx
  rw [hc] at hl
  have hTn : T.length = n := by have := congrArg List.length hx.1; simpa [hl2] using this
  have hv := Jh T
  apply List.ext_getElem?
  intro j
  by_cases hj : j < n * 2
  · have hk : j / 2 < n := by omega
    have h1 := hel (j / 2) hk
    rw [show Tryz.prog.cellsOf 253 = 2 from by kernel_rfl, List.getElem?_eq_getElem (by omega)] at h1
    have h2 : xs[j / 2].1 = Na (T.getD (j / 2) (0, 0)) := by
      have := congrArg (fun l => l[j / 2]?) hx.1
      simp [List.getElem?_eq_getElem (show j / 2 < T.length by omega), List.getElem?_eq_getElem (show j / 2 < xs.length by omega)] at this
      rw [List.getD_eq_getElem?_getD, List.getElem?_eq_getElem (show j / 2 < T.length by omega), Option.getD_some, this]
    have h3 := SV (x := T.getD (j / 2) (0, 0)) (ps := xs[j / 2].2) (by rw [h1, ← h2])
    obtain ⟨e0, e1⟩ := FX T (j / 2) (by omega)
    have hq : (qC T)[j]? = some ((qC T).getD j undef) := by rw [List.getD_eq_getElem?_getD, List.getElem?_eq_getElem (by omega)]; rfl
    rw [hq]
    rcases (show j = j / 2 * 2 ∨ j = j / 2 * 2 + 1 by omega) with hj2 | hj2
    · have := congrArg (fun l => l[0]?) h3
      simp [List.getElem?_drop] at this
      rw [show j / 2 * 2 = j from by omega] at this e0
      rw [this, e0]; simp [List.getD_eq_getElem?_getD]
    · have := congrArg (fun l => l[1]?) h3
      simp [List.getElem?_take, List.getElem?_drop] at this
      rw [show j / 2 * 2 + 1 = j from by omega] at this e1
      rw [this, e1]; simp [List.getD_eq_getElem?_getD]
  · rw [List.getElem?_eq_none (by omega), List.getElem?_eq_none (by omega)]
theorem P5 {t n : Nat} {cs : List Value} {Z : List Nat} (ht : Tryz.prog.underlying t = some (.array n 5)) (h : DataW.trod enc Tryz.prog w base spare held fuel t cs = some (.agg (Z.map fun (q : Nat) => .lit (.int .u8 q)), ps)) {r : Nat} (hr : r < n) : cs[r]? = some (.int .u8 (Z.getD r 0 : Nat)) := by
  obtain ⟨xs, m, _, ex, _, hl, hel⟩ := DataW.trod_array ht h
  have c5 : Tryz.prog.cellsOf 5 = 1 := by kernel_rfl
  have hE := hel r hr
  rw [c5, Nat.mul_one, List.getElem?_eq_getElem (by omega)] at hE
  obtain ⟨z, e1, e2, _⟩ := DataW.trod_int Tryz.underlying5 hE
  have e3 : (xs.map (·.1)) = Z.map fun (q : Nat) => .lit (.int .u8 q) := (DataW.agg.inj (Prod.mk.inj ex).1).symm
  have hzl : Z.length = n := by have := congrArg List.length e3; simpa [hl] using this.symm
  have e4 : (xs.map (·.1))[r]? = (Z.map fun (q : Nat) => (DataW.lit (.int .u8 q) : DataW Unit))[r]? := by rw [e3]
  rw [List.getElem?_map, List.getElem?_map, List.getElem?_eq_getElem (by omega : r < xs.length), List.getElem?_eq_getElem (by omega : r < Z.length), e2] at e4
  have hz : z = (Z.getD r 0 : Nat) := by
    simp only [Option.map_some, Option.some.injEq, DataW.lit.injEq, Lit.int.injEq, true_and] at e4
    rw [e4, List.getD_eq_getElem?_getD, List.getElem?_eq_getElem (by omega : r < Z.length)]; rfl
  have : cs[r]? = some (.int .u8 z) := by
    have h0 : ((cs.drop r).take 1)[0]? = some (.int .u8 z) := by rw [e1]; rfl
    simpa using h0
  rw [this, hz]
end
theorem SY {W : World} (h : laidMetH Tryz.prog Jg W) : mD W ∧ XH W := by
  rw [MakeChecks.laidMetH_plain _ _ _ (by kernel_rfl)] at h
  obtain ⟨ps, ⟨g3, t3, cs3, f3, p3, q3, hg3, ht3, hv3, hd3, ⟨g0, t0, cs0, f0, p0, q0, hg0, ht0, hv0, hd0, ⟨g1, t1, cs1, f1, p1, q1, hg1, ht1, hv1, hd1, ⟨g2, t2, cs2, f2, p2, q2, hg2, ht2, hv2, hd2, _, _⟩, _⟩, _⟩, _⟩, _, _⟩ := h
  obtain rfl := Option.some.inj (XI.symm.trans hg0)
  obtain rfl := Option.some.inj (XJ.symm.trans hg1)
  obtain rfl := Option.some.inj (VA.symm.trans hg2)
  obtain rfl := Option.some.inj (Zp.symm.trans hg3)
  obtain rfl := Option.some.inj (XK.symm.trans ht0)
  obtain rfl := Option.some.inj (XL.symm.trans ht1)
  obtain rfl := Option.some.inj (VB.symm.trans ht2)
  obtain rfl := Option.some.inj (Zq.symm.trans ht3)
  have e0 := PV (T := MV) Tryz.underlying218 (by kernel_rfl) hd0
  have e1 := PV (T := MW) Tryz.underlying219 (by kernel_rfl) hd1
  have e3 := SX (T := FW) Tryz.underlying254 (by kernel_rfl) hd3
  refine ⟨⟨⟨by decide, _, 15, rfl, by decide, by decide, fun _ => ⟨0, 0, rfl, fun j hj => ?_⟩⟩, ⟨by decide, _, 14, rfl, by decide, by decide, fun _ => ⟨1, 0, rfl, fun j hj => ?_⟩⟩⟩, ⟨fun x hx => ?_, fun i hi => ?_⟩⟩
  · rw [Nat.zero_add, World.var?_cell hg0 hv0 j, ← Array.getElem?_toList, e0, List.getD_eq_getElem?_getD, List.getElem?_eq_getElem (by rw [GZ]; exact hj)]; rfl
  · rw [Nat.zero_add, World.var?_cell hg1 hv1 j, ← Array.getElem?_toList, e1, List.getD_eq_getElem?_getD, List.getElem?_eq_getElem (by rw [GZ]; exact hj)]; rfl
  · rw [World.var?_cell hg2 hv2 x, ← Array.getElem?_toList, P5 (Z := Go.Pinned.utf8FirstZ) Tryz.underlying251 hd2 hx]; rfl
  · have hp := FX FW i (by simp [FW]; omega)
    have ha : FW.getD i (0, 0) = Vz.getD i (0, 0) := by
      match i, hi with
      | 0, _ => rfl
      | 1, _ => rfl
      | 2, _ => rfl
      | 3, _ => rfl
      | 4, _ => rfl
    rw [ha] at hp
    have hl := Jh FW
    have hl2 : FW.length = 16 := rfl
    constructor
    · rw [World.var?_cell hg3 hv3 _, ← Array.getElem?_toList, e3, ← hp.1, List.getD_eq_getElem?_getD, List.getElem?_eq_getElem (by omega)]; rfl
    · rw [World.var?_cell hg3 hv3 _, ← Array.getElem?_toList, e3, ← hp.2, List.getD_eq_getElem?_getD, List.getElem?_eq_getElem (by omega)]; rfl
theorem P6 (os : Os) (args : Array Value) : laidMetH Tryz.prog Jg ((World.laidAll Tryz.prog os Jg).forCall (fun _ _ => 0) ⟨#[], args, []⟩).memory := by
  rw [MakeChecks.laidMetH_plain _ _ _ (by kernel_rfl)]; exact laidMet_laidAll _ (by kernel_rfl) (by kernel_rfl)
theorem yL {H : Type} {enc : TypeId × Value → H} {a : Assume} {C : Checked} {os : Os} {f : FuncId} {fn : Func} {s : ChangeSpec} {conds : List PathCond} {tb : TypeId} {F : Stop.Interp} {M z : Nat} {lay : List (String × DataW Unit)} (ts : List TypeId) (hG : pO C.prog M z = true) (h1 : 1 ≤ M) (hz : ts.all (fun t => decide (t < z)) = true)
    (own : ownKnob C.prog.godebug = none) (laid : laidOutB C.prog = true) (started : os.Started) (noInit : C.prog.inits.idxOf? f = none) (hfn : C.prog.funcs[f]? = some fn)
    (hpn : fn.params.toList = ts) (hres : fn.resultTypes = #[tb]) (htb : C.prog.underlying tb = some .bool) (hvars : s.vars = [])
    (hts : ts.all (fun t => C.prog.readableRec t && decide (t < C.prog.types.size)) = true)
    (hspec : ∀ ds : List (DataW H), ds.length = ts.length → s.fn H ds = { results := [.lit (.bool true)], args := ds })
    (witness : ∃ (w : World) (tape : Tape) (i : Input), w.os = os ∧ (w.forCall tape i).Shaped C.prog ∧ i.vars = [] ∧ Input.okWide C.prog (w.forCall tape i) .any w.heap.size f i ∧
      (Rows.OpenSpec.upto s).preRow enc C.prog fn conds false lay (w.forCall tape i).memory i.args ∧ a.holds C.prog (lone (Frame.enter C.prog f i.args .normal) [] (w.forCall tape i)))
    (walk : ∀ (W : World) (args : Array Value), laidMetH C.prog lay W → uD (1048576 * M) enc C.prog W ts args.toList → fG C.prog f args W fun v W' => v = .bool true ∧ Below W.heap.size W W') :
    ReturnsInHanded a C os f .any ((Rows.OpenSpec.upto s).preRow enc C.prog fn conds false lay) (((Rows.OpenSpec.upto s).at F).post enc C.prog fn false true false false) := by
  refine returnsInHanded_of_row (s := Rows.OpenSpec.upto s) own started noInit hfn witness ?_
  intro W base args ds gs before hval hW _ hk _ hL _ _
  exact Calls.mono (walk W args hL (PZ hG h1 (fun t ht => by simpa using List.all_eq_true.1 hz t ht) hpn hvars hval hW (hk _ rfl))) fun e W' ⟨v, he, hv, hb⟩ => ⟨v, he, by subst hv; exact PS laid hpn hres htb hvars hts hspec hW hb⟩
end Go.Proofs.YtgndbccogcofjaaGreatDoor
end
section
namespace Go.Proofs.YtgndbccogcofjaaGreatDoor
open Go.RowKit Go.MapKept
structure Key (α : Type) where
  mkKey ::
  d : TypeDesc
  mk : α → Value
  key : ∀ a, IsKey d (mk a)
  inj : ∀ a b, mk a = mk b → a = b
  onto : ∀ v, IsKey d v → ∃ a, mk a = v
def xU (k : IntKind) : Key Int := ⟨.int k, .int k, fun _ => rfl, fun _ _ h => by cases h; rfl, fun v h => by
  cases v <;> simp [IsKey] at h
  subst h
  exact ⟨_, rfl⟩⟩
abbrev qE : Key Int := xU .i64
abbrev abR : Key Int := xU .i32
def XM : Key ByteArray := ⟨.string, .string, fun _ => trivial, fun _ _ h => by cases h; rfl, fun v h => by
  cases v <;> simp [IsKey] at h
  exact ⟨_, rfl⟩⟩
section
variable {α : Type} {K : Key α} {f : α → Option Value} {es : Array MapEntry} {clock : Nat}
def yj (K : Key α) (f : α → Option Value) (es : Array MapEntry) (clock : Nat) : Prop :=
  Stamped es clock ∧ (∀ x ∈ es.toList, IsKey K.d x.key) ∧ ∀ a v, f a = some v ↔ ∃ x ∈ es.toList, x.key = K.mk a ∧ x.val = v
def fJ (K : Key α) (b : Nat) (f : α → Option Value) : HP := tN fun (x : Array MapEntry × Nat) => fact (yj K f x.1 x.2) • dH b (.map x.1 x.2)
def upd [DecidableEq α] {β : Type} (f : α → Option β) (a : α) (v : β) : α → Option β := fun x => if x = a then some v else f x
theorem yj.same (h : yj K f es clock) {x y : MapEntry} (hx : x ∈ es.toList) (hy : y ∈ es.toList) (e : x.key = y.key) : x = y := by
  have hn := h.1.2.2
  rw [List.Nodup, List.pairwise_map] at hn
  exact uH hn hx hy e
where
  uH : ∀ {l : List MapEntry}, l.Pairwise (fun x y => x.key ≠ y.key) → ∀ {x y : MapEntry}, x ∈ l → y ∈ l → x.key = y.key → x = y
    | [], _, _, _, hx, _, _ => by cases hx
    | z :: l, hp, x, y, hx, hy, e => by
      rw [List.pairwise_cons] at hp
      rcases List.mem_cons.1 hx with hx1 | hx1
      · rcases List.mem_cons.1 hy with hy1 | hy1
        · rw [hx1, hy1]
        · exact absurd (by rw [← hx1]; exact e) (hp.1 _ hy1)
      · rcases List.mem_cons.1 hy with hy1 | hy1
        · exact absurd (by rw [← hy1]; exact e.symm) (hp.1 _ hx1)
        · exact uH hp.2 hx1 hy1 e
theorem Nb : ∀ {l : List MapEntry}, (l.map (·.born)).Nodup → ∀ {x y : MapEntry}, x ∈ l → y ∈ l → x.born = y.born → x = y
  | [], _, _, _, hx, _, _ => by cases hx
  | z :: l, hp, x, y, hx, hy, e => by
    rw [List.map_cons, List.nodup_cons] at hp
    rcases List.mem_cons.1 hx with hx1 | hx1
    · rcases List.mem_cons.1 hy with hy1 | hy1
      · rw [hx1, hy1]
      · exact absurd (List.mem_map.2 ⟨y, hy1, by rw [← hx1]; exact e.symm⟩) hp.1
    · rcases List.mem_cons.1 hy with hy1 | hy1
      · exact absurd (List.mem_map.2 ⟨x, hx1, by rw [← hy1]; exact e⟩) hp.1
      · exact Nb hp.2 hx1 hy1 e
theorem yj.find (h : yj K f es clock) (a : α) : (Instr.findNow K.d (K.mk a) es.toList 0 = some none ∧ f a = none ∧ ∀ x ∈ es.toList, x.key ≠ K.mk a) ∨
    ∃ j e, Instr.findNow K.d (K.mk a) es.toList 0 = some (some (j, e.val)) ∧ es.toList[j]? = some e ∧ e.key = K.mk a ∧ f a = some e.val := by
  rcases findNow_spec (K.key a) es.toList 0 h.2.1 with ⟨h1, h2⟩ | ⟨j, e, h1, h2, h3⟩
  · refine .inl ⟨h1, ?_, h2⟩
    cases hf : f a with
    | none => rfl
    | some v =>
      obtain ⟨x, hx, hk, _⟩ := (h.2.2 a v).1 hf
      exact absurd hk (h2 x hx)
  · refine .inr ⟨j, e, by simpa using h1, h2, h3, (h.2.2 a e.val).2 ⟨e, List.mem_of_getElem? h2, h3, rfl⟩⟩
theorem Ji (K : Key α) : yj K (fun _ => none) #[] 0 := ⟨stamped_empty 0, by simp, by simp⟩
end
section
variable {α : Type} {K : Key α} {f : α → Option Value} {es : Array MapEntry} {clock : Nat} {P : Program} {L : List (Nat × Value)} {w w0 : World} {ty : TypeId} {x y z : Operand} {F : HP} {b it n : Nat} {a : α} {S : List α}
theorem aB.map (H : aB w0 w (fJ K b f • F)) : ∃ es clock, yj K f es clock ∧ aB w0 w (dH b (.map es clock) • F) := by
  obtain ⟨⟨es, clock⟩, H⟩ := H.ng
  obtain ⟨h, H⟩ := H.flat.fact
  exact ⟨es, clock, h, H⟩
theorem aB.Hf (h : yj K f es clock) (H : aB w0 w (dH b (.map es clock) • F)) : aB w0 w (fJ K b f • F) := aB.iH (es, clock) (aB.deep (aB.kE h H))
theorem P7 {t kt et : TypeId} {zv : Value} (ok : Bool) (h : yj K f es clock) (hb : w.heap[b]? = some (.map es clock)) (ht : P.underlying t = some (.map kt et)) (hk : P.underlying kt = some K.d) (hz : (zeroValue et).run P w = .ok zv w) :
    (Instr.lookup t (.map (some b)) (K.mk a) ok).run P w = .ok (if ok then .tuple #[(f a).getD zv, .bool (f a).isSome] else (f a).getD zv) w := by
  rcases h.find a with ⟨h1, h2, _⟩ | ⟨j, e, h1, h2, h3, h4⟩
  · simp [Instr.lookup, run_underlying ht, MapKept.run_getObj_map hb, MapKept.run_checkKey hk (K.key a), MapKept.run_findKey hk h1, hz, Result.andThen, h2]
  · simp [Instr.lookup, run_underlying ht, MapKept.run_getObj_map hb, MapKept.run_checkKey hk (K.key a), MapKept.run_findKey hk h1, Result.andThen, h4]
theorem Di {t kt et : TypeId} {zv : Value} (H : aB w0 w (fJ K b f • F)) (ht : P.underlying t = some (.map kt et)) (hk : P.underlying kt = some K.d) (hz : ∀ w, (zeroValue et).run P w = .ok zv w)
    (hx : ev L x = some (.map (some b))) (hy : ev L y = some (K.mk a)) : Val P L (.lookup t x y false) ty w ((f a).getD zv) w := fun ρ hρ _ _ _ _ => by
  obtain ⟨es, clock, h, H⟩ := H.map
  simp only [execOp, hρ _ _ hx, hρ _ _ hy, Sem.run_bind]
  rw [P7 false h H.get.2 ht hk (hz w)]
  rfl
theorem iJ {t : TypeId} (K : Key α) (H : aB w0 w F) : rM P L (.makeMap t none) ty w fun v w' => ∃ b, v = .map (some b) ∧ aB w0 w' (fJ K b (fun _ => none) • F) := by
  refine oW (v := .map (some w.heap.size)) (w' := w.alloc (.map #[] 0)) ?_ ⟨_, rfl, aB.Hf (Ji K) (H.alloc _)⟩
  intro ρ hρ d pos mJ g
  simp only [execOp, Sem.run_bind, Option.map_none]
  rfl
theorem Jj {o : Obj} {b : Nat} (h : w.heap[b]? = some o) (o' : Obj) : ({ w with heap := w.heap.setIfInBounds b o' } : World).heap[b]? = some o' ∧ ∀ k, k ≠ b → ({ w with heap := w.heap.setIfInBounds b o' } : World).heap[k]? = w.heap[k]? := by
  have hlt := lt_of_block h
  exact ⟨by simp [hlt], fun k hk => by simp [Ne.symm hk]⟩
theorem aB.setB {o : Obj} (H : aB w0 w (dH b o • F)) (o' : Obj) : aB w0 (ChangeMaps.setBlock w b o') (dH b o' • F) :=
  aB.turn (w := w) (w' := ChangeMaps.setBlock w b o') H rfl rfl rfl (by simp [ChangeMaps.setBlock]) (Jj H.get.2 o').1 fun k hk _ => (Jj H.get.2 o').2 k hk
theorem sV [DecidableEq α] {t kt et : TypeId} {v : Value} (H : aB w0 w (fJ K b f • F)) (ht : P.underlying t = some (.map kt et)) (hk : P.underlying kt = some K.d)
    (hx : ev L x = some (.map (some b))) (hy : ev L y = some (K.mk a)) (hz : ev L z = some v) : rM P L (.mapUpdate t x y z) ty w fun _ w' => aB w0 w' (fJ K b (upd f a v) • F) := by
  obtain ⟨es, clock, h, H⟩ := H.map
  have hb := H.get.2
  rcases h.find a with ⟨h1, h2, h3⟩ | ⟨j, e, h1, h2, h3, h4⟩
  · have hrun : (Instr.mapUpdate t (.map (some b)) (K.mk a) v).run P w = .ok () (ChangeMaps.setBlock w b (.map (es.push { key := K.mk a, val := v, born := clock }) (clock + 1))) := by
      simp [ChangeMaps.setBlock, Instr.mapUpdate, run_underlying ht, MapKept.run_getObj_map hb, MapKept.run_checkKey hk (K.key a), MapKept.run_findKey hk h1, MapKept.run_setObj_map _ hb, Result.andThen]
    refine CO (w' := ChangeMaps.setBlock w b (.map (es.push { key := K.mk a, val := v, born := clock }) (clock + 1))) (fun ρ hρ d pos mJ g => ?_) (aB.Hf (es := es.push { key := K.mk a, val := v, born := clock }) (clock := clock + 1) ⟨stamped_push h.1 h3, ?_, ?_⟩ (H.setB _))
    · simp only [execOp, hρ _ _ hx, hρ _ _ hy, hρ _ _ hz, Sem.run_bind]
      rw [hrun]; rfl
    · intro q hq
      simp only [Array.toList_push, List.mem_append, List.mem_singleton] at hq
      rcases hq with hq | rfl
      · exact h.2.1 q hq
      · exact K.key a
    · intro c u
      simp only [Array.toList_push, List.mem_append, List.mem_singleton, upd]
      by_cases hc : c = a
      · subst hc
        rw [if_pos rfl]
        constructor
        · intro hu; cases hu; exact ⟨_, .inr rfl, rfl, rfl⟩
        · rintro ⟨q, hq | rfl, hqk, P8⟩
          · exact absurd hqk (h3 q hq)
          · rw [← P8]
      · rw [if_neg hc, h.2.2 c u]
        constructor
        · rintro ⟨q, hq, hqk, P8⟩; exact ⟨q, .inl hq, hqk, P8⟩
        · rintro ⟨q, hq | rfl, hqk, P8⟩
          · exact ⟨q, hq, hqk, P8⟩
          · exact absurd (K.inj _ _ hqk).symm hc
  · have hj : es[j]? = some e := by simpa using h2
    have hrun : (Instr.mapUpdate t (.map (some b)) (K.mk a) v).run P w = .ok () (ChangeMaps.setBlock w b (.map (es.modify j fun e => { e with key := K.mk a, val := v }) clock)) := by
      simp [ChangeMaps.setBlock, Instr.mapUpdate, run_underlying ht, MapKept.run_getObj_map hb, MapKept.run_checkKey hk (K.key a), MapKept.run_findKey hk h1, hj, h3, MapKept.run_keyThatStays (K.key a), MapKept.run_setObj_map _ hb, Result.andThen]
    have hkey : ∀ e', es[j]? = some e' → ({ e' with key := K.mk a, val := v } : MapEntry).key = e'.key := fun e' he' => by rw [hj] at he'; cases he'; exact h3.symm
    have hst : Stamped (es.modify j fun e => { e with key := K.mk a, val := v }) clock := stamped_modify h.1 _ _ (fun _ _ => rfl) (fun e' _ he' => hkey e' he')
    have hmem : ∀ q, q ∈ (es.modify j fun e => { e with key := K.mk a, val := v }).toList ↔ (q = { e with key := K.mk a, val := v } ∨ q ∈ es.toList ∧ q.key ≠ K.mk a) := by
      intro q
      have hee : e ∈ es.toList := List.mem_of_getElem? h2
      constructor
      · intro hq
        obtain ⟨i, hi⟩ := List.getElem?_of_mem hq
        rw [Array.getElem?_toList, Array.getElem?_modify] at hi
        by_cases hij : j = i
        · subst hij
          rw [if_pos rfl, hj] at hi
          exact .inl (by simpa using hi.symm)
        · rw [if_neg hij] at hi
          have hqm : q ∈ es.toList := Array.mem_toList_iff.2 (Array.mem_of_getElem? hi)
          refine .inr ⟨hqm, fun hqk => ?_⟩
          have he : q = e := h.same hqm hee (hqk.trans h3.symm)
          subst he
          have hn := h.1.2.1
          have h5 : (es.toList.map (·.born))[i]? = some q.born := by rw [List.getElem?_map, Array.getElem?_toList, hi]; rfl
          have h6 : (es.toList.map (·.born))[j]? = some q.born := by rw [List.getElem?_map, h2]; rfl
          have hlt : i < (es.toList.map (·.born)).length := (List.getElem?_eq_some_iff.1 h5).1
          have hlt2 : j < (es.toList.map (·.born)).length := (List.getElem?_eq_some_iff.1 h6).1
          exact hij ((List.getElem?_inj hlt2 hn).1 (h6.trans h5.symm))
      · rintro (rfl | ⟨hq, hqk⟩)
        · apply List.mem_of_getElem? (i := j)
          rw [Array.getElem?_toList, Array.getElem?_modify, if_pos rfl, hj]; rfl
        · obtain ⟨i, hi⟩ := List.getElem?_of_mem hq
          have hij : j ≠ i := by
            rintro rfl
            rw [h2] at hi; cases hi
            exact hqk h3
          apply List.mem_of_getElem? (i := i)
          rw [Array.getElem?_toList, Array.getElem?_modify, if_neg hij]
          rwa [Array.getElem?_toList] at hi
    refine CO (w' := ChangeMaps.setBlock w b (.map (es.modify j fun e => { e with key := K.mk a, val := v }) clock)) (fun ρ hρ d pos mJ g => ?_) (aB.Hf (es := es.modify j fun e => { e with key := K.mk a, val := v }) (clock := clock) ⟨hst, isKey_modify h.2.1 _ _ hkey, ?_⟩ (H.setB _))
    · simp only [execOp, hρ _ _ hx, hρ _ _ hy, hρ _ _ hz, Sem.run_bind]
      rw [hrun]; rfl
    · intro c u
      simp only [hmem, upd]
      by_cases hc : c = a
      · subst hc
        rw [if_pos rfl]
        constructor
        · intro hu; cases hu; exact ⟨_, .inl rfl, rfl, rfl⟩
        · rintro ⟨q, rfl | ⟨hq, hqn⟩, hqk, P8⟩
          · rw [← P8]
          · exact absurd hqk hqn
      · rw [if_neg hc, h.2.2 c u]
        constructor
        · rintro ⟨q, hq, hqk, P8⟩
          exact ⟨q, .inr ⟨hq, fun hqa => hc (K.inj _ _ (hqk.symm.trans hqa))⟩, hqk, P8⟩
        · rintro ⟨q, rfl | ⟨hq, hqn⟩, hqk, P8⟩
          · exact absurd (K.inj _ _ hqk).symm hc
          · exact ⟨q, hq, hqk, P8⟩
def VD (K : Key α) (f : α → Option Value) (es : Array MapEntry) (clock : Nat) (seen : Array Nat) (S : List α) (n : Nat) : Prop :=
  yj K f es clock ∧ (∃ xs : List MapEntry, (∀ x ∈ xs, x ∈ es.toList) ∧ seen.toList = xs.map (·.born) ∧ xs.map (·.key) = S.map K.mk) ∧ (leftOf es seen).size = n
def zo (K : Key α) (b it : Nat) (f : α → Option Value) (S : List α) (n : Nat) : HP := tN fun (x : Array MapEntry × Nat × Array Nat) => fact (VD K f x.1 x.2.1 x.2.2 S n) • dH it (.mapIter (some b) x.2.1 x.2.2 x.2.1) • dH b (.map x.1 x.2.1)
theorem aB.P9 (H : aB w0 w (zo K b it f S n • F)) : ∃ es clock seen, VD K f es clock seen S n ∧ aB w0 w (dH it (.mapIter (some b) clock seen clock) • dH b (.map es clock) • F) := by
  obtain ⟨⟨es, clock, seen⟩, H⟩ := H.ng
  obtain ⟨h, H⟩ := H.flat.fact
  exact ⟨es, clock, seen, h, H.flat⟩
theorem aB.Dj {seen : Array Nat} (h : VD K f es clock seen S n) (H : aB w0 w (dH it (.mapIter (some b) clock seen clock) • dH b (.map es clock) • F)) : aB w0 w (zo K b it f S n • F) :=
  aB.iH (es, clock, seen) (aB.deep (aB.kE h (H.of_eq (by ac_rfl))))
theorem aB.FY (H : aB w0 w (zo K b it f S n • F)) : aB w0 w (fJ K b f • F) := by
  obtain ⟨es, clock, seen, h, H⟩ := H.P9
  exact aB.Hf h.1 H.right
theorem Bj {t kt et : TypeId} (H : aB w0 w (fJ K b f • F)) (ht : P.underlying t = some (.map kt et)) (hx : ev L x = some (.map (some b))) :
    rM P L (.range t x) ty w fun v w' => ∃ it n, v = .pointer (some ⟨it, 0, none⟩) ∧ aB w0 w' (zo K b it f [] n • F) := by
  obtain ⟨es, clock, h, H⟩ := H.map
  refine oW (v := .pointer (some ⟨w.heap.size, 0, none⟩)) (w' := w.alloc (.mapIter (some b) clock #[] clock)) ?_ ⟨_, _, rfl, aB.Dj ⟨h, ⟨[], by simp, rfl, rfl⟩, rfl⟩ (H.alloc _)⟩
  intro ρ hρ d pos mJ g
  simp only [execOp, hρ _ _ hx, Sem.run_bind]
  rw [run_range_map w t kt et b es clock ht H.get.2]
  rfl
def XO (K : Key α) : Option (α × Value) → Value
  | some (a, u) => .tuple #[.bool true, K.mk a, u]
  | none => .tuple #[.bool false]
def Zr (f : α → Option Value) (S : List α) (n : Nat) (S' : List α) (n' : Nat) : Option (α × Value) → Prop
  | some (a, u) => f a = some u ∧ a ∉ S ∧ n' < n ∧ S' = S ++ [a]
  | none => S' = S ∧ n' = n ∧ ∀ a u, f a = some u → a ∈ S
theorem S9 {es : Array MapEntry} {seen : Array Nat} {e : MapEntry} (he : e ∈ (leftOf es seen).toList) : (leftOf es (seen.push e.born)).size < (leftOf es seen).size := by
  unfold leftOf at *
  rw [Array.toList_filter, List.mem_filter] at he
  have e1 : ∀ q : MapEntry → Bool, (es.filter q).size = (es.toList.filter q).length := fun q => by rw [← Array.toList_filter, Array.length_toList]
  rw [e1, e1]
  refine filter_lt _ _ (fun x hx => ?_) e he.2 ?_ es.toList he.1
  · simp only [Bool.not_eq_true', Array.contains_push, Bool.or_eq_false_iff] at hx ⊢
    exact hx.1
  · simp
theorem Dk (H : aB w0 w (zo K b it f S n • F)) (hx : ev L x = some (.pointer (some ⟨it, 0, none⟩))) :
    rM P L (.next x false) ty w fun v w' => ∃ o S' n', v = XO K o ∧ Zr f S n S' n' o ∧ aB w0 w' (zo K b it f S' n' • F) := by
  obtain ⟨es, clock, seen, ⟨hm, ⟨xs, hxs, hse, hS⟩, hn⟩, H⟩ := H.P9
  have hr := H.get.2
  have hb := H.swap.get.2
  rcases run_next_at (P := P) w ty it b clock clock seen es clock hr hb hm.1.1 (Nat.le_refl _) with ⟨h0, hrun⟩ | ⟨e, he, w1, hw1, hrun⟩
  · refine oW (v := XO K none) (w' := w) (fun ρ hρ d pos mJ g => ?_) ⟨none, S, n, rfl, ⟨rfl, rfl, fun a u ha => ?_⟩, aB.Dj ⟨hm, ⟨xs, hxs, hse, hS⟩, hn⟩ H⟩
    · simp only [execOp, hρ _ _ hx, Sem.run_bind]
      rw [hrun]; rfl
    · obtain ⟨y, hy, hyk, _⟩ := (hm.2.2 a u).1 ha
      have hys : seen.contains y.born = true := by
        cases hc : seen.contains y.born with
        | true => rfl
        | false =>
          have hyl : y ∈ (leftOf es seen).toList := by unfold leftOf; rw [Array.toList_filter, List.mem_filter]; exact ⟨hy, by rw [hc]; rfl⟩
          have := List.length_pos_of_mem hyl
          rw [Array.length_toList] at this
          omega
      have XP : y.born ∈ seen.toList := by simpa using hys
      rw [hse] at XP
      obtain ⟨q, hq, hqb⟩ := List.mem_map.1 XP
      have hqy : q = y := Nb hm.1.2.1 (hxs q hq) hy hqb
      subst hqy
      have : K.mk a ∈ S.map K.mk := by rw [← hS]; exact List.mem_map.2 ⟨q, hq, hyk⟩
      obtain ⟨c, hc, hce⟩ := List.mem_map.1 this
      rw [← K.inj _ _ hce]; exact hc
  · have hel : e ∈ es.toList ∧ seen.contains e.born = false := by
      have := he
      unfold leftOf at this
      rw [Array.toList_filter, List.mem_filter] at this
      exact ⟨this.1, by simpa using this.2⟩
    obtain ⟨a, ha⟩ := K.onto e.key (hm.2.1 e hel.1)
    have hfa : f a = some e.val := (hm.2.2 a e.val).2 ⟨e, hel.1, ha.symm, rfl⟩
    have hns : a ∉ S := fun hs => by
      have : K.mk a ∈ S.map K.mk := List.mem_map.2 ⟨a, hs, rfl⟩
      rw [← hS] at this
      obtain ⟨q, hq, hqk⟩ := List.mem_map.1 this
      have hqe : q = e := hm.same (hxs q hq) hel.1 (hqk.trans ha)
      subst hqe
      have h9 : q.born ∈ seen.toList := by rw [hse]; exact List.mem_map.2 ⟨q, hq, rfl⟩
      have h8 : seen.contains q.born = true := by simpa using h9
      rw [hel.2] at h8; cases h8
    have hval : Val P L (.next x false) ty w (XO K (some (a, e.val))) (ChangeMaps.setBlock w1 it (.mapIter (some b) clock (seen.push e.born) clock)) := fun ρ hρ d pos mJ g => by
      simp only [execOp, hρ _ _ hx, Sem.run_bind]
      rw [hrun]
      simp only [XO, ha]
      rfl
    have hheap : w1.heap = w.heap := by rcases hw1 with rfl | rfl <;> rfl
    have hr1 : w1.heap[it]? = some (.mapIter (some b) clock seen clock) := by rw [hheap]; exact hr
    refine oW hval ⟨some (a, e.val), S ++ [a], (leftOf es (seen.push e.born)).size, rfl, ⟨hfa, hns, by rw [← hn]; exact S9 he, rfl⟩, aB.Dj (seen := seen.push e.born) ⟨hm, ⟨xs ++ [e], ?_, ?_, ?_⟩, rfl⟩ (aB.setB (w := w1) (o := .mapIter (some b) clock seen clock) ?_ _)⟩
    · intro q hq
      rcases List.mem_append.1 hq with hq | hq
      · exact hxs q hq
      · rw [List.mem_singleton.1 hq]; exact hel.1
    · rw [Array.toList_push, hse, List.map_append]; rfl
    · rw [List.map_append, List.map_append, hS]; simp [ha]
    · rcases hw1 with rfl | rfl
      · exact H
      · exact H.drew
theorem UF {o : Option (α × Value)} (hx : ev L x = some (XO K o)) : Val P L (.extract x 0) ty w (.bool o.isSome) w := by
  cases o with
  | none => exact zZ hx rfl
  | some p => obtain ⟨a, u⟩ := p; exact zZ hx rfl
theorem Nc {u : Value} (H : aB w0 w (zo K b it f (S ++ [a]) n • F)) (hf : f a = some u) (hx : ev L x = some (.pointer (some ⟨it, 0, none⟩))) : Val P L (.entry x) ty w (.tuple #[K.mk a, u]) w := by
  obtain ⟨es, clock, seen, ⟨hm, ⟨xs, hxs, hse, hS⟩, hn⟩, H⟩ := H.P9
  intro ρ hρ d pos mJ g
  have hne : xs ≠ [] := by
    rintro rfl
    have := congrArg List.length hS
    simp at this
  obtain ⟨ys, e, rfl⟩ : ∃ ys e, xs = ys ++ [e] := ⟨xs.dropLast, xs.getLast hne, (List.dropLast_concat_getLast hne).symm⟩
  have he : e ∈ es.toList := hxs e (by simp)
  have hk : e.key = K.mk a := by
    rw [List.map_append, List.map_append] at hS
    have := List.append_inj_right' hS rfl
    simpa using this
  have hv : e.val = u := by
    have h9 := (hm.2.2 a e.val).2 ⟨e, he, hk, rfl⟩
    rw [hf] at h9; cases h9; rfl
  have hsp : seen = (ys.map (·.born)).toArray.push e.born := by
    apply Array.ext'
    rw [hse]; simp
  have hr := H.get.2
  rw [hsp] at hr
  simp only [execOp, hρ _ _ hx, Sem.run_bind]
  rw [run_entry_at w it b clock _ es clock e hr H.swap.get.2 he hm.1.2.1, hk, hv]
  rfl
end
end Go.Proofs.YtgndbccogcofjaaGreatDoor
end
section
namespace Go.Proofs.YtgndbccogcofjaaGreatDoor
open Go.RowKit
open _root_.Go.Proofs.Tryz
def XQ : List (ByteArray × Nat) := [
  (⟨#[98, 101, 103, 105, 110, 110, 105, 110, 103, 45, 111, 102, 45, 108, 105, 110, 101]⟩, 48),
  (⟨#[101, 110, 100, 45, 111, 102, 45, 108, 105, 110, 101]⟩, 49),
  (⟨#[102, 111, 114, 119, 97, 114, 100, 45, 99, 104, 97, 114]⟩, 50),
  (⟨#[98, 97, 99, 107, 119, 97, 114, 100, 45, 99, 104, 97, 114]⟩, 51),
  (⟨#[102, 111, 114, 119, 97, 114, 100, 45, 119, 111, 114, 100]⟩, 52),
  (⟨#[98, 97, 99, 107, 119, 97, 114, 100, 45, 119, 111, 114, 100]⟩, 53),
  (⟨#[115, 101, 108, 102, 45, 105, 110, 115, 101, 114, 116]⟩, 54),
  (⟨#[116, 97, 98, 45, 105, 110, 115, 101, 114, 116]⟩, 55),
  (⟨#[113, 117, 111, 116, 101, 100, 45, 105, 110, 115, 101, 114, 116]⟩, 56),
  (⟨#[100, 101, 108, 101, 116, 101, 45, 99, 104, 97, 114]⟩, 57),
  (⟨#[98, 97, 99, 107, 119, 97, 114, 100, 45, 100, 101, 108, 101, 116, 101, 45, 99, 104, 97, 114]⟩, 58),
  (⟨#[102, 111, 114, 119, 97, 114, 100, 45, 98, 97, 99, 107, 119, 97, 114, 100, 45, 100, 101, 108, 101, 116, 101, 45, 99, 104, 97, 114]⟩, 59),
  (⟨#[116, 114, 97, 110, 115, 112, 111, 115, 101, 45, 99, 104, 97, 114, 115]⟩, 60),
  (⟨#[116, 114, 97, 110, 115, 112, 111, 115, 101, 45, 119, 111, 114, 100, 115]⟩, 61),
  (⟨#[117, 112, 99, 97, 115, 101, 45, 119, 111, 114, 100]⟩, 62),
  (⟨#[100, 111, 119, 110, 99, 97, 115, 101, 45, 119, 111, 114, 100]⟩, 63),
  (⟨#[99, 97, 112, 105, 116, 97, 108, 105, 122, 101, 45, 119, 111, 114, 100]⟩, 64),
  (⟨#[100, 101, 108, 101, 116, 101, 45, 104, 111, 114, 105, 122, 111, 110, 116, 97, 108, 45, 115, 112, 97, 99, 101]⟩, 65),
  (⟨#[111, 118, 101, 114, 119, 114, 105, 116, 101, 45, 109, 111, 100, 101]⟩, 66),
  (⟨#[107, 105, 108, 108, 45, 108, 105, 110, 101]⟩, 67),
  (⟨#[98, 97, 99, 107, 119, 97, 114, 100, 45, 107, 105, 108, 108, 45, 108, 105, 110, 101]⟩, 68),
  (⟨#[117, 110, 105, 120, 45, 108, 105, 110, 101, 45, 100, 105, 115, 99, 97, 114, 100]⟩, 69),
  (⟨#[107, 105, 108, 108, 45, 119, 104, 111, 108, 101, 45, 108, 105, 110, 101]⟩, 70),
  (⟨#[107, 105, 108, 108, 45, 119, 111, 114, 100]⟩, 71),
  (⟨#[98, 97, 99, 107, 119, 97, 114, 100, 45, 107, 105, 108, 108, 45, 119, 111, 114, 100]⟩, 72),
  (⟨#[117, 110, 105, 120, 45, 119, 111, 114, 100, 45, 114, 117, 98, 111, 117, 116]⟩, 73),
  (⟨#[107, 105, 108, 108, 45, 114, 101, 103, 105, 111, 110]⟩, 74),
  (⟨#[99, 111, 112, 121, 45, 114, 101, 103, 105, 111, 110, 45, 97, 115, 45, 107, 105, 108, 108]⟩, 75),
  (⟨#[99, 111, 112, 121, 45, 98, 97, 99, 107, 119, 97, 114, 100, 45, 119, 111, 114, 100]⟩, 76),
  (⟨#[99, 111, 112, 121, 45, 102, 111, 114, 119, 97, 114, 100, 45, 119, 111, 114, 100]⟩, 77),
  (⟨#[121, 97, 110, 107]⟩, 78),
  (⟨#[121, 97, 110, 107, 45, 112, 111, 112]⟩, 79),
  (⟨#[121, 97, 110, 107, 45, 110, 116, 104, 45, 97, 114, 103]⟩, 80),
  (⟨#[121, 97, 110, 107, 45, 108, 97, 115, 116, 45, 97, 114, 103]⟩, 81),
  (⟨#[115, 101, 116, 45, 109, 97, 114, 107]⟩, 82),
  (⟨#[101, 120, 99, 104, 97, 110, 103, 101, 45, 112, 111, 105, 110, 116, 45, 97, 110, 100, 45, 109, 97, 114, 107]⟩, 83),
  (⟨#[99, 104, 97, 114, 97, 99, 116, 101, 114, 45, 115, 101, 97, 114, 99, 104]⟩, 84),
  (⟨#[99, 104, 97, 114, 97, 99, 116, 101, 114, 45, 115, 101, 97, 114, 99, 104, 45, 98, 97, 99, 107, 119, 97, 114, 100]⟩, 85),
  (⟨#[117, 110, 100, 111]⟩, 86),
  (⟨#[114, 101, 118, 101, 114, 116, 45, 108, 105, 110, 101]⟩, 87),
  (⟨#[100, 105, 103, 105, 116, 45, 97, 114, 103, 117, 109, 101, 110, 116]⟩, 88),
  (⟨#[117, 110, 105, 118, 101, 114, 115, 97, 108, 45, 97, 114, 103, 117, 109, 101, 110, 116]⟩, 89),
  (⟨#[112, 114, 101, 118, 105, 111, 117, 115, 45, 104, 105, 115, 116, 111, 114, 121]⟩, 90),
  (⟨#[110, 101, 120, 116, 45, 104, 105, 115, 116, 111, 114, 121]⟩, 91),
  (⟨#[98, 101, 103, 105, 110, 110, 105, 110, 103, 45, 111, 102, 45, 104, 105, 115, 116, 111, 114, 121]⟩, 92),
  (⟨#[101, 110, 100, 45, 111, 102, 45, 104, 105, 115, 116, 111, 114, 121]⟩, 93)]
def VE (f : ByteArray → Option Value) (x : ByteArray × Nat) : ByteArray → Option Value := upd f x.1 (.func (.func x.2) #[] #[])
def wP : ByteArray → Option Value := XQ.foldl VE fun _ => none
theorem Ou {l : List (ByteArray × Nat)} : ∀ {f : ByteArray → Option Value} {n : ByteArray} {v : Value}, (l.foldl VE f) n = some v → f n = some v ∨ ∃ k, k ∈ l.map (·.2) ∧ v = .func (.func k) #[] #[] := by
  induction l with
  | nil => intro f n v h; exact .inl h
  | cons x l ih =>
    intro f n v h
    rw [List.foldl_cons] at h
    rcases ih h with h | ⟨k, hk, e⟩
    · unfold VE upd at h
      split at h
      · cases h; exact .inr ⟨x.2, List.mem_cons_self .., rfl⟩
      · exact .inl h
    · exact .inr ⟨k, List.mem_cons_of_mem _ hk, e⟩
theorem FZ {n : ByteArray} {v : Value} (h : wP n = some v) : ∃ k, k ∈ XQ.map (·.2) ∧ v = .func (.func k) #[] #[] := by
  rcases Ou h with h | h
  · cases h
  · exact h
section
variable {P : Program} {L : List (Nat × Value)} {w0 w : World} {F : HP} {ty : TypeId} {α : Type} {K : Key α} {f : α → Option Value} {a : α} {b : Nat} {x y z : Operand}
theorem bZ [DecidableEq α] {t kt et : TypeId} {v : Value} (H : aB w0 w (fJ K b f • F)) (ht : P.underlying t = some (.map kt et)) (hk : P.underlying kt = some K.d)
    (hx : ev L x = some (.map (some b))) (hy : ev L y = some (K.mk a)) (hz : ev L z = some v) : rM P L (.insert t x y z) ty w fun _ w' => aB w0 w' (fJ K b (upd f a v) • F) := sV (ty := ty) (y := y) (z := z) H ht hk hx hy hz
def yM : Value → Bool
  | .nilFunc => true
  | _ => false
theorem Dl {t t' : TypeId} {p r : Array TypeId} {va : Bool} {v : Value} (ht : P.underlying t = some (.func p r va)) (hx : ev L x = some v) (hy : ev L y = some .nilFunc) (hv : v = .nilFunc ∨ ∃ f a b, v = .func f a b) : Val P L (.binOp .eql t x y t') ty w (.bool (yM v)) w := fun ρ hρ _ _ _ _ => by
  simp only [execOp, hρ _ _ hx, hρ _ _ hy]
  rcases hv with rfl | ⟨f, a, b, rfl⟩
  · have h1 : (eqGuard .eql t x y .nilFunc .nilFunc).run P w = .ok () w := by unfold eqGuard; rfl
    have h2 : (Op.equal t .nilFunc .nilFunc).run P w = .ok true w := xA fun d => by simp [Op.equalIn, run_underlying ht]
    have h3 : binOp .eql t .nilFunc .nilFunc = (do pure (.bool (← Op.equal t .nilFunc .nilFunc))) := rfl
    simp only [Sem.run_bind, h1, Result.andThen, h3, h2]
    simp [yM]
  · have h1 : (eqGuard .eql t x y (.func f a b) .nilFunc).run P w = .ok () w := by unfold eqGuard; rfl
    have h2 : (Op.equal t (.func f a b) .nilFunc).run P w = .ok false w := xA fun d => by simp [Op.equalIn, run_underlying ht]
    have h3 : binOp .eql t (.func f a b) .nilFunc = (do pure (.bool (← Op.equal t (.func f a b) .nilFunc))) := rfl
    simp only [Sem.run_bind, h1, Result.andThen, h3, h2]
    simp [yM]
end
section
variable {w0 w : World} {F : HP}
theorem XR (n : ByteArray) : (wP n).getD .nilFunc = .nilFunc ∨ ∃ f a b, (wP n).getD .nilFunc = .func f a b := by
  cases h : wP n with
  | none => exact .inl rfl
  | some v => obtain ⟨k, _, rfl⟩ := FZ h; exact .inr ⟨_, _, _, rfl⟩
theorem zq (H : aB w0 w F) : fG prog 25 #[] w fun v w' => ∃ b, v = .map (some b) ∧ aB w0 w' (fJ XM b wP • F) := by
 refine gG func25 ntmps25 ?_
 dsimp only [bf, Nat.reduceAdd]
 refine ay (ah (aV rfl (aA (aj (ay (ah (iy (iJ XM H) ?_)))))))
 rintro _ w1 ⟨b1, rfl, H1⟩
 refine aJ (bZ H1 underlying72 underlying9 rfl rfl rfl) ?_
 rintro _ w2 H2
 refine aJ (bZ H2 underlying72 underlying9 rfl rfl rfl) ?_
 rintro _ w3 H3
 refine aJ (bZ H3 underlying72 underlying9 rfl rfl rfl) ?_
 rintro _ w4 H4
 refine aJ (bZ H4 underlying72 underlying9 rfl rfl rfl) ?_
 rintro _ w5 H5
 refine aJ (bZ H5 underlying72 underlying9 rfl rfl rfl) ?_
 rintro _ w6 H6
 refine aJ (bZ H6 underlying72 underlying9 rfl rfl rfl) ?_
 rintro _ w7 H7
 refine aJ (bZ H7 underlying72 underlying9 rfl rfl rfl) ?_
 rintro _ w8 H8
 refine aJ (bZ H8 underlying72 underlying9 rfl rfl rfl) ?_
 rintro _ w9 H9
 refine aJ (bZ H9 underlying72 underlying9 rfl rfl rfl) ?_
 rintro _ w10 oZ
 refine aJ (bZ oZ underlying72 underlying9 rfl rfl rfl) ?_
 rintro _ KG yt
 refine aJ (bZ yt underlying72 underlying9 rfl rfl rfl) ?_
 rintro _ w12 xR
 refine aJ (bZ xR underlying72 underlying9 rfl rfl rfl) ?_
 rintro _ Po xE
 refine aJ (bZ xE underlying72 underlying9 rfl rfl rfl) ?_
 rintro _ MX yK
 refine aJ (bZ yK underlying72 underlying9 rfl rfl rfl) ?_
 rintro _ Pq yu
 refine aJ (bZ yu underlying72 underlying9 rfl rfl rfl) ?_
 rintro _ w16 tX
 refine aJ (bZ tX underlying72 underlying9 rfl rfl rfl) ?_
 rintro _ VF Hg
 refine aJ (bZ Hg underlying72 underlying9 rfl rfl rfl) ?_
 rintro _ SL ER
 refine aJ (bZ ER underlying72 underlying9 rfl rfl rfl) ?_
 rintro _ Tc BJ
 refine aJ (bZ BJ underlying72 underlying9 rfl rfl rfl) ?_
 rintro _ SN yh
 refine aJ (bZ yh underlying72 underlying9 rfl rfl rfl) ?_
 rintro _ UG qF
 refine aJ (bZ qF underlying72 underlying9 rfl rfl rfl) ?_
 rintro _ XD G6
 refine aJ (bZ G6 underlying72 underlying9 rfl rfl rfl) ?_
 rintro _ Td y5
 refine aJ (bZ y5 underlying72 underlying9 rfl rfl rfl) ?_
 rintro _ XE Jd
 refine aJ (bZ Jd underlying72 underlying9 rfl rfl rfl) ?_
 rintro _ XT Nh
 refine aJ (bZ Nh underlying72 underlying9 rfl rfl rfl) ?_
 rintro _ Xa KX
 refine aJ (bZ KX underlying72 underlying9 rfl rfl rfl) ?_
 rintro _ Xb Pv
 refine aJ (bZ Pv underlying72 underlying9 rfl rfl rfl) ?_
 rintro _ XU Px
 refine aJ (bZ Px underlying72 underlying9 rfl rfl rfl) ?_
 rintro _ Zt Qa
 refine aJ (bZ Qa underlying72 underlying9 rfl rfl rfl) ?_
 rintro _ Y6 Ov
 refine aJ (bZ Ov underlying72 underlying9 rfl rfl rfl) ?_
 rintro _ Xc Jk
 refine aJ (bZ Jk underlying72 underlying9 rfl rfl rfl) ?_
 rintro _ w32 Nj
 refine aJ (bZ Nj underlying72 underlying9 rfl rfl rfl) ?_
 rintro _ XV Jl
 refine aJ (bZ Jl underlying72 underlying9 rfl rfl rfl) ?_
 rintro _ Y7 Py
 refine aJ (bZ Py underlying72 underlying9 rfl rfl rfl) ?_
 rintro _ Zu UH
 refine aJ (bZ UH underlying72 underlying9 rfl rfl rfl) ?_
 rintro _ Zv VG
 refine aJ (bZ VG underlying72 underlying9 rfl rfl rfl) ?_
 rintro _ w37 XW
 refine aJ (bZ XW underlying72 underlying9 rfl rfl rfl) ?_
 rintro _ Xd Tf
 refine aJ (bZ Tf underlying72 underlying9 rfl rfl rfl) ?_
 rintro _ Zw Xf
 refine aJ (bZ Xf underlying72 underlying9 rfl rfl rfl) ?_
 rintro _ w40 UJ
 refine aJ (bZ UJ underlying72 underlying9 rfl rfl rfl) ?_
 rintro _ Zx UK
 refine aJ (bZ UK underlying72 underlying9 rfl rfl rfl) ?_
 rintro _ Zy UL
 refine aJ (bZ UL underlying72 underlying9 rfl rfl rfl) ?_
 rintro _ Y8 UM
 refine aJ (bZ UM underlying72 underlying9 rfl rfl rfl) ?_
 rintro _ Zz Ti
 refine aJ (bZ Ti underlying72 underlying9 rfl rfl rfl) ?_
 rintro _ XY RX
 refine aJ (bZ RX underlying72 underlying9 rfl rfl rfl) ?_
 rintro _ ZA VH
 refine aJ (bZ VH underlying72 underlying9 rfl rfl rfl) ?_
 rintro _ ZB UN
 refine aN rfl (aV rfl (aA (aj (aI (aH (.inl rfl) results25 rfl ?_)))))
 exact ⟨_, rfl, UN⟩
end
end Go.Proofs.YtgndbccogcofjaaGreatDoor
end
