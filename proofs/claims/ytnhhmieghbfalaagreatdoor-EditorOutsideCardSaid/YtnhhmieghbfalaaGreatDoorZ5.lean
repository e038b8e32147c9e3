import Derived.Test.YtnhhmieghbfalaaGreatDoorZ4
import Derived.Test.YtnhhmieghbfalaaGreatDoorZ3
import Derived.ProofKit
import Derived.HandedShaped
import Derived.LaidMore
import Derived.OpenShut
import Derived.Stop.Joined
import Derived.Test.YtnhhmieghbfalaaGreatDoorRows
import Derived.JoinedCond
import Derived.Deep.CondSized
import Derived.Test.YtnhhmieghbfalaaGreatDoorTie
import Derived.Lay
import Derived.Deep.DeepHandedRow
import Derived.Test.YtnhhmieghbfalaaGreatDoorProg
import Derived.Lib.RuneBytes
import Derived.Laws.BitsLemmas
set_option linter.unusedSimpArgs false
set_option linter.unusedVariables false
/- Texts of mine, joined, their names in short: Lift Own Upto ELaid Fun Imm Tab UtfM Bits. -/
section
namespace Go.Proofs.YtnhhmieghbfalaaGreatDoor
open Go.ChangeShapes Go.WideShapes Go.ChangeAt Go.RowKit
section
variable {H : Type} {enc : TypeId × Value → H} {P : Program} {W : World} {B : Nat}
def Hu (B : Nat) (enc : TypeId × Value → H) (P : Program) (W : World) (t : TypeId) (cs : List Value) : Prop :=
  ∃ fuel d p, DataW.trod enc P W 0 (fun _ => true) true fuel t cs = some (d, p) ∧ ∀ n ∈ d.weights P t, n ≤ B
abbrev In (enc : TypeId × Value → H) (P : Program) (W : World) (t : TypeId) (cs : List Value) : Prop := Hu reachBytes enc P W t cs
theorem Hu.bool {t : TypeId} {cs : List Value} (ht : P.underlying t = some .bool) (h : Hu B enc P W t cs) : ∃ b, cs = [.bool b] := by
  obtain ⟨fuel, d, p, h1, -⟩ := h; obtain ⟨b, e, -⟩ := DataW.trod_bool ht h1; exact ⟨b, e⟩
theorem Hu.int {t : TypeId} {cs : List Value} {k : IntKind} (ht : P.underlying t = some (.int k)) (h : Hu B enc P W t cs) : ∃ n, cs = [.int k n] ∧ (Lit.int k n).wf = true := by
  obtain ⟨fuel, d, p, h1, -⟩ := h; obtain ⟨n, e, -, hw⟩ := DataW.trod_int ht h1; exact ⟨n, e, hw⟩
theorem Hu.string {t : TypeId} {cs : List Value} (ht : P.underlying t = some .string) (h : Hu B enc P W t cs) : ∃ s : ByteArray, cs = [.string s] ∧ s.size ≤ B := by
  obtain ⟨fuel, d, p, h1, hw⟩ := h; obtain ⟨s, e, hx, hm⟩ := DataW.trod_string ht h1
  simp only [Prod.mk.injEq] at hx
  obtain ⟨rfl, -⟩ := hx
  have h2 := hw s.data.toList.length (by simp only [DataW.weights, List.mem_singleton])
  rw [Array.length_toList] at h2
  exact ⟨s, e, h2⟩
theorem PX {ts : List TypeId} {ds : List (DataW H)} {j : Nat} {t : TypeId} {d : DataW H} (ht : ts[j]? = some t) (hd : ds[j]? = some d) (h : ∀ n ∈ DataW.weightsEach P ts ds, n ≤ B) : ∀ n ∈ d.weights P t, n ≤ B :=
  fun n hn => h n (DataW.weights_mem_each ht hd n hn)
theorem QX {e : TypeId} {ds : List (DataW H)} {d : DataW H} (hd : d ∈ ds) (h : ∀ n ∈ DataW.weightsAll P e ds, n ≤ B) : ∀ n ∈ d.weights P e, n ≤ B := by
  intro n hn
  induction ds with
  | nil => cases hd
  | cons x r ih =>
    simp only [DataW.weightsAll, List.mem_append] at h
    rcases List.mem_cons.1 hd with rfl | hd
    · exact h n (.inl hn)
    · exact ih hd fun n hn => h n (.inr hn)
theorem Hu.struct {t : TypeId} {fs : Array Field} {cs : List Value} (ht : P.underlying t = some (.struct fs)) (h : Hu B enc P W t cs) :
    cs.length = P.cellsOf t ∧ ∀ (i : Nat) (f : Field), fs[i]? = some f → Hu B enc P W f.type ((cs.drop f.offset).take (P.cellsOf f.type)) := by
  obtain ⟨fuel, d, p, h1, hw⟩ := h
  obtain ⟨xs, n, -, hx, hl, hl2, hf⟩ := DataW.trod_struct ht h1
  simp only [Prod.mk.injEq] at hx
  obtain ⟨rfl, -⟩ := hx
  refine ⟨hl, fun i f hi => ?_⟩
  have hlt : i < xs.length := by rw [hl2]; exact (Array.getElem?_eq_some_iff.1 hi).1
  refine ⟨n, xs[i].1, xs[i].2, by rw [hf i f hi, List.getElem?_eq_getElem hlt], ?_⟩
  simp only [DataW.weights, ht] at hw
  exact PX (ts := fs.toList.map (·.type)) (ds := xs.map (·.1)) (j := i) (by simp [hi]) (by simp [List.getElem?_eq_getElem hlt]) hw
theorem Hu.slice {t e : TypeId} {cs : List Value} (ht : P.underlying t = some (.slice e)) (hz : 0 < P.cellsOf e) (h : Hu B enc P W t cs) :
    ∃ v n xs, cs = [v] ∧ Rd W (P.cellsOf e) v n xs ∧ n * P.bytesOf e ≤ B ∧ ∀ k, k < n → Hu B enc P W e ((xs.drop (k * P.cellsOf e)).take (P.cellsOf e)) := by
  obtain ⟨fuel, d, p, h1, hw⟩ := h
  rcases DataW.trod_slice ht h1 with ⟨rfl, hx⟩ | ⟨a, len, cap, elems, rest, n, -, rfl, hx, -, hl, hm, hel, hget, -⟩
  · exact ⟨_, 0, [], rfl, ⟨by simp, none, 0, rfl, by simp, by decide, fun h => absurd h (by decide)⟩, by simp, fun k hk => absurd hk (by omega)⟩
  simp only [Prod.mk.injEq] at hx
  obtain ⟨rfl, -⟩ := hx
  simp only [DataW.weights, ht, List.mem_cons, List.mem_append] at hw
  have h2 := hw _ (.inl rfl)
  simp only [List.length_map] at h2
  have key : ∀ i, i < len → ∃ cs, W.cells? 0 (a.add (i * P.cellsOf e)) (P.cellsOf e) = some cs ∧ Hu B enc P W e cs := by
    intro i hi
    have h3 := hget i hi
    have hi2 : i < elems.length := by omega
    rw [List.getElem?_eq_getElem hi2] at h3
    obtain ⟨cs, e1, e2⟩ := Option.bind_eq_some_iff.1 h3
    exact ⟨cs, e1, n, elems[i].1, elems[i].2, e2, fun m hm => QX (ds := elems.map (·.1)) (List.mem_map.2 ⟨elems[i], List.getElem_mem hi2, rfl⟩) (fun n hn => hw n (.inr (.inl hn))) m hm⟩
  obtain ⟨C, hC⟩ : ∃ C : Nat → List Value, ∀ i, i < len → W.cells? 0 (a.add (i * P.cellsOf e)) (P.cellsOf e) = some (C i) ∧ Hu B enc P W e (C i) := by
    classical
    exact ⟨fun i => if hi : i < len then Classical.choose (key i hi) else [], fun i hi => by simp only [dif_pos hi]; exact Classical.choose_spec (key i hi)⟩
  have spot : 0 < len → a.spot = none := by
    intro hp
    obtain ⟨-, -, hc⟩ := World.cells?_some (hC 0 hp).1
    have h3 := hc 0 hz
    have hlen := (World.cells?_some (hC 0 hp).1).2.1
    rw [List.getElem?_eq_getElem (by omega)] at h3
    simp only [Nat.zero_mul, Addr.add, if_true] at h3
    unfold World.cell? at h3
    cases hs : a.spot with
    | none => rfl
    | some q => rw [hs] at h3; split at h3 <;> simp at h3
  let xs : List Value := (List.range len).flatMap C
  have hlC : ∀ i, i < len → (C i).length = P.cellsOf e := fun i hi => (World.cells?_some (hC i hi).1).2.1
  have adw : ∀ m, m ≤ len → ((List.range m).flatMap C).length = m * P.cellsOf e := by
    intro m hm
    induction m with
    | zero => simp
    | succ m ih => rw [List.range_succ, List.flatMap_append, List.length_append, ih (by omega)]; simp [hlC m (by omega), Nat.succ_mul]
  have hcut : ∀ k, k < len → ((xs.drop (k * P.cellsOf e)).take (P.cellsOf e)) = C k := by
    intro k hk
    show ((((List.range len).flatMap C).drop (k * P.cellsOf e)).take (P.cellsOf e)) = C k
    have e1 : List.range len = List.range k ++ [k] ++ (List.range (len - (k + 1))).map ((k + 1) + ·) := by
      have := @List.range_add (k + 1) (len - (k + 1))
      rw [show k + 1 + (len - (k + 1)) = len by omega] at this
      rw [this, List.range_succ]
    have hk1 := adw k (by omega)
    have hck := hlC k hk
    rw [e1, List.flatMap_append, List.flatMap_append, List.append_assoc]
    rw [List.drop_append, hk1]
    simp [hk1, List.take_append, hck]
  refine ⟨_, len, xs, rfl, ⟨adw len (Nat.le_refl _), some a, cap, rfl, hl, by unfold maxLen at hm; omega, fun hp => ⟨a.block, a.off, ?_, fun j hj => ?_⟩⟩, ?_, fun k hk => ?_⟩
  · have := spot hp; cases a; simp_all
  · have hk : j / P.cellsOf e < len := Nat.div_lt_of_lt_mul (by rw [Nat.mul_comm]; exact hj)
    have hr : j % P.cellsOf e < P.cellsOf e := Nat.mod_lt _ hz
    have hc := (World.cells?_some (hC _ hk).1).2.2 _ hr
    have e0 : a = ⟨a.block, a.off, none⟩ := by have := spot hp; cases a; simp_all
    have ej : j / P.cellsOf e * P.cellsOf e + j % P.cellsOf e = j := by rw [Nat.mul_comm]; exact Nat.div_add_mod ..
    rw [e0, Ci, Ci, Nat.add_assoc, ej] at hc
    rw [hc, ← hcut _ hk, List.getElem?_take_of_lt hr, List.getElem?_drop, ej, List.getD_eq_getElem?_getD, List.getElem?_eq_getElem (by show j < ((List.range len).flatMap C).length; rw [adw len (Nat.le_refl _)]; exact hj)]
    rfl
  · have : len * P.bytesOf e ≤ (elems.length + rest.length) * P.bytesOf e := Nat.mul_le_mul_right _ (by omega)
    omega
  · rw [hcut k hk]; exact (hC k hk).2
theorem Hu.ints {t e : TypeId} {k : IntKind} {cs : List Value} (ht : P.underlying t = some (.slice e)) (he : P.underlying e = some (.int k)) (hc : P.cellsOf e = 1) (h : Hu B enc P W t cs) :
    ∃ v l, cs = [v] ∧ mP W k v l ∧ l.length * P.bytesOf e ≤ B ∧ ∀ n ∈ l, (Lit.int k n).wf = true := by
  obtain ⟨v, n, xs, e1, h1, h2, h3⟩ := h.slice ht (by omega)
  rw [hc] at h1 h3
  have hx : ∀ i, i < n → ∃ m, xs[i]? = some (.int k m) ∧ (Lit.int k m).wf = true := by
    intro i hi
    obtain ⟨m, e2, hw⟩ := (h3 i hi).int he
    have hl := h1.len
    refine ⟨m, ?_, hw⟩
    have := congrArg (fun l => l[0]?) e2
    simpa [List.getElem?_take, List.getElem?_drop] using this
  let l := xs.map fun | .int _ m => m | _ => 0
  have hl : l.length = n := by simp only [l, List.length_map]; have := h1.len; omega
  have hxs : xs = l.map (Value.int k) := by
    apply List.ext_getElem?
    intro i
    by_cases hi : i < n
    · obtain ⟨m, e2, -⟩ := hx i hi
      simp [l, e2]
    · have : xs.length ≤ i := by have := h1.len; omega
      simp [l, List.getElem?_eq_none this]
  refine ⟨v, l, e1, by rw [mP, hl, ← hxs]; exact h1, by rw [hl]; exact h2, fun m hm => ?_⟩
  obtain ⟨i, hi⟩ := List.getElem?_of_mem hm
  have hi2 : i < n := by have := (List.getElem?_eq_some_iff.1 hi).1; omega
  obtain ⟨m', e2, hw⟩ := hx i hi2
  simp only [l, List.getElem?_map, e2, Option.map_some, Option.some.injEq] at hi
  subst hi
  exact hw
theorem afV {α : Type _} [Inhabited α] {n : Nat} {p : Nat → α → Prop} (h : ∀ k, k < n → ∃ l, p k l) (d : α) : ∃ ls : List α, ls.length = n ∧ ∀ k, k < n → p k (ls.getD k d) := by
  induction n with
  | zero => exact ⟨[], rfl, fun k hk => absurd hk (by omega)⟩
  | succ n ih =>
    obtain ⟨ls, h1, h2⟩ := ih fun k hk => h k (by omega)
    obtain ⟨l, hl⟩ := h n (by omega)
    refine ⟨ls ++ [l], by simp [h1], fun k hk => ?_⟩
    by_cases hkn : k < n
    · rw [List.getD_eq_getElem?_getD, List.getElem?_append_left (by omega), ← List.getD_eq_getElem?_getD]; exact h2 k hkn
    · obtain rfl : k = n := by omega
      rw [List.getD_eq_getElem?_getD, List.getElem?_append_right (by omega), h1, Nat.sub_self]; exact hl
theorem Hu.row {t e q : TypeId} {k : IntKind} {cs : List Value} (ht : P.underlying t = some (.slice e)) (he : P.underlying e = some (.slice q)) (hq : P.underlying q = some (.int k)) (ce : P.cellsOf e = 1) (cq : P.cellsOf q = 1) (h : Hu B enc P W t cs) :
    ∃ (v : Value) (vs : List Value) (ls : List (List Int)), cs = [v] ∧ Rd W 1 v ls.length vs ∧ ls.length * P.bytesOf e ≤ B ∧ ∀ j, j < ls.length → mP W k (vs.getD j undef) (ls.getD j []) ∧ (ls.getD j []).length * P.bytesOf q ≤ B ∧ ∀ n ∈ ls.getD j [], (Lit.int k n).wf = true := by
  obtain ⟨v, n, vs, e1, h1, h2, h3⟩ := h.slice ht (by omega)
  rw [ce] at h1 h3
  obtain ⟨ls, rfl, hls⟩ := afV (n := n) (p := fun j l => mP W k (vs.getD j undef) l ∧ l.length * P.bytesOf q ≤ B ∧ ∀ n ∈ l, (Lit.int k n).wf = true) (fun j hj => by
    obtain ⟨u, l, e3, g4, hb4, hw⟩ := (h3 j hj).ints he hq cq
    obtain rfl : vs.getD j undef = u := by
      have := congrArg (fun l => l[0]?) e3
      simp [List.getElem?_drop] at this
      rw [List.getD_eq_getElem?_getD, this]; rfl
    exact ⟨l, g4, hb4, hw⟩) []
  exact ⟨v, vs, ls, e1, h1, h2, hls⟩
theorem OZ : ∀ {ts : List TypeId} {vs : List Value} {ds : List (DataW H)} {p : List MemPlace}, DataW.TrodAll enc P W 0 (fun _ => true) true ts vs ds p → (∀ n ∈ DataW.weightsEach P ts ds, n ≤ B) →
    vs.length = ts.length ∧ ds.length = ts.length ∧ ∀ (j : Nat) t v, ts[j]? = some t → vs[j]? = some v → Hu B enc P W t v.cells.toList
  | [], _, _, _, h, _ => by obtain ⟨rfl, rfl, rfl⟩ := trodAll_nil h; simp
  | t :: ts, _, _, _, h, hw => by
    obtain ⟨v, vs1, d, ds1, a, b, rfl, rfl, rfl, ⟨fuel, h1⟩, h2⟩ := trodAll_cons h
    simp only [DataW.weightsEach, List.mem_append] at hw
    obtain ⟨i1, i2, i3⟩ := OZ h2 fun n hn => hw n (.inr hn)
    refine ⟨by simp [i1], by simp [i2], fun j t' v' ht hv => ?_⟩
    cases j with
    | zero =>
      simp only [List.getElem?_cons_zero, Option.some.injEq] at ht hv
      subst ht; subst hv
      exact ⟨fuel, d, a, h1, fun n hn => hw n (.inl hn)⟩
    | succ j => exact i3 j t' v' (by simpa using ht) (by simpa using hv)
def Jk (B : Nat) (enc : TypeId × Value → H) (P : Program) (W : World) : List TypeId → List Value → Prop
  | [], [] => True
  | t :: ts, v :: vs => (∃ base, Value.okWide P W .any base t v) ∧ Hu B enc P W t v.cells.toList ∧ Jk B enc P W ts vs
  | _, _ => False
abbrev Ins (enc : TypeId × Value → H) (P : Program) (W : World) (ts : List TypeId) (vs : List Value) : Prop := Jk reachBytes enc P W ts vs
theorem Jk.mk : ∀ {ts : List TypeId} {vs : List Value}, vs.length = ts.length → (∀ (j : Nat) t v, ts[j]? = some t → vs[j]? = some v → (∃ base, Value.okWide P W .any base t v) ∧ Hu B enc P W t v.cells.toList) → Jk B enc P W ts vs
  | [], [], _, _ => trivial
  | t :: ts, v :: vs, h, k => ⟨(k 0 t v rfl rfl).1, (k 0 t v rfl rfl).2, Jk.mk (by simpa using h) fun j t' v' ht hv => k (j + 1) t' v' (by simpa using ht) (by simpa using hv)⟩
  | [], _ :: _, h, _ => by simp at h
  | _ :: _, [], h, _ => by simp at h
theorem Jk.nil {args : Array Value} (h : Jk B enc P W [] args.toList) : args = #[] := by rcases args with ⟨_ | ⟨_, _⟩⟩ <;> simp_all [Jk]
theorem Jk.cons {t : TypeId} {ts : List TypeId} {vs : List Value} (h : Jk B enc P W (t :: ts) vs) : ∃ v vs', vs = v :: vs' ∧ (∃ base, Value.okWide P W .any base t v) ∧ Hu B enc P W t v.cells.toList ∧ Jk B enc P W ts vs' := by
  cases vs with
  | nil => exact h.elim
  | cons v vs' => exact ⟨v, vs', rfl, h⟩
theorem Jk.nil' {vs : List Value} (h : Jk B enc P W [] vs) : vs = [] := by cases vs with | nil => rfl | cons _ _ => exact h.elim
theorem Jk.one {args : Array Value} {t : TypeId} (h : Jk B enc P W [t] args.toList) : ∃ v, args = #[v] ∧ (∃ base, Value.okWide P W .any base t v) ∧ Hu B enc P W t v.cells.toList := by
  obtain ⟨v, vs, e, h1, h2, h3⟩ := h.cons; obtain rfl := h3.nil'; exact ⟨v, by cases args; simp_all, h1, h2⟩
theorem Jk.three {args : Array Value} {t t' t'' : TypeId} (h : Jk B enc P W [t, t', t''] args.toList) : ∃ v v' v'', args = #[v, v', v''] ∧ ((∃ base, Value.okWide P W .any base t v) ∧ Hu B enc P W t v.cells.toList) ∧ ((∃ base, Value.okWide P W .any base t' v') ∧ Hu B enc P W t' v'.cells.toList) ∧ ((∃ base, Value.okWide P W .any base t'' v'') ∧ Hu B enc P W t'' v''.cells.toList) := by
  obtain ⟨v, vs, e, h1, h2, h3⟩ := h.cons; obtain ⟨v', vs', rfl, h1', h2', h3'⟩ := h3.cons; obtain ⟨v'', vs'', rfl, akm, akn, ako⟩ := h3'.cons; obtain rfl := ako.nil'
  exact ⟨v, v', v'', by cases args; simp_all, ⟨h1, h2⟩, ⟨h1', h2'⟩, ⟨akm, akn⟩⟩
theorem O4 {base : Nat} {sp : Nat → Bool} {held : Bool} : ∀ {ts : List TypeId} {vs : List Value} {ds : List (DataW H)} {p : List MemPlace}, DataW.TrodAll enc P W base sp held ts vs ds p → vs.length = ts.length ∧ ds.length = ts.length
  | [], _, _, _, h => by obtain ⟨rfl, rfl, rfl⟩ := trodAll_nil h; simp
  | t :: ts, _, _, _, h => by
    obtain ⟨v, vs1, d, ds1, a, b, rfl, rfl, rfl, _, h2⟩ := trodAll_cons h
    obtain ⟨i1, i2⟩ := O4 h2
    simp [i1, i2]
theorem MK (hl : laidOutB P = true) {W' : World} (hb : Below W.heap.size W W') : ∀ {ts : List TypeId} {vs : List Value} {ds : List (DataW H)} {p : List MemPlace}, (∀ t ∈ ts, P.readableRec t = true ∧ t < P.types.size) →
    DataW.TrodAll enc P W 0 (fun _ => true) true ts vs ds p → (∀ x ∈ p, x.block < W.heap.size) → DataW.TrodAll enc P W' 0 (fun b => decide (b < W.heap.size)) true ts vs ds p
  | [], _, _, _, _, h, _ => by obtain ⟨rfl, rfl, rfl⟩ := trodAll_nil h; exact trodAll_mk0
  | t :: ts, _, _, _, ht, h, hp => by
    obtain ⟨v, vs1, d, ds1, a, b, rfl, rfl, rfl, h1, h2⟩ := trodAll_cons h
    have hq := ht t (by simp)
    exact ⟨a, b, Below.trod hl hq.1 hq.2 h1 hb (fun x hx => hp x (by simp [hx])), MK hl hb (fun t' h' => ht t' (by simp [h'])) h2 (fun x hx => hp x (by simp [hx])), rfl⟩
end
theorem acf {α : Type _} {l : List α} (h : l.length = 3) : ∃ a b c, l = [a, b, c] := by match l, h with | [a, b, c], _ => exact ⟨a, b, c, rfl⟩
theorem adx {H : Type} {enc : TypeId × Value → H} {P : Program} {fn : Func} {s : ChangeSpec} {tb : TypeId} {ts : List TypeId} (laid : laidOutB P = true) (hpn : fn.params.toList = ts) (hres : fn.resultTypes = #[tb]) (htb : P.underlying tb = some .bool) (hvars : s.vars = [])
    (hts : ts.all (fun t => P.readableRec t && decide (t < P.types.size)) = true) (hspec : ∀ ds : List (DataW H), ds.length = ts.length → s.fn H ds = { results := [.lit (.bool true)], args := ds })
    {W W' : World} {args : Array Value} {ds gs : List (DataW H)} {before : List MemPlace} (hW : DataW.Whole enc P fn.params.toList s.vars false W args.toList ds gs before) (hb : Below W.heap.size W W') :
    s.post enc P fn false true false false W args (.bool true) W' := by
  have hW' := hW
  obtain ⟨p, q, hA, hV, rfl, hfz, hnd⟩ := hW
  rw [hvars] at hV
  obtain ⟨rfl, rfl⟩ : gs = [] ∧ q = [] := by cases gs <;> simp_all [DataW.TrodVars]
  have hn2 : ds.length = ts.length := by rw [← hpn]; exact (O4 hA).2
  have hlt : ∀ x ∈ p, x.block < W.heap.size := fun x hx => by simpa using hW'.lt x (by simpa using hx)
  have hl := hspec ds hn2
  refine ⟨ds, [], p ++ [], [], p, [], hW', ?_, ?_, ?_, hb.frame _, fun h => by cases h⟩
  · rw [hres, List.append_nil, hl]
    exact trodAll_mk1 (shut_bool htb true)
  · rw [List.append_nil, hl]
    exact MK laid hb (fun t ht => by simpa using List.all_eq_true.1 hts t (by rw [← hpn]; exact ht)) hA hlt
  · rw [hvars, List.append_nil, hl]
    rfl
theorem afW {H : Type} {enc : TypeId × Value → H} {P : Program} {fn : Func} {s : ChangeSpec} {ts : List TypeId} (hpn : fn.params.toList = ts) (hvars : s.vars = []) {W : World} {base : Nat} {args : Array Value} {ds gs : List (DataW H)} {before : List MemPlace}
    (hval : ∀ (j : Nat) t v, fn.params[j]? = some t → args[j]? = some v → Value.okWide P W .any base t v) (hW : DataW.Whole enc P fn.params.toList s.vars false W args.toList ds gs before)
    (hwt : (DataW.weightsEach P (fn.params.toList ++ s.plain.varTypes P) (ds ++ gs)).all (· ≤ reachBytes) = true) : Ins enc P W ts args.toList := by
  obtain ⟨p, q, hA, hV, rfl, hfz, hnd⟩ := hW
  rw [hvars] at hV
  obtain ⟨rfl, rfl⟩ : gs = [] ∧ q = [] := by cases gs <;> simp_all [DataW.TrodVars]
  have hw2 : ∀ n ∈ DataW.weightsEach P fn.params.toList ds, n ≤ reachBytes := by
    have e0 : s.plain.varTypes P = [] := by simp [ChangeSpec.plain, DataSpec.varTypes, hvars]
    rw [e0, List.append_nil, List.append_nil] at hwt
    simpa using hwt
  obtain ⟨hn1, hn2, hin⟩ := OZ hA hw2
  rw [← hpn]
  exact Jk.mk hn1 fun j t v ht hv => ⟨⟨base, hval j t v (by simpa using ht) (by simpa using hv)⟩, hin j t v ht hv⟩
theorem Uc {H : Type} {enc : TypeId × Value → H} {a : Assume} {C : Checked} {os : Os} {f : FuncId} {fn : Func} {s : ChangeSpec} {conds : List PathCond} {tb : TypeId} (ts : List TypeId) {lay : List (String × DataW Unit)}
    (own : ownKnob C.prog.godebug = none) (laid : laidOutB C.prog = true) (started : os.Started) (noInit : C.prog.inits.idxOf? f = none) (hfn : C.prog.funcs[f]? = some fn)
    (hpn : fn.params.toList = ts) (hres : fn.resultTypes = #[tb]) (htb : C.prog.underlying tb = some .bool) (hvars : s.vars = [])
    (hts : ts.all (fun t => C.prog.readableRec t && decide (t < C.prog.types.size)) = true)
    (hspec : ∀ ds : List (DataW H), ds.length = ts.length → s.fn H ds = { results := [.lit (.bool true)], args := ds })
    (witness : ∃ (w : World) (tape : Tape) (i : Input), w.os = os ∧ (w.forCall tape i).Shaped C.prog ∧ i.vars = [] ∧ Input.okWide C.prog (w.forCall tape i) .any w.heap.size f i ∧
      ((s.pre enc C.prog fn conds false (w.forCall tape i).memory i.args ∧ laidMetH C.prog lay (w.forCall tape i).memory) ∧ sizedMet enc C.prog fn (OpenSpec.ofChange s) false (w.forCall tape i).memory i.args) ∧ a.holds C.prog (lone (Frame.enter C.prog f i.args .normal) [] (w.forCall tape i)))
    (walk : ∀ (W : World) (args : Array Value), laidMetH C.prog lay W → Ins enc C.prog W ts args.toList → iK C.prog f args W fun v W' => v = .bool true ∧ Below W.heap.size W W') :
    ReturnsInHanded a C os f .any (fun w args => (s.pre enc C.prog fn conds false w args ∧ laidMetH C.prog lay w) ∧ sizedMet enc C.prog fn (OpenSpec.ofChange s) false w args) (s.post enc C.prog fn false true false false) := by
  refine returnsInHanded_of_change_and (X := fun w _ => laidMetH C.prog lay w) (fun _ _ _ hh h => h.of_heap hh) own started noInit hfn witness ?_
  intro W base args ds gs before hval hW hcnd hwt hL hh
  exact Calls.mono (walk W args hL (afW hpn hvars hval hW hwt)) fun e W' ⟨v, he, hv, hb⟩ => ⟨v, he, by subst hv; exact adx laid hpn hres htb hvars hts hspec hW hb⟩
end Go.Proofs.YtnhhmieghbfalaaGreatDoor
end
section
namespace Go.Proofs.YtnhhmieghbfalaaGreatDoor

theorem own : ownKnob Tryz.prog.godebug = none := by kernel_rfl
theorem laid : laidOutB Tryz.prog = true := by kernel_rfl
end Go.Proofs.YtnhhmieghbfalaaGreatDoor
end
section
namespace Go.Proofs.YtnhhmieghbfalaaGreatDoor
open Go.ChangeShapes Go.WideShapes Go.ChangeAt Go.RowKit
section
variable {H : Type} {P : Program} {M : Nat}
theorem ady (d : DataW H) : 1 ≤ Rows.uptoBulk d := by
  cases d with
  | lit l => cases l <;> simp [Rows.uptoBulk]
  | nil => simp [Rows.uptoBulk]
  | ptr d => simp [Rows.uptoBulk]
  | slice elems spare => simp [Rows.uptoBulk]
  | agg parts => simp [Rows.uptoBulk]
  | iface t d => simp [Rows.uptoBulk]
  | map entries => simp [Rows.uptoBulk]
  | held h => simp [Rows.uptoBulk]
theorem XU (l : List (DataW H)) : l.length ≤ Rows.uptoBulkAll l := by
  induction l with
  | nil => simp [Rows.uptoBulkAll]
  | cons x r ih => have := ady x; simp only [Rows.uptoBulkAll, List.length_cons]; omega
theorem VT (l : List (Lit × DataW H)) : l.length ≤ Rows.uptoBulkEntries l := by
  induction l with
  | nil => simp [Rows.uptoBulkEntries]
  | cons x r ih =>
    have : 1 ≤ Rows.uptoBulkEntry x := by
      obtain ⟨k, d⟩ := x
      cases k <;> simp [Rows.uptoBulkEntry]
    simp only [Rows.uptoBulkEntries, List.length_cons]; omega
def CB (n : Nat) : Option TypeDesc → Bool
  | some (.pointer e) => decide (e < n)
  | some (.slice e) => decide (e < n)
  | some (.array _ e) => decide (e < n)
  | some (.struct fs) => fs.toList.all fun f => decide (f.type < n)
  | some (.map k e) => decide (k < n) && decide (e < n)
  | _ => true
def Gv (P : Program) (M n : Nat) : Bool := (List.range n).all fun t => decide (2 * P.bytesOf t ≤ M) && CB n (P.underlying t)
theorem FC {n : Nat} (hG : Gv P M n = true) {t : TypeId} (ht : t < n) : 2 * P.bytesOf t ≤ M ∧ CB n (P.underlying t) = true := by
  have := List.all_eq_true.1 hG t (List.mem_range.2 ht)
  simpa using this
theorem VU {a b c : Nat} (h : a ≤ b) (hc : c ≤ M) : a * c ≤ b * M := Nat.mul_le_mul h hc
mutual
theorem Bh {z : Nat} (hG : Gv P M z = true) (h1 : 1 ≤ M) : ∀ (d : DataW H) (t : TypeId) (n : Nat), t < z → n ∈ d.weights P t → n ≤ Rows.uptoBulk d * M
  | .lit l, t, n, ht, h => by
    cases l with
    | string b =>
      simp only [DataW.weights, List.mem_singleton] at h
      subst h
      simp only [Rows.uptoBulk]
      have := VU (M := M) (a := b.length) (b := b.length + 1) (c := 1) (by omega) h1
      omega
    | _ => simp [DataW.weights] at h
  | .nil, t, n, ht, h => by simp [DataW.weights] at h
  | .ptr d, t, n, ht, h => by
    simp only [DataW.weights] at h
    split at h
    · rename_i e he
      have hp := (FC hG ht).2
      rw [he] at hp
      have := Bh hG h1 d _ n (by simpa [CB] using hp) h
      simp only [Rows.uptoBulk, Nat.add_mul]; omega
    · simp at h
  | .slice elems spare, t, n, ht, h => by
    simp only [DataW.weights] at h
    split at h
    · rename_i e he
      have hp := (FC hG ht).2
      rw [he] at hp
      have he' : e < z := by simpa [CB] using hp
      simp only [List.mem_cons, List.mem_append] at h
      simp only [Rows.uptoBulk, Nat.add_mul]
      rcases h with rfl | h | h
      · have l1 := XU elems
        have l2 := XU spare
        have := VU (M := M) (a := elems.length + spare.length) (b := Rows.uptoBulkAll elems + Rows.uptoBulkAll spare) (c := P.bytesOf e) (by omega) (by have := (FC hG he').1; omega)
        rw [Nat.add_mul (Rows.uptoBulkAll elems)] at this
        omega
      · have := Ag hG h1 elems _ n he' h; omega
      · have := Ag hG h1 spare _ n he' h; omega
    · simp at h
  | .agg parts, t, n, ht, h => by
    simp only [DataW.weights] at h
    simp only [Rows.uptoBulk, Nat.add_mul]
    split at h
    · rename_i fs he
      have hp := (FC hG ht).2
      rw [he] at hp
      have := Gw hG h1 parts _ n (fun t' ht' => by
        obtain ⟨f, hf, rfl⟩ := List.mem_map.1 ht'
        simpa using List.all_eq_true.1 hp f hf) h
      omega
    · rename_i k e he
      have hp := (FC hG ht).2
      rw [he] at hp
      have := Ag hG h1 parts _ n (by simpa [CB] using hp) h
      omega
    · simp at h
  | .iface t' d, t, n, ht, h => by simp [DataW.weights] at h
  | .map entries, t, n, ht, h => by
    simp only [DataW.weights] at h
    simp only [Rows.uptoBulk, Nat.add_mul]
    split at h
    · rename_i k e he
      have hp := (FC hG ht).2
      rw [he] at hp
      have hke : k < z ∧ e < z := by simpa [CB] using hp
      simp only [List.mem_cons] at h
      rcases h with rfl | h
      · have := VU (M := M) (VT entries) (c := P.bytesOf k + P.bytesOf e) (by have := (FC hG hke.1).1; have := (FC hG hke.2).1; omega); omega
      · have := zO hG h1 entries _ n hke.2 h; omega
    · simp at h
  | .held x, t, n, ht, h => by simp [DataW.weights] at h
theorem Ag {z : Nat} (hG : Gv P M z = true) (h1 : 1 ≤ M) : ∀ (l : List (DataW H)) (t : TypeId) (n : Nat), t < z → n ∈ DataW.weightsAll P t l → n ≤ Rows.uptoBulkAll l * M
  | [], t, n, ht, h => by simp [DataW.weightsAll] at h
  | d :: r, t, n, ht, h => by
    simp only [DataW.weightsAll, List.mem_append] at h
    simp only [Rows.uptoBulkAll, Nat.add_mul]
    rcases h with h | h
    · have := Bh hG h1 d _ n ht h; omega
    · have := Ag hG h1 r _ n ht h; omega
theorem Gw {z : Nat} (hG : Gv P M z = true) (h1 : 1 ≤ M) : ∀ (l : List (DataW H)) (ts : List TypeId) (n : Nat), (∀ t ∈ ts, t < z) → n ∈ DataW.weightsEach P ts l → n ≤ Rows.uptoBulkAll l * M
  | [], ts, n, ht, h => by cases ts <;> simp [DataW.weightsEach] at h
  | d :: r, [], n, ht, h => by simp [DataW.weightsEach] at h
  | d :: r, t :: ts, n, ht, h => by
    simp only [DataW.weightsEach, List.mem_append] at h
    simp only [Rows.uptoBulkAll, Nat.add_mul]
    rcases h with h | h
    · have := Bh hG h1 d _ n (ht t (by simp)) h; omega
    · have := Gw hG h1 r _ n (fun x hx => ht x (by simp [hx])) h; omega
theorem zO {z : Nat} (hG : Gv P M z = true) (h1 : 1 ≤ M) : ∀ (l : List (Lit × DataW H)) (t : TypeId) (n : Nat), t < z → n ∈ DataW.weightsEntries P t l → n ≤ Rows.uptoBulkEntries l * M
  | [], t, n, ht, h => by simp [DataW.weightsEntries] at h
  | (k, d) :: r, t, n, ht, h => by
    cases k with
    | string b =>
      simp only [DataW.weightsEntries, DataW.weightsEntry, List.mem_append, List.mem_cons] at h
      simp only [Rows.uptoBulkEntries, Rows.uptoBulkEntry, Nat.add_mul]
      have hb := VU (M := M) (a := b.length) (b := b.length) (c := 1) (by omega) h1
      rcases h with (h | h) | h
      · omega
      · have := Bh hG h1 d _ n ht h; omega
      · have := zO hG h1 r _ n ht h; omega
    | _ =>
      simp only [DataW.weightsEntries, DataW.weightsEntry, List.mem_append] at h
      simp only [Rows.uptoBulkEntries, Rows.uptoBulkEntry, Nat.add_mul]
      rcases h with h | h
      · have := Bh hG h1 d _ n ht h; omega
      · have := zO hG h1 r _ n ht h; omega
end
end
abbrev QY : List (String × DataW Unit) := [("unicode/utf8.acceptRanges", Rows.laid_unicode_utf8_acceptRanges), ("unicode/utf8.first", Rows.laid_unicode_utf8_first)]
theorem afX {W : World} (h : laidMetH Tryz.prog QY W) : True ∧ True := ⟨trivial, trivial⟩
theorem adz (os : Os) (args : Array Value) : laidMetH Tryz.prog QY ((World.laidAll Tryz.prog os QY).forCall (fun _ _ => 0) ⟨#[], args, []⟩).memory := by
  rw [MakeChecks.laidMetH_plain _ _ _ (by kernel_rfl)]; exact laidMet_laidAll _ (by kernel_rfl) (by kernel_rfl)
end Go.Proofs.YtnhhmieghbfalaaGreatDoor
end
section
namespace Go.Proofs.YtnhhmieghbfalaaGreatDoor
open Go.RowKit
section
variable {P : Program} {L : List (Nat × Value)} {w0 w : World} {F : HP} {ty : TypeId}
def abt (P : Program) (fv : Value) (vs : List Value) (w : World) (T : Value → World → Prop) : Prop :=
  ∃ f first cap fn c, fv = .func (.func f) (List.toArray first) (List.toArray cap) ∧ P.funcs[f]? = some fn ∧ (fn.name == "runtime.NumGoroutine") = false ∧ fn.body = some c ∧ iK P f (first ++ vs ++ cap).toArray w T
theorem acg {x : Operand} {args : List Operand} {ts : Array TypeId} {fv : Value} {vs : List Value} {T : Value → World → Prop} (hx : ev L x = some fv) (ha : MG L args = some vs) (h : abt P fv vs w T) :
    Dj P L (.call ⟨.value x, args.toArray, ts⟩) ty w T := by
  obtain ⟨f, first, cap, fn, c, rfl, hf, hn, hb, hr⟩ := h
  exact nM (ZT hx ha hf hn hb) hr
def alN (P : Program) (w0 : World) (F : HP) (fv : Value) (g : Int → Bool) : Prop :=
  fv.oneCell' = true ∧ ∀ (G : HP) (W : World), V w0 W (G • F) → ∀ r, abt P fv [.int .i32 r] W fun v W' => v = .bool (g r) ∧ V w0 W' (G • F)
end
def KD (I : Hp) (k : IntKind) (v : Value) (l : List Int) : Prop := ∃ a c, v = .slice a l.length c ∧ l.length ≤ c ∧ (c : Int) ≤ 9223372036854775807 ∧
  (0 < l.length → ∃ b o cs e fr, a = some ⟨b, o, none⟩ ∧ I b = some (.cells cs e fr) ∧ ∀ j, j < l.length → cs[o + j]? = some (.int k (l.getD j 0)))
theorem KD.mono {I I' : Hp} {k : IntKind} {v : Value} {l : List Int} (hl : Hp.le I I') (h : KD I k v l) : KD I' k v l := by
  obtain ⟨a, c, h1, h2, h3, h4⟩ := h
  exact ⟨a, c, h1, h2, h3, fun hp => let ⟨b, o, cs, e, fr, e1, e2, e3⟩ := h4 hp; ⟨b, o, cs, e, fr, e1, hl _ _ e2, e3⟩⟩
def uQ (k : IntKind) (v : Value) (l : List Int) : HP := know (fun I => KD I k v l) fun _ _ hl h => h.mono hl
theorem mP.mk {w : World} {k : IntKind} {v : Value} {l : List Int} {a : Option Addr} {c : Nat} (h1 : v = .slice a l.length c) (h2 : l.length ≤ c) (h3 : (c : Int) ≤ 9223372036854775807)
    (h4 : 0 < l.length → ∃ b o, a = some ⟨b, o, none⟩ ∧ ∀ j, j < l.length → w.cell? ⟨b, o + j, none⟩ = some (.int k (l.getD j 0))) : mP w k v l := by
  refine ⟨by simp, a, c, h1, h2, h3, fun hp => ?_⟩
  obtain ⟨b, o, e, hc⟩ := h4 hp
  refine ⟨b, o, e, fun j hj => ?_⟩
  rw [hc j (by omega)]
  simp [List.getD_eq_getElem?_getD, show j < l.length by omega]
theorem KD.rd {w : World} {n : Nat} {I : Hp} {k : IntKind} {v : Value} {l : List Int} (h : KD I k v l) (hI : ∀ k o, I k = some o → n ≤ k ∧ w.heap[k]? = some o) : mP w k v l := by
  obtain ⟨a, c, h1, h2, h3, h4⟩ := h
  exact mP.mk h1 h2 h3 fun hp => let ⟨b, o, cs, e, fr, e1, e2, e3⟩ := h4 hp; ⟨b, o, e1, fun j hj => iP (hI _ _ e2).2 (e3 j hj)⟩
section
variable {w0 w : World} {F : HP} {e : TypeId} {k : IntKind} {v : Value} {l : List Int}
theorem V.o9 (H : V w0 w (uQ k v l • F)) : mP w k v l := let ⟨I, h, hI⟩ := H.zx; h.rd hI
theorem qH {K K' : Hp → Prop} {hK : ∀ I I', Hp.le I I' → K I → K I'} {hK' : ∀ I I', Hp.le I I' → K' I → K' I'} (h : ∀ I, K I → K' I) (B : HP) : VK (know K hK • B) (know K' hK' • B) := fun I x ha =>
  (yL K' hK' B I x).2 ⟨h I ((yL K hK B I x).1 ha).1, ((yL K hK B I x).1 ha).2⟩
theorem xJ {K K' M : Hp → Prop} {hK : ∀ I I', Hp.le I I' → K I → K I'} {hK' : ∀ I I', Hp.le I I' → K' I → K' I'} {hM : ∀ I I', Hp.le I I' → M I → M I'} (h : ∀ I, K I → K' I → M I) (B : HP) : VK (know K hK • know K' hK' • B) (know M hM • B) := fun I x ha => by
  have h1 := (yL K hK _ I x).1 ha
  have h2 := (yL K' hK' _ I x).1 h1.2
  exact (yL M hM B I x).2 ⟨h I h1.1 h2.1, h2.2⟩
theorem V.Eb {K : Hp → Prop} {hK : ∀ I I', Hp.le I I' → K I → K I'} (h : ∀ I, K I) (H : V w0 w F) : V w0 w (know K hK • F) := H.I5 fun I x ha => (yL K hK F I x).2 ⟨h I, ha⟩
theorem V.mM (H : V w0 w (kF e k v l • F)) : V w0 w (uQ k v l • F) := by
  rcases H.Bg with ⟨a, rfl, h1, h2, H1⟩ | ⟨g, o, c, cur, rfl, h2, h3, h4, h5, H1⟩
  · have hl : l = [] := by simpa using h2
    subst hl
    exact H1.VL.I5 fun I x ha => (yL _ _ F I x).2 ⟨⟨a, 0, rfl, by simp, by decide, fun h => by simp at h⟩, by rw [Go.Proofs.YtnhhmieghbfalaaGreatDoor.xE] at ha; exact ha⟩
  · refine H1.freeze.I5 (qH (fun I hI => ⟨_, c, rfl, h2, h3, fun _ => ⟨g, o, cur, e, (0, 0), rfl, hI, fun j hj => ?_⟩⟩) F)
    rw [h5 j (by omega)]
    simp [List.getD_eq_getElem?_getD, hj]
end
end Go.Proofs.YtnhhmieghbfalaaGreatDoor
end
section
namespace Go.Proofs.YtnhhmieghbfalaaGreatDoor
open Go.RowKit
open _root_.Go.Proofs.Tryz
def lD (r : Int) : Bool := decide (0 ≤ r ∧ r < 55296 ∨ 57343 < r ∧ r ≤ 1114111)
def XV (r : Int) : Bool := decide (0 ≤ r ∧ r < 32 ∨ 127 ≤ r ∧ r ≤ 159)
def within (r : Int) (T : List (Int × Int)) : Bool := T.any fun x => decide (x.1 ≤ r ∧ r ≤ x.2)
def agQ : List (Int × Int) := [(768, 879), (1155, 1161), (1425, 1469), (1552, 1562), (1611, 1631), (3633, 3633), (3636, 3642), (3655, 3662), (6832, 6911), (7616, 7679), (8203, 8207), (8400, 8447), (12441, 12442), (65024, 65039), (65056, 65071)]
def agR : List (Int × Int) := [(4352, 4447), (11904, 12350), (12353, 13311), (13312, 19903), (19968, 40959), (40960, 42191), (44032, 55203), (63744, 64255), (65072, 65135), (65280, 65376), (65504, 65510), (127744, 128591), (129280, 129535), (131072, 262141)]
def adA (r : Int) : Int := if !lD r || XV r || within r agQ then 0 else if within r agR then 2 else 1
def Qs (r : Int) : Bool :=
  if r < 192 then decide (48 ≤ r ∧ r ≤ 57 ∨ 65 ≤ r ∧ r ≤ 90 ∨ 97 ≤ r ∧ r ≤ 122)
  else if r = 215 ∨ r = 247 ∨ r = 65533 ∨ 8192 ≤ r ∧ r ≤ 8303 ∨ 12288 ≤ r ∧ r ≤ 12351 ∨ 65280 ≤ r ∧ r ≤ 65295 then false
  else lD r && decide (0 < adA r)
theorem V.cell {w0 w : World} {F : HP} (H : V w0 w F) {a : Addr} {v : Value} (h : w0.cell? a = some v) : w.cell? a = some v := (H.base.cell (World.block_lt_of_cell? _ _ h)).trans h
theorem ach {w : World} {b o : Nat} {u v : Value} (h : w.cell? ⟨b, o, none⟩ = some u) (k : w.cell? ⟨b, o + 1, none⟩ = some v) : ∀ (j : Nat) x, ([u, v] : List Value)[j]? = some x → w.cell? ⟨b, o + j, none⟩ = some x := by
  intro j x hj
  match j, hj with
  | 0, hj => cases hj; exact h
  | 1, hj => cases hj; exact k
  | j + 2, hj => simp at hj
def abu (T : List (Int × Int)) : List Value := T.flatMap fun x => [.int .i32 x.1, .int .i32 x.2]
structure amx (w : World) : Prop where
  alO : Rd w 2 (.slice (some ⟨0, 0, none⟩) 15 15) 15 (abu agQ)
  alP : Rd w 2 (.slice (some ⟨1, 0, none⟩) 14 14) 14 (abu agR)
section
variable {w0 w : World} {F : HP} {r : Int}
theorem aci : iK prog 202 #[.int .i32 r] w fun v w' => v = .bool (lD r) ∧ w = w' := by
 refine jl func202 ntmps202 ?_
 refine kG O (aI (bK (bT O (aT (xA O O) (nS O (fun h1 => ?_) (fun h1 => ?_))))))
 ·(try simp only [aG] at h1)
  refine bJ (cO O (bJ (aT (fJ O O) (mQ O O (iU O (dw O (fun h2 => ?_) (fun h2 => ?_)))))))
  ·(try simp only [aG] at h2)
   refine jE O (aY (aC (dO results202 O ?_)))
   refine ⟨?_, O⟩; congr 1; first | (symm; rw [lD, decide_eq_true_eq]; omega) | (symm; rw [lD, decide_eq_false_iff_not]; omega) | (rw [lD, decide_eq_decide]; omega)
  ·(try simp only [aG] at h2)
   refine bT O (aT (fJ O O) (nS O (fun h3 => ?_) (fun h3 => ?_)))
   ·(try simp only [aG] at h3)
    refine bJ (cO O (bJ (aT (xA O O) (mQ O O (iU O (dw O (fun h4 => ?_) (fun h4 => ?_)))))))
    ·(try simp only [aG] at h4)
     refine jE O (aY (aC (dO results202 O ?_)))
     refine ⟨?_, O⟩; congr 1; first | (symm; rw [lD, decide_eq_true_eq]; omega) | (symm; rw [lD, decide_eq_false_iff_not]; omega) | (rw [lD, decide_eq_decide]; omega)
    ·(try simp only [aG] at h4)
     refine eG (aS (aZ (jE O (dO results202 O ?_))))
     refine ⟨?_, O⟩; congr 1; first | (symm; rw [lD, decide_eq_true_eq]; omega) | (symm; rw [lD, decide_eq_false_iff_not]; omega) | (rw [lD, decide_eq_decide]; omega)
   ·(try simp only [aG] at h3)
    refine dB (dB (kP O O (iU O (yh (eG (aS (aZ (jE O (dO results202 O ?_)))))))))
    refine ⟨?_, O⟩; congr 1; first | (symm; rw [lD, decide_eq_true_eq]; omega) | (symm; rw [lD, decide_eq_false_iff_not]; omega) | (rw [lD, decide_eq_decide]; omega)
 ·(try simp only [aG] at h1)
  refine dB (dB (kP O O (iU O (yh (bT O (aT (fJ O O) (nS O (fun h5 => ?_) (fun h5 => ?_))))))))
  ·(try simp only [aG] at h5)
   exfalso; first | contradiction | omega
  ·(try simp only [aG] at h5)
   refine dB (dB (kP O O (iU O (yh (eG (aS (aZ (jE O (dO results202 O ?_)))))))))
   refine ⟨?_, O⟩; congr 1; first | (symm; rw [lD, decide_eq_true_eq]; omega) | (symm; rw [lD, decide_eq_false_iff_not]; omega) | (rw [lD, decide_eq_decide]; omega)
theorem aht : iK prog 196 #[.int .i32 r] w fun v w' => v = .bool (lD r) ∧ w = w' := by
  refine jl func196 ntmps196 ?_
  refine kG O (bT O (fH O func202 (aci) ?_))
  rintro _ _ ⟨rfl, rfl⟩
  refine iJ O (dO results196 O ?_)
  exact ⟨O, O⟩
end
end Go.Proofs.YtnhhmieghbfalaaGreatDoor
end
section
namespace Go.Proofs.YtnhhmieghbfalaaGreatDoor

def kV (x : Int) : Nat := if x < 128 then 1 else if 194 ≤ x ∧ x ≤ 223 then 2 else if 224 ≤ x ∧ x ≤ 239 then 3 else if 240 ≤ x ∧ x ≤ 244 then 4 else 0
def FZ (x : Int) : Int := if x = 224 then 160 else if x = 240 then 144 else 128
def zK (x : Int) : Int := if x = 237 then 159 else if x = 244 then 143 else 191
def CG (b : List Int) (j : Nat) : Bool := j == 0 || (decide (128 ≤ b.getD j 0 ∧ b.getD j 0 ≤ 191) && (j != 1 || decide (FZ (b.getD 0 0) ≤ b.getD 1 0 ∧ b.getD 1 0 ≤ zK (b.getD 0 0))))
def zL (b : List Int) : Nat → Bool
  | 0 => true
  | k + 1 => zL b k && CG b k
def nT (b : List Int) : Nat × Nat := if b = [] then (0, 0) else if kV (b.getD 0 0) = 0 then (0, 0) else if zL b (min (kV (b.getD 0 0)) b.length) then (min (kV (b.getD 0 0)) b.length, kV (b.getD 0 0)) else (0, kV (b.getD 0 0))
def KE (b : List Int) (n : Nat) : Int :=
  if n = 1 then b.getD 0 0 else if n = 2 then b.getD 0 0 % 32 * 64 + b.getD 1 0 % 64 else if n = 3 then b.getD 0 0 % 16 * 4096 + b.getD 1 0 % 64 * 64 + b.getD 2 0 % 64
  else b.getD 0 0 % 8 * 262144 + b.getD 1 0 % 64 * 4096 + b.getD 2 0 % 64 * 64 + b.getD 3 0 % 64
def yC (b : List Int) : Bool := decide ((nT b).1 = (nT b).2 ∧ 0 < (nT b).2)
def wX (b : List Int) : Int × Nat := if yC b then (KE b (nT b).2, (nT b).2) else (65533, 1)
def ai0 (b : List Int) : Bool := decide (0 < (nT b).1 ∧ (nT b).1 < (nT b).2)
def Ic : Nat → List Int → List Int
  | 0, _ => []
  | f + 1, b => if b = [] then [] else (wX b).1 :: Ic f (b.drop (wX b).2)
def yD (b : List Int) : List Int := Ic b.length b
def ahu : Nat → List Int → List Int × List Int
  | 0, b => ([], b)
  | f + 1, b => if b = [] ∨ ai0 b = true then ([], b) else ((wX b).1 :: (ahu f (b.drop (wX b).2)).1, (ahu f (b.drop (wX b).2)).2)
def amy (b : List Int) : List Int × List Int := ahu b.length b
def y9 (l : List Int) : List Int := l.flatMap Lib.encodeRuneZ
def Jv (b : List Int) : Prop := ∀ x ∈ b, 0 ≤ x ∧ x < 256
theorem QZ (x : Int) : kV x ≤ 4 := by unfold kV; repeat' split <;> try omega
theorem Q5 {b : List Int} {k m : Nat} (h : zL b k = true) (hm : m ≤ k) : zL b m = true := by
  induction k with
  | zero => obtain rfl : m = 0 := by omega
            exact h
  | succ k ih =>
    simp only [zL, Bool.and_eq_true] at h
    by_cases e : m = k + 1
    · subst e; simp only [zL, Bool.and_eq_true]; exact h
    · exact ih h.1 (by omega)
theorem ML {b c : List Int} {j : Nat} (h : j < b.length) : (b ++ c).getD j 0 = b.getD j 0 := by rw [List.getD_eq_getElem?_getD, List.getD_eq_getElem?_getD, List.getElem?_append_left h]
theorem Ol {b : List Int} (hb : b ≠ []) : (nT b).2 = kV (b.getD 0 0) := by
  unfold nT; rw [if_neg hb]; split
  · rename_i h; rw [h]
  · split <;> rfl
theorem MN {b : List Int} : (nT b).1 ≤ b.length ∧ (nT b).1 ≤ (nT b).2 := by
  unfold nT; split
  · exact ⟨Nat.zero_le _, Nat.le_refl _⟩
  · split
    · exact ⟨Nat.zero_le _, Nat.le_refl _⟩
    · split
      · exact ⟨Nat.min_le_right _ _, Nat.min_le_left _ _⟩
      · exact ⟨Nat.zero_le _, Nat.zero_le _⟩
theorem EL {b : List Int} (h : yC b = true) : 1 ≤ (nT b).2 ∧ (nT b).2 ≤ b.length ∧ (nT b).2 ≤ 4 ∧ b ≠ [] := by
  unfold yC at h; simp only [decide_eq_true_eq] at h
  have h1 := MN (b := b)
  have hb : b ≠ [] := by rintro rfl; exact absurd h.2 (by decide)
  refine ⟨h.2, by omega, ?_, hb⟩
  rw [Ol hb]; exact QZ _
theorem Jw {b : List Int} (hb : b ≠ []) : 1 ≤ (wX b).2 ∧ (wX b).2 ≤ b.length ∧ (wX b).2 ≤ 4 := by
  have := List.length_pos_iff.2 hb
  unfold wX; split
  · rename_i h; have := EL h; exact ⟨this.1, this.2.1, this.2.2.1⟩
  · exact ⟨Nat.le_refl _, this, by decide⟩
theorem adB {b c : List Int} {n : Nat} (h1 : 1 ≤ n) (h : n ≤ b.length) (h4 : n ≤ 4) : KE (b ++ c) n = KE b n := by
  unfold KE
  rw [ML (show 0 < b.length by omega)]
  by_cases e1 : n = 1
  · simp [e1]
  · rw [if_neg e1, if_neg e1, ML (show 1 < b.length by omega)]
    by_cases e2 : n = 2
    · simp [e2]
    · rw [if_neg e2, if_neg e2, ML (show 2 < b.length by omega)]
      by_cases e3 : n = 3
      · simp [e3]
      · rw [if_neg e3, if_neg e3, ML (show 3 < b.length by omega)]
theorem XW : ∀ (f g : Nat) (b : List Int), b.length ≤ f → b.length ≤ g → Ic f b = Ic g b := by
  intro f
  induction f with
  | zero => intro g b h1 h2; obtain rfl : b = [] := List.eq_nil_of_length_eq_zero (by omega); cases g <;> simp [Ic]
  | succ f ih =>
    intro g b h1 h2
    cases g with
    | zero => obtain rfl : b = [] := List.eq_nil_of_length_eq_zero (by omega); simp [Ic]
    | succ g =>
      unfold Ic
      by_cases hb : b = []
      · simp [hb]
      · rw [if_neg hb, if_neg hb]
        have := Jw hb
        rw [ih g (b.drop (wX b).2) (by simp; omega) (by simp; omega)]
theorem LJ : yD [] = [] := rfl
theorem Dl {b : List Int} (hb : b ≠ []) : yD b = (wX b).1 :: yD (b.drop (wX b).2) := by
  have h := Jw hb
  have hl := List.length_pos_iff.2 hb
  unfold yD
  obtain ⟨n, hn⟩ : ∃ n, b.length = n + 1 := ⟨b.length - 1, by omega⟩
  rw [hn, show Ic (n + 1) b = if b = [] then [] else (wX b).1 :: Ic n (b.drop (wX b).2) from rfl, if_neg hb, XW n (b.drop (wX b).2).length _ (by simp; omega) (Nat.le_refl _)]
end Go.Proofs.YtnhhmieghbfalaaGreatDoor
end
section
namespace Go.Proofs.YtnhhmieghbfalaaGreatDoor
open Go.RowKit
section
variable {P : Program} {L : List (Nat × Value)} {w : World} {ty t t' : TypeId} {x y : Operand} {k k2 : IntKind} {m n : Int}
theorem abv (o : BinOp) {r : Value} (ho : o = .shl ∨ o = .shr) (hx : ev L x = some (.int k m)) (hy : ev L y = some (.int k2 n)) (h : (Op.shift o k m k2 n).run P w = .ok r w) : Val P L (.binOp o t x y t') ty w r w := fun ρ hρ _ _ _ _ => by
  simp only [execOp, hρ _ _ hx, hρ _ _ hy]
  have h1 : (eqGuard o t x y (.int k m) (.int k2 n)).run P w = .ok () w := by rcases ho with rfl | rfl <;> rfl
  have h2 : (binOp o t (.int k m) (.int k2 n)).run P w = .ok r w := by
    rcases ho with rfl | rfl <;> simpa [binOp] using h
  simp [h1, h2]
theorem adC (i : Nat) (hx : ev L x = some (.int k m)) (hy : ev L y = some (.int k2 (i : Int))) (hi : i ≤ k.bits) : Val P L (.binOp .shl t x y t') ty w (.int k (k.wrap (m * 2 ^ i))) w :=
  abv .shl (.inl rfl) hx hy (by unfold Op.shift; rw [if_neg (by omega), show min (i : Int).toNat k.bits = i from by omega]; rfl)
theorem I9 (i : Nat) (c : Int) (hc : (2 : Int) ^ i = c) (hi : i ≤ k.bits) (hx : ev L x = some (.int k m)) (hy : ev L y = some (.int k2 (i : Int))) (hb : k.wrap (m * c) = m * c) : Val P L (.binOp .shl t x y t') ty w (.int k (m * c)) w := by
  have := adC (P := P) (w := w) (ty := ty) (t := t) (t' := t') i hx hy hi
  rwa [hc, hb] at this
theorem adD (i : Nat) (hx : ev L x = some (.int k m)) (hy : ev L y = some (.int k2 (i : Int))) (hi : i ≤ k.bits) : Val P L (.binOp .shr t x y t') ty w (.int k (m / 2 ^ i)) w :=
  abv .shr (.inr rfl) hx hy (by unfold Op.shift; rw [if_neg (by omega), show min (i : Int).toNat k.bits = i from by omega]; show _ = _; rw [← Int.fdiv_eq_ediv_of_nonneg _ (by exact Int.le_of_lt (Int.pow_pos (by decide)))]; rfl)
theorem zV (i : Nat) (c : Int) (hc : (2 : Int) ^ i = c) (hi : i ≤ k.bits) (hx : ev L x = some (.int k m)) (hy : ev L y = some (.int k2 (i : Int))) : Val P L (.binOp .shr t x y t') ty w (.int k (m / c)) w := by
  have := adD (P := P) (w := w) (ty := ty) (t := t) (t' := t') i hx hy hi
  rwa [hc] at this
theorem Ie (o : BinOp) (hx : ev L x = some (.int k m)) (hy : ev L y = some (.int k n)) (ho : o = .and ∨ o = .or ∨ o = .xor ∨ o = .andNot) : Val P L (.binOp o t x y t') ty w (.int k (bits o k m n)) w :=
  ahq o hx hy ho (by rcases ho with rfl | rfl | rfl | rfl <;> rfl)
theorem jP (i : Nat) (c q : Int) (hc : (2 : Int) ^ i = q) (hq : q - 1 = c) (hi : i ≤ 8) (hx : ev L x = some (.int .u8 m)) (hy : ev L y = some (.int .u8 c)) (hm : 0 ≤ m ∧ m < 256) : Val P L (.binOp .and t x y t') ty w (.int .u8 (m % q)) w := by
  have := Ie (P := P) (w := w) (ty := ty) (t := t) (t' := t') .and hx hy (.inl rfl)
  rwa [← hq, ← hc, bits_mask .u8 8 (by decide) wraps_u8 i hi m hm.1 hm.2, hc] at this
theorem Et (i : Nat) (c q : Int) (hc : (2 : Int) ^ i = q) (hq : q - 1 = c) (hi : i ≤ 31) (hx : ev L x = some (.int .i32 m)) (hy : ev L y = some (.int .i32 c)) (hm : 0 ≤ m ∧ m < 2147483648) : Val P L (.binOp .and t x y t') ty w (.int .i32 (m % q)) w := by
  have := Ie (P := P) (w := w) (ty := ty) (t := t) (t' := t') .and hx hy (.inl rfl)
  rwa [← hq, ← hc, bits_mask .i32 31 (by decide) wraps_i32 i hi m hm.1 hm.2, hc] at this
theorem ny (i : Nat) (q : Int) (hc : (2 : Int) ^ i = q) (hx : ev L x = some (.int .u8 m)) (hy : ev L y = some (.int .u8 n)) (h : 0 ≤ m ∧ m % q = 0 ∧ m < 256 ∧ 0 ≤ n ∧ n < q ∧ n < 256) : Val P L (.binOp .or t x y t') ty w (.int .u8 (m + n)) w := by
  have := Ie (P := P) (w := w) (ty := ty) (t := t) (t' := t') .or hx hy (.inr (.inl rfl))
  obtain ⟨h1, h2, h3, h4, h5, h6⟩ := h
  rwa [bits_join .u8 8 (by decide) wraps_u8 i m n h1 (by rw [hc]; exact h2) h3 h4 (by rw [hc]; exact h5) h6] at this
theorem yM (i : Nat) (q : Int) (hc : (2 : Int) ^ i = q) (hx : ev L x = some (.int .i32 m)) (hy : ev L y = some (.int .i32 n)) (h : 0 ≤ m ∧ m % q = 0 ∧ m < 2147483648 ∧ 0 ≤ n ∧ n < q ∧ n < 2147483648) : Val P L (.binOp .or t x y t') ty w (.int .i32 (m + n)) w := by
  have := Ie (P := P) (w := w) (ty := ty) (t := t) (t' := t') .or hx hy (.inr (.inl rfl))
  obtain ⟨h1, h2, h3, h4, h5, h6⟩ := h
  rwa [bits_join .i32 31 (by decide) wraps_i32 i m n h1 (by rw [hc]; exact h2) h3 h4 (by rw [hc]; exact h5) h6] at this
theorem lq {n : Int} (h : -2147483648 ≤ n ∧ n < 2147483648) : IntKind.i32.wrap n = n := by rw [IntKind.wrap_i32]; omega
theorem afY {n : Int} (h : -9223372036854775808 ≤ n ∧ n < 9223372036854775808) : IntKind.i64.wrap n = n := by rw [IntKind.wrap_i64]; omega
theorem Q7 {src dst : TypeId} (hx : ev L x = some (.int k m)) (hs : (P.underlying src).isSome = true) (hd : P.underlying dst = some (.int .u32)) : Val P L (.convert src dst x) ty w (.int .u32 (m % 4294967296)) w := fun ρ hρ _ _ _ _ => by
  obtain ⟨ds, hs'⟩ := Option.isSome_iff_exists.1 hs
  simp only [execOp, hρ _ _ hx]
  simp [convert, run_underlying hs', run_underlying hd, Conv.intToInt, IntKind.wrap_u32]
theorem jq {src dst : TypeId} (hx : ev L x = some (.int k m)) (hs : (P.underlying src).isSome = true) (hd : P.underlying dst = some (.int .u8)) : Val P L (.convert src dst x) ty w (.int .u8 (m % 256)) w := fun ρ hρ _ _ _ _ => by
  obtain ⟨ds, hs'⟩ := Option.isSome_iff_exists.1 hs
  simp only [execOp, hρ _ _ hx]
  simp [convert, run_underlying hs', run_underlying hd, Conv.intToInt, IntKind.wrap_u8]
theorem mP.XH (j : Nat) {b o n c : Nat} {l : List Int} (h : mP w k (.slice (some ⟨b, o, none⟩) n c) l) (hj : j < l.length) : w.cell? ⟨b, o + j * 1, none⟩ = some (.int k (l.getD j 0)) := by
  have := h.yc (i := j) hj
  rwa [Int.toNat_natCast] at this
end
end Go.Proofs.YtnhhmieghbfalaaGreatDoor
end
