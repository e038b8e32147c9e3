/- What a row hands its call, opened by type; a law's row, of what its walk shows. -/
import Derived.Test.YtgoopiakpbcgoaaLit
import Derived.ProofKit
import Derived.HandedShaped
import Derived.LaidMore
import Derived.OpenShut
import Derived.Stop.Joined
set_option linter.unusedSimpArgs false
set_option linter.unusedVariables false
namespace Go.Proofs.Ytgoopiakpbcgoaa
open Go.ChangeShapes Go.WideShapes Go.ChangeAt Go.RowKit

section
variable {H : Type} {enc : TypeId × Value → H} {P : Program} {W : World} {B : Nat}

/-- These cells read as a value of type t, no slice of it beyond the reach. -/
def InB (B : Nat) (enc : TypeId × Value → H) (P : Program) (W : World) (t : TypeId) (cs : List Value) : Prop :=
  ∃ fuel d p, DataW.trod enc P W 0 (fun _ => true) true fuel t cs = some (d, p) ∧ ∀ n ∈ d.weights P t, n ≤ B

abbrev In (enc : TypeId × Value → H) (P : Program) (W : World) (t : TypeId) (cs : List Value) : Prop := InB reachBytes enc P W t cs
theorem InB.bool {t : TypeId} {cs : List Value} (ht : P.underlying t = some .bool) (h : InB B enc P W t cs) : ∃ b, cs = [.bool b] := by
  obtain ⟨fuel, d, p, h1, -⟩ := h; obtain ⟨b, e, -⟩ := DataW.trod_bool ht h1; exact ⟨b, e⟩
theorem InB.int {t : TypeId} {cs : List Value} {k : IntKind} (ht : P.underlying t = some (.int k)) (h : InB B enc P W t cs) : ∃ n, cs = [.int k n] ∧ (Lit.int k n).wf = true := by
  obtain ⟨fuel, d, p, h1, -⟩ := h; obtain ⟨n, e, -, hw⟩ := DataW.trod_int ht h1; exact ⟨n, e, hw⟩
theorem InB.string {t : TypeId} {cs : List Value} (ht : P.underlying t = some .string) (h : InB B enc P W t cs) : ∃ s : ByteArray, cs = [.string s] ∧ s.size ≤ B := by
  obtain ⟨fuel, d, p, h1, hw⟩ := h; obtain ⟨s, e, hx, hm⟩ := DataW.trod_string ht h1
  simp only [Prod.mk.injEq] at hx
  obtain ⟨rfl, -⟩ := hx
  have h2 := hw s.data.toList.length (by simp only [DataW.weights, List.mem_singleton])
  rw [Array.length_toList] at h2
  exact ⟨s, e, h2⟩
theorem weightsEach_get {ts : List TypeId} {ds : List (DataW H)} {j : Nat} {t : TypeId} {d : DataW H} (ht : ts[j]? = some t) (hd : ds[j]? = some d) (h : ∀ n ∈ DataW.weightsEach P ts ds, n ≤ B) : ∀ n ∈ d.weights P t, n ≤ B :=
  fun n hn => h n (DataW.weights_mem_each ht hd n hn)
theorem weightsAll_get {e : TypeId} {ds : List (DataW H)} {d : DataW H} (hd : d ∈ ds) (h : ∀ n ∈ DataW.weightsAll P e ds, n ≤ B) : ∀ n ∈ d.weights P e, n ≤ B := by
  intro n hn
  induction ds with
  | nil => cases hd
  | cons x r ih =>
    simp only [DataW.weightsAll, List.mem_append] at h
    rcases List.mem_cons.1 hd with rfl | hd
    · exact h n (.inl hn)
    · exact ih hd fun n hn => h n (.inr hn)
theorem InB.struct {t : TypeId} {fs : Array Field} {cs : List Value} (ht : P.underlying t = some (.struct fs)) (h : InB B enc P W t cs) :
    cs.length = P.cellsOf t ∧ ∀ (i : Nat) (f : Field), fs[i]? = some f → InB B enc P W f.type ((cs.drop f.offset).take (P.cellsOf f.type)) := by
  obtain ⟨fuel, d, p, h1, hw⟩ := h
  obtain ⟨xs, n, -, hx, hl, hl2, hf⟩ := DataW.trod_struct ht h1
  simp only [Prod.mk.injEq] at hx
  obtain ⟨rfl, -⟩ := hx
  refine ⟨hl, fun i f hi => ?_⟩
  have hlt : i < xs.length := by rw [hl2]; exact (Array.getElem?_eq_some_iff.1 hi).1
  refine ⟨n, xs[i].1, xs[i].2, by rw [hf i f hi, List.getElem?_eq_getElem hlt], ?_⟩
  simp only [DataW.weights, ht] at hw
  exact weightsEach_get (ts := fs.toList.map (·.type)) (ds := xs.map (·.1)) (j := i) (by simp [hi]) (by simp [List.getElem?_eq_getElem hlt]) hw
theorem InB.slice {t e : TypeId} {cs : List Value} (ht : P.underlying t = some (.slice e)) (hz : 0 < P.cellsOf e) (h : InB B enc P W t cs) :
    ∃ v n xs, cs = [v] ∧ Rd W (P.cellsOf e) v n xs ∧ n * P.bytesOf e ≤ B ∧ ∀ k, k < n → InB B enc P W e ((xs.drop (k * P.cellsOf e)).take (P.cellsOf e)) := by
  obtain ⟨fuel, d, p, h1, hw⟩ := h
  rcases DataW.trod_slice ht h1 with ⟨rfl, hx⟩ | ⟨a, len, cap, elems, rest, n, -, rfl, hx, -, hl, hm, hel, hget, -⟩
  · exact ⟨_, 0, [], rfl, ⟨by simp, none, 0, rfl, by simp, by decide, fun h => absurd h (by decide)⟩, by simp, fun k hk => absurd hk (by omega)⟩
  simp only [Prod.mk.injEq] at hx
  obtain ⟨rfl, -⟩ := hx
  simp only [DataW.weights, ht, List.mem_cons, List.mem_append] at hw
  have h2 := hw _ (.inl rfl)
  simp only [List.length_map] at h2
  have key : ∀ i, i < len → ∃ cs, W.cells? 0 (a.add (i * P.cellsOf e)) (P.cellsOf e) = some cs ∧ InB B enc P W e cs := by
    intro i hi
    have h3 := hget i hi
    have hi2 : i < elems.length := by omega
    rw [List.getElem?_eq_getElem hi2] at h3
    obtain ⟨cs, e1, e2⟩ := Option.bind_eq_some_iff.1 h3
    exact ⟨cs, e1, n, elems[i].1, elems[i].2, e2, fun m hm => weightsAll_get (ds := elems.map (·.1)) (List.mem_map.2 ⟨elems[i], List.getElem_mem hi2, rfl⟩) (fun n hn => hw n (.inr (.inl hn))) m hm⟩
  obtain ⟨C, hC⟩ : ∃ C : Nat → List Value, ∀ i, i < len → W.cells? 0 (a.add (i * P.cellsOf e)) (P.cellsOf e) = some (C i) ∧ InB B enc P W e (C i) := by
    classical
    exact ⟨fun i => if hi : i < len then Classical.choose (key i hi) else [], fun i hi => by simp only [dif_pos hi]; exact Classical.choose_spec (key i hi)⟩
  have spot : 0 < len → a.spot = none := by
    intro hp
    obtain ⟨-, -, hc⟩ := World.cells?_some (hC 0 hp).1
    have h3 := hc 0 hz
    have hlen := (World.cells?_some (hC 0 hp).1).2.1
    rw [List.getElem?_eq_getElem (by omega)] at h3
    simp only [Nat.zero_mul, Addr.add, if_true] at h3
    unfold World.cell? at h3
    cases hs : a.spot with
    | none => rfl
    | some q => rw [hs] at h3; split at h3 <;> simp at h3
  let xs : List Value := (List.range len).flatMap C
  have hlC : ∀ i, i < len → (C i).length = P.cellsOf e := fun i hi => (World.cells?_some (hC i hi).1).2.1
  have hflat : ∀ m, m ≤ len → ((List.range m).flatMap C).length = m * P.cellsOf e := by
    intro m hm
    induction m with
    | zero => simp
    | succ m ih => rw [List.range_succ, List.flatMap_append, List.length_append, ih (by omega)]; simp [hlC m (by omega), Nat.succ_mul]
  have hcut : ∀ k, k < len → ((xs.drop (k * P.cellsOf e)).take (P.cellsOf e)) = C k := by
    intro k hk
    show ((((List.range len).flatMap C).drop (k * P.cellsOf e)).take (P.cellsOf e)) = C k
    have e1 : List.range len = List.range k ++ [k] ++ (List.range (len - (k + 1))).map ((k + 1) + ·) := by
      have := @List.range_add (k + 1) (len - (k + 1))
      rw [show k + 1 + (len - (k + 1)) = len by omega] at this
      rw [this, List.range_succ]
    have hk1 := hflat k (by omega)
    have hck := hlC k hk
    rw [e1, List.flatMap_append, List.flatMap_append, List.append_assoc]
    rw [List.drop_append, hk1]
    simp [hk1, List.take_append, hck]
  refine ⟨_, len, xs, rfl, ⟨hflat len (Nat.le_refl _), some a, cap, rfl, hl, by unfold maxLen at hm; omega, fun hp => ⟨a.block, a.off, ?_, fun j hj => ?_⟩⟩, ?_, fun k hk => ?_⟩
  · have := spot hp; cases a; simp_all
  · have hk : j / P.cellsOf e < len := Nat.div_lt_of_lt_mul (by rw [Nat.mul_comm]; exact hj)
    have hr : j % P.cellsOf e < P.cellsOf e := Nat.mod_lt _ hz
    have hc := (World.cells?_some (hC _ hk).1).2.2 _ hr
    have e0 : a = ⟨a.block, a.off, none⟩ := by have := spot hp; cases a; simp_all
    have ej : j / P.cellsOf e * P.cellsOf e + j % P.cellsOf e = j := by rw [Nat.mul_comm]; exact Nat.div_add_mod ..
    rw [e0, add_at, add_at, Nat.add_assoc, ej] at hc
    rw [hc, ← hcut _ hk, List.getElem?_take_of_lt hr, List.getElem?_drop, ej, List.getD_eq_getElem?_getD, List.getElem?_eq_getElem (by show j < ((List.range len).flatMap C).length; rw [hflat len (Nat.le_refl _)]; exact hj)]
    rfl
  · have : len * P.bytesOf e ≤ (elems.length + rest.length) * P.bytesOf e := Nat.mul_le_mul_right _ (by omega)
    omega
  · rw [hcut k hk]; exact (hC k hk).2
theorem InB.ints {t e : TypeId} {k : IntKind} {cs : List Value} (ht : P.underlying t = some (.slice e)) (he : P.underlying e = some (.int k)) (hc : P.cellsOf e = 1) (h : InB B enc P W t cs) :
    ∃ v l, cs = [v] ∧ RdI W k v l ∧ l.length * P.bytesOf e ≤ B ∧ ∀ n ∈ l, (Lit.int k n).wf = true := by
  obtain ⟨v, n, xs, e1, h1, h2, h3⟩ := h.slice ht (by omega)
  rw [hc] at h1 h3
  have hx : ∀ i, i < n → ∃ m, xs[i]? = some (.int k m) ∧ (Lit.int k m).wf = true := by
    intro i hi
    obtain ⟨m, e2, hw⟩ := (h3 i hi).int he
    have hl := h1.len
    refine ⟨m, ?_, hw⟩
    have := congrArg (fun l => l[0]?) e2
    simpa [List.getElem?_take, List.getElem?_drop] using this
  let l := xs.map fun | .int _ m => m | _ => 0
  have hl : l.length = n := by simp only [l, List.length_map]; have := h1.len; omega
  have hxs : xs = l.map (Value.int k) := by
    apply List.ext_getElem?
    intro i
    by_cases hi : i < n
    · obtain ⟨m, e2, -⟩ := hx i hi
      simp [l, e2]
    · have : xs.length ≤ i := by have := h1.len; omega
      simp [l, List.getElem?_eq_none this]
  refine ⟨v, l, e1, by rw [RdI, hl, ← hxs]; exact h1, by rw [hl]; exact h2, fun m hm => ?_⟩
  obtain ⟨i, hi⟩ := List.getElem?_of_mem hm
  have hi2 : i < n := by have := (List.getElem?_eq_some_iff.1 hi).1; omega
  obtain ⟨m', e2, hw⟩ := hx i hi2
  simp only [l, List.getElem?_map, e2, Option.map_some, Option.some.injEq] at hi
  subst hi
  exact hw

/-- Of n readings, one list. -/
theorem list_of {α : Type _} [Inhabited α] {n : Nat} {p : Nat → α → Prop} (h : ∀ k, k < n → ∃ l, p k l) (d : α) : ∃ ls : List α, ls.length = n ∧ ∀ k, k < n → p k (ls.getD k d) := by
  induction n with
  | zero => exact ⟨[], rfl, fun k hk => absurd hk (by omega)⟩
  | succ n ih =>
    obtain ⟨ls, h1, h2⟩ := ih fun k hk => h k (by omega)
    obtain ⟨l, hl⟩ := h n (by omega)
    refine ⟨ls ++ [l], by simp [h1], fun k hk => ?_⟩
    by_cases hkn : k < n
    · rw [List.getD_eq_getElem?_getD, List.getElem?_append_left (by omega), ← List.getD_eq_getElem?_getD]; exact h2 k hkn
    · obtain rfl : k = n := by omega
      rw [List.getD_eq_getElem?_getD, List.getElem?_append_right (by omega), h1, Nat.sub_self]; exact hl
theorem InB.row {t e q : TypeId} {k : IntKind} {cs : List Value} (ht : P.underlying t = some (.slice e)) (he : P.underlying e = some (.slice q)) (hq : P.underlying q = some (.int k)) (ce : P.cellsOf e = 1) (cq : P.cellsOf q = 1) (h : InB B enc P W t cs) :
    ∃ (v : Value) (vs : List Value) (ls : List (List Int)), cs = [v] ∧ Rd W 1 v ls.length vs ∧ ls.length * P.bytesOf e ≤ B ∧ ∀ j, j < ls.length → RdI W k (vs.getD j undef) (ls.getD j []) ∧ (ls.getD j []).length * P.bytesOf q ≤ B ∧ ∀ n ∈ ls.getD j [], (Lit.int k n).wf = true := by
  obtain ⟨v, n, vs, e1, h1, h2, h3⟩ := h.slice ht (by omega)
  rw [ce] at h1 h3
  obtain ⟨ls, rfl, hls⟩ := list_of (n := n) (p := fun j l => RdI W k (vs.getD j undef) l ∧ l.length * P.bytesOf q ≤ B ∧ ∀ n ∈ l, (Lit.int k n).wf = true) (fun j hj => by
    obtain ⟨u, l, e3, g4, hb4, hw⟩ := (h3 j hj).ints he hq cq
    obtain rfl : vs.getD j undef = u := by
      have := congrArg (fun l => l[0]?) e3
      simp [List.getElem?_drop] at this
      rw [List.getD_eq_getElem?_getD, this]; rfl
    exact ⟨l, g4, hb4, hw⟩) []
  exact ⟨v, vs, ls, e1, h1, h2, hls⟩

theorem trodAll_ins : ∀ {ts : List TypeId} {vs : List Value} {ds : List (DataW H)} {p : List MemPlace}, DataW.TrodAll enc P W 0 (fun _ => true) true ts vs ds p → (∀ n ∈ DataW.weightsEach P ts ds, n ≤ B) →
    vs.length = ts.length ∧ ds.length = ts.length ∧ ∀ (j : Nat) t v, ts[j]? = some t → vs[j]? = some v → InB B enc P W t v.cells.toList
  | [], _, _, _, h, _ => by obtain ⟨rfl, rfl, rfl⟩ := trodAll_nil h; simp
  | t :: ts, _, _, _, h, hw => by
    obtain ⟨v, vs1, d, ds1, a, b, rfl, rfl, rfl, ⟨fuel, h1⟩, h2⟩ := trodAll_cons h
    simp only [DataW.weightsEach, List.mem_append] at hw
    obtain ⟨i1, i2, i3⟩ := trodAll_ins h2 fun n hn => hw n (.inr hn)
    refine ⟨by simp [i1], by simp [i2], fun j t' v' ht hv => ?_⟩
    cases j with
    | zero =>
      simp only [List.getElem?_cons_zero, Option.some.injEq] at ht hv
      subst ht; subst hv
      exact ⟨fuel, d, a, h1, fun n hn => hw n (.inl hn)⟩
    | succ j => exact i3 j t' v' (by simpa using ht) (by simpa using hv)

/-- Each argument has its outer form, and reads. -/
def InsB (B : Nat) (enc : TypeId × Value → H) (P : Program) (W : World) : List TypeId → List Value → Prop
  | [], [] => True
  | t :: ts, v :: vs => (∃ base, Value.okWide P W .any base t v) ∧ InB B enc P W t v.cells.toList ∧ InsB B enc P W ts vs
  | _, _ => False
abbrev Ins (enc : TypeId × Value → H) (P : Program) (W : World) (ts : List TypeId) (vs : List Value) : Prop := InsB reachBytes enc P W ts vs
theorem InsB.mk : ∀ {ts : List TypeId} {vs : List Value}, vs.length = ts.length → (∀ (j : Nat) t v, ts[j]? = some t → vs[j]? = some v → (∃ base, Value.okWide P W .any base t v) ∧ InB B enc P W t v.cells.toList) → InsB B enc P W ts vs
  | [], [], _, _ => trivial
  | t :: ts, v :: vs, h, k => ⟨(k 0 t v rfl rfl).1, (k 0 t v rfl rfl).2, InsB.mk (by simpa using h) fun j t' v' ht hv => k (j + 1) t' v' (by simpa using ht) (by simpa using hv)⟩
  | [], _ :: _, h, _ => by simp at h
  | _ :: _, [], h, _ => by simp at h
theorem InsB.nil {args : Array Value} (h : InsB B enc P W [] args.toList) : args = #[] := by rcases args with ⟨_ | ⟨_, _⟩⟩ <;> simp_all [InsB]
theorem InsB.cons {t : TypeId} {ts : List TypeId} {vs : List Value} (h : InsB B enc P W (t :: ts) vs) : ∃ v vs', vs = v :: vs' ∧ (∃ base, Value.okWide P W .any base t v) ∧ InB B enc P W t v.cells.toList ∧ InsB B enc P W ts vs' := by
  cases vs with
  | nil => exact h.elim
  | cons v vs' => exact ⟨v, vs', rfl, h⟩
theorem InsB.nil' {vs : List Value} (h : InsB B enc P W [] vs) : vs = [] := by cases vs with | nil => rfl | cons _ _ => exact h.elim
theorem InsB.one {args : Array Value} {t : TypeId} (h : InsB B enc P W [t] args.toList) : ∃ v, args = #[v] ∧ (∃ base, Value.okWide P W .any base t v) ∧ InB B enc P W t v.cells.toList := by
  obtain ⟨v, vs, e, h1, h2, h3⟩ := h.cons; obtain rfl := h3.nil'; exact ⟨v, by cases args; simp_all, h1, h2⟩
theorem InsB.two {args : Array Value} {t t' : TypeId} (h : InsB B enc P W [t, t'] args.toList) : ∃ v v', args = #[v, v'] ∧ ((∃ base, Value.okWide P W .any base t v) ∧ InB B enc P W t v.cells.toList) ∧ ((∃ base, Value.okWide P W .any base t' v') ∧ InB B enc P W t' v'.cells.toList) := by
  obtain ⟨v, vs, e, h1, h2, h3⟩ := h.cons; obtain ⟨v', vs', rfl, h1', h2', h3'⟩ := h3.cons; obtain rfl := h3'.nil'
  exact ⟨v, v', by cases args; simp_all, ⟨h1, h2⟩, ⟨h1', h2'⟩⟩
theorem InsB.three {args : Array Value} {t t' t'' : TypeId} (h : InsB B enc P W [t, t', t''] args.toList) : ∃ v v' v'', args = #[v, v', v''] ∧ ((∃ base, Value.okWide P W .any base t v) ∧ InB B enc P W t v.cells.toList) ∧ ((∃ base, Value.okWide P W .any base t' v') ∧ InB B enc P W t' v'.cells.toList) ∧ ((∃ base, Value.okWide P W .any base t'' v'') ∧ InB B enc P W t'' v''.cells.toList) := by
  obtain ⟨v, vs, e, h1, h2, h3⟩ := h.cons; obtain ⟨v', vs', rfl, h1', h2', h3'⟩ := h3.cons; obtain ⟨v'', vs'', rfl, h1'', h2'', h3''⟩ := h3'.cons; obtain rfl := h3''.nil'
  exact ⟨v, v', v'', by cases args; simp_all, ⟨h1, h2⟩, ⟨h1', h2'⟩, ⟨h1'', h2''⟩⟩

theorem trodAll_len {base : Nat} {sp : Nat → Bool} {held : Bool} : ∀ {ts : List TypeId} {vs : List Value} {ds : List (DataW H)} {p : List MemPlace}, DataW.TrodAll enc P W base sp held ts vs ds p → vs.length = ts.length ∧ ds.length = ts.length
  | [], _, _, _, h => by obtain ⟨rfl, rfl, rfl⟩ := trodAll_nil h; simp
  | t :: ts, _, _, _, h => by
    obtain ⟨v, vs1, d, ds1, a, b, rfl, rfl, rfl, _, h2⟩ := trodAll_cons h
    obtain ⟨i1, i2⟩ := trodAll_len h2
    simp [i1, i2]
/-- Of what came in nothing has turned: it reads as it did. -/
theorem trodAll_stay (hl : laidOutB P = true) {W' : World} (hb : Below W.heap.size W W') : ∀ {ts : List TypeId} {vs : List Value} {ds : List (DataW H)} {p : List MemPlace}, (∀ t ∈ ts, P.readableRec t = true ∧ t < P.types.size) →
    DataW.TrodAll enc P W 0 (fun _ => true) true ts vs ds p → (∀ x ∈ p, x.block < W.heap.size) → DataW.TrodAll enc P W' 0 (fun b => decide (b < W.heap.size)) true ts vs ds p
  | [], _, _, _, _, h, _ => by obtain ⟨rfl, rfl, rfl⟩ := trodAll_nil h; exact trodAll_mk0
  | t :: ts, _, _, _, ht, h, hp => by
    obtain ⟨v, vs1, d, ds1, a, b, rfl, rfl, rfl, h1, h2⟩ := trodAll_cons h
    have hq := ht t (by simp)
    exact ⟨a, b, Below.trod hl hq.1 hq.2 h1 hb (fun x hx => hp x (by simp [hx])), trodAll_stay hl hb (fun t' h' => ht t' (by simp [h'])) h2 (fun x hx => hp x (by simp [hx])), rfl⟩
end

theorem len_one {α : Type _} {l : List α} (h : l.length = 1) : ∃ a, l = [a] := by match l, h with | [a], _ => exact ⟨a, rfl⟩
theorem len_two {α : Type _} {l : List α} (h : l.length = 2) : ∃ a b, l = [a, b] := by match l, h with | [a, b], _ => exact ⟨a, b, rfl⟩
theorem len_three {α : Type _} {l : List α} (h : l.length = 3) : ∃ a b c, l = [a, b, c] := by match l, h with | [a, b, c], _ => exact ⟨a, b, c, rfl⟩

/-- What a law's row asks of a call's end, of what its walk shows. -/
theorem law_post {H : Type} {enc : TypeId × Value → H} {P : Program} {fn : Func} {s : ChangeSpec} {tb : TypeId} {ts : List TypeId} (laid : laidOutB P = true) (hpn : fn.params.toList = ts) (hres : fn.resultTypes = #[tb]) (htb : P.underlying tb = some .bool) (hvars : s.vars = [])
    (hts : ts.all (fun t => P.readableRec t && decide (t < P.types.size)) = true) (hspec : ∀ ds : List (DataW H), ds.length = ts.length → s.fn H ds = { results := [.lit (.bool true)], args := ds })
    {W W' : World} {args : Array Value} {ds gs : List (DataW H)} {before : List MemPlace} (hW : DataW.Whole enc P fn.params.toList s.vars false W args.toList ds gs before) (hb : Below W.heap.size W W') :
    s.post enc P fn false true false false W args (.bool true) W' := by
  have hW' := hW
  obtain ⟨p, q, hA, hV, rfl, hfz, hnd⟩ := hW
  rw [hvars] at hV
  obtain ⟨rfl, rfl⟩ : gs = [] ∧ q = [] := by cases gs <;> simp_all [DataW.TrodVars]
  have hn2 : ds.length = ts.length := by rw [← hpn]; exact (trodAll_len hA).2
  have hlt : ∀ x ∈ p, x.block < W.heap.size := fun x hx => by simpa using hW'.lt x (by simpa using hx)
  have hl := hspec ds hn2
  refine ⟨ds, [], p ++ [], [], p, [], hW', ?_, ?_, ?_, hb.frame _, fun h => by cases h⟩
  · rw [hres, List.append_nil, hl]
    exact trodAll_mk1 (shut_bool htb true)
  · rw [List.append_nil, hl]
    exact trodAll_stay laid hb (fun t ht => by simpa using List.all_eq_true.1 hts t (by rw [← hpn]; exact ht)) hA hlt
  · rw [hvars, List.append_nil, hl]
    rfl
/-- What a law's call is handed. -/
theorem law_ins {H : Type} {enc : TypeId × Value → H} {P : Program} {fn : Func} {s : ChangeSpec} {ts : List TypeId} (hpn : fn.params.toList = ts) (hvars : s.vars = []) {W : World} {base : Nat} {args : Array Value} {ds gs : List (DataW H)} {before : List MemPlace}
    (hval : ∀ (j : Nat) t v, fn.params[j]? = some t → args[j]? = some v → Value.okWide P W .any base t v) (hW : DataW.Whole enc P fn.params.toList s.vars false W args.toList ds gs before)
    (hwt : (DataW.weightsEach P (fn.params.toList ++ s.plain.varTypes P) (ds ++ gs)).all (· ≤ reachBytes) = true) : Ins enc P W ts args.toList := by
  obtain ⟨p, q, hA, hV, rfl, hfz, hnd⟩ := hW
  rw [hvars] at hV
  obtain ⟨rfl, rfl⟩ : gs = [] ∧ q = [] := by cases gs <;> simp_all [DataW.TrodVars]
  have hw2 : ∀ n ∈ DataW.weightsEach P fn.params.toList ds, n ≤ reachBytes := by
    have e0 : s.plain.varTypes P = [] := by simp [ChangeSpec.plain, DataSpec.varTypes, hvars]
    rw [e0, List.append_nil, List.append_nil] at hwt
    simpa using hwt
  obtain ⟨hn1, hn2, hin⟩ := trodAll_ins hA hw2
  rw [← hpn]
  exact InsB.mk hn1 fun j t v ht hv => ⟨⟨base, hval j t v (by simpa using ht) (by simpa using hv)⟩, hin j t v ht hv⟩

/-- A law's row, of its walk: it answers true, and of what it was handed nothing turns. -/
theorem law_lift {H : Type} {enc : TypeId × Value → H} {a : Assume} {C : Checked} {os : Os} {f : FuncId} {fn : Func} {s : ChangeSpec} {conds : List PathCond} {tb : TypeId} (ts : List TypeId)
    (own : ownKnob C.prog.godebug = none) (laid : laidOutB C.prog = true) (started : os.Started) (noInit : C.prog.inits.idxOf? f = none) (hfn : C.prog.funcs[f]? = some fn)
    (hpn : fn.params.toList = ts) (hres : fn.resultTypes = #[tb]) (htb : C.prog.underlying tb = some .bool) (hvars : s.vars = [])
    (hts : ts.all (fun t => C.prog.readableRec t && decide (t < C.prog.types.size)) = true)
    (hspec : ∀ ds : List (DataW H), ds.length = ts.length → s.fn H ds = { results := [.lit (.bool true)], args := ds })
    (witness : ∃ (w : World) (tape : Tape) (i : Input), w.os = os ∧ (w.forCall tape i).Shaped C.prog ∧ i.vars = [] ∧ Input.okWide C.prog (w.forCall tape i) .any w.heap.size f i ∧
      s.pre6 enc C.prog fn conds false (w.forCall tape i).memory i.args ∧ a.holds C.prog (lone (Frame.enter C.prog f i.args .normal) [] (w.forCall tape i)))
    (walk : ∀ (W : World) (args : Array Value), Ins enc C.prog W ts args.toList → Ret C.prog f args W fun v W' => v = .bool true ∧ Below W.heap.size W W') :
    ReturnsInHanded a C os f .any (s.pre6 enc C.prog fn conds false) (s.post enc C.prog fn false true false false) := by
  refine returnsInHanded_of_change_sized own started noInit hfn witness ?_
  intro W base args ds gs before hval hW hcnd hwt hh
  exact Calls.mono (walk W args (law_ins hpn hvars hval hW hwt)) fun e W' ⟨v, he, hv, hb⟩ => ⟨v, he, by subst hv; exact law_post laid hpn hres htb hvars hts hspec hW hb⟩
/-- The same of a row that lists package-level variables. -/
theorem law_lift_laid {H : Type} {enc : TypeId × Value → H} {a : Assume} {C : Checked} {os : Os} {f : FuncId} {fn : Func} {s : ChangeSpec} {conds : List PathCond} {tb : TypeId} (ts : List TypeId) {lay : List (String × DataW Unit)}
    (own : ownKnob C.prog.godebug = none) (laid : laidOutB C.prog = true) (started : os.Started) (noInit : C.prog.inits.idxOf? f = none) (hfn : C.prog.funcs[f]? = some fn)
    (hpn : fn.params.toList = ts) (hres : fn.resultTypes = #[tb]) (htb : C.prog.underlying tb = some .bool) (hvars : s.vars = [])
    (hts : ts.all (fun t => C.prog.readableRec t && decide (t < C.prog.types.size)) = true)
    (hspec : ∀ ds : List (DataW H), ds.length = ts.length → s.fn H ds = { results := [.lit (.bool true)], args := ds })
    (witness : ∃ (w : World) (tape : Tape) (i : Input), w.os = os ∧ (w.forCall tape i).Shaped C.prog ∧ i.vars = [] ∧ Input.okWide C.prog (w.forCall tape i) .any w.heap.size f i ∧
      ((s.pre enc C.prog fn conds false (w.forCall tape i).memory i.args ∧ laidMetH C.prog lay (w.forCall tape i).memory) ∧ sizedMet enc C.prog fn (OpenSpec.ofChange s) false (w.forCall tape i).memory i.args) ∧ a.holds C.prog (lone (Frame.enter C.prog f i.args .normal) [] (w.forCall tape i)))
    (walk : ∀ (W : World) (args : Array Value), laidMetH C.prog lay W → Ins enc C.prog W ts args.toList → Ret C.prog f args W fun v W' => v = .bool true ∧ Below W.heap.size W W') :
    ReturnsInHanded a C os f .any (fun w args => (s.pre enc C.prog fn conds false w args ∧ laidMetH C.prog lay w) ∧ sizedMet enc C.prog fn (OpenSpec.ofChange s) false w args) (s.post enc C.prog fn false true false false) := by
  refine returnsInHanded_of_change_and (X := fun w _ => laidMetH C.prog lay w) (fun _ _ _ hh h => h.of_heap hh) own started noInit hfn witness ?_
  intro W base args ds gs before hval hW hcnd hwt hL hh
  exact Calls.mono (walk W args hL (law_ins hpn hvars hval hW hwt)) fun e W' ⟨v, he, hv, hb⟩ => ⟨v, he, by subst hv; exact law_post laid hpn hres htb hvars hts hspec hW hb⟩
end Go.Proofs.Ytgoopiakpbcgoaa
