import Derived.Test.YtgmpclifphbjkaaZ3
import Derived.Lib.AppendZeros
import Derived.Test.YtgmpclifphbjkaaProg
/- Texts of mine, joined: Lit Equal Slices. -/
section
/- Slice literals; struct values; conversions of text; more on rows. -/
set_option linter.unusedSimpArgs false
set_option linter.unusedVariables false
namespace Go.Proofs.Ytgmpclifphbjkaa
open Go.RowKit

/-- F reads the slice v so. -/
def FRd (w0 : World) (F : HP) (sz : Nat) (v : Value) (n : Nat) (xs : List Value) : Prop := ∀ W, Holds w0 W F → Rd W sz v n xs
def FRdI (w0 : World) (F : HP) (k : IntKind) (v : Value) (l : List Int) : Prop := ∀ W, Holds w0 W F → RdI W k v l
abbrev RowI (e : TypeId) (k : IntKind) (v : Value) (l : List Int) : HP := Row e 1 v l.length (l.map (Value.int k))
theorem FRdI.of_start {w0 : World} {k : IntKind} {v : Value} {l : List Int} (h : RdI w0 k v l) (F : HP) : FRdI w0 F k v l := fun W H => Holds.rd H h
theorem FRd.of_start {w0 : World} {sz : Nat} {v : Value} {n : Nat} {xs : List Value} (h : Rd w0 sz v n xs) (F : HP) : FRd w0 F sz v n xs := fun W H => Holds.rd H h
theorem FRdI.under {w0 : World} {F A : HP} {k : IntKind} {v : Value} {l : List Int} (h : FRdI w0 F k v l) : FRdI w0 (A • F) k v l := fun W H => h W H.right
theorem FRd.under {w0 : World} {F A : HP} {sz : Nat} {v : Value} {n : Nat} {xs : List Value} (h : FRd w0 F sz v n xs) : FRd w0 (A • F) sz v n xs := fun W H => h W H.right
theorem RowI.frd {w0 : World} {F : HP} {e : TypeId} {k : IntKind} {v : Value} {l : List Int} : FRdI w0 (RowI e k v l • F) k v l := fun W H => H.row_rd
theorem ints_one (k : IntKind) (l : List Int) : ∀ u ∈ l.map (Value.int k), u.oneCell' = true := by
  intro u hu; obtain ⟨x, _, rfl⟩ := List.mem_map.1 hu; rfl
theorem RdI.nil (w : World) (k : IntKind) (a : Option Addr) (c : Nat) (hc : (c : Int) ≤ 9223372036854775807) : RdI w k (.slice a 0 c) [] := ⟨by simp, a, c, rfl, by simp, hc, fun h => by simp at h⟩
theorem Rd.slice_form {w : World} {sz : Nat} {v : Value} {n : Nat} {xs : List Value} (h : Rd w sz v n xs) : ∃ a c, v = .slice a n c := let ⟨a, c, e, _⟩ := h.form; ⟨a, c, e⟩
theorem Rd.one {w : World} {sz : Nat} {v : Value} {n : Nat} {xs : List Value} (h : Rd w sz v n xs) : v.oneCell' = true := by obtain ⟨a, c, rfl⟩ := h.slice_form; rfl

theorem FRd.cell {w0 W : World} {F : HP} {sz n c : Nat} {a : Option Addr} {xs : List Value} (h : FRd w0 F sz (.slice a n c) n xs) (H : Holds w0 W F) {j : Nat} (hj : j < n * sz) : ∃ b o, a = some ⟨b, o, none⟩ ∧ W.cell? ⟨b, o + j, none⟩ = some (xs.getD j undef) := by
  obtain ⟨_, a', c', e, _, _, hc⟩ := h W H
  cases e
  obtain ⟨b, o, e, hc⟩ := hc (by rcases Nat.eq_zero_or_pos n with h | h; (subst h; omega); exact h)
  exact ⟨b, o, e, hc j hj⟩
theorem FRdI.cell {w0 W : World} {F : HP} {k : IntKind} {n c : Nat} {a : Option Addr} {l : List Int} (h : FRdI w0 F k (.slice a n c) l) (H : Holds w0 W F) {j : Nat} (hj : j < l.length) : ∃ b o, a = some ⟨b, o, none⟩ ∧ W.cell? ⟨b, o + j, none⟩ = some (.int k (l.getD j 0)) := by
  obtain ⟨a', c', e, _, _, hc⟩ := (h W H).open
  cases e
  obtain ⟨b, o, e, hc⟩ := hc (by omega)
  exact ⟨b, o, e, hc j hj⟩
theorem RdI.cell {W : World} {k : IntKind} {n c : Nat} {a : Option Addr} {l : List Int} (h : RdI W k (.slice a n c) l) {j : Nat} (hj : j < l.length) : ∃ b o, a = some ⟨b, o, none⟩ ∧ W.cell? ⟨b, o + j, none⟩ = some (.int k (l.getD j 0)) := by
  obtain ⟨a', c', e, _, _, hc⟩ := h.open
  cases e
  obtain ⟨b, o, e, hc⟩ := hc (by omega)
  exact ⟨b, o, e, hc j hj⟩
theorem flat_succ {α : Type} (ls : List (List α)) {k : Nat} (h : k < ls.length) : (ls.take (k + 1)).flatten = (ls.take k).flatten ++ ls.getD k [] := by
  rw [List.take_succ_eq_append_getElem h, List.flatten_append]
  simp [List.getD_eq_getElem?_getD, h]
theorem flat_le {α : Type} (ls : List (List α)) (k : Nat) : (ls.take k).flatten.length ≤ ls.flatten.length := by
  conv => rhs; rw [← List.take_append_drop k ls, List.flatten_append, List.length_append]
  omega
def evp (L : List (Nat × Value)) : List (Nat × Operand) → Option (List (Nat × Value))
  | [] => some []
  | (i, x) :: r => match ev L x with
    | some v => match evp L r with
      | some vs => some ((i, v) :: vs)
      | none => none
    | none => none
theorem evp_map {L : List (Nat × Value)} {ρ : Operand → Value} (hρ : ∀ x u, ev L x = some u → ρ x = u) : ∀ (ps : List (Nat × Operand)) (vs : List (Nat × Value)), evp L ps = some vs → ps.map (fun p => (p.1, ρ p.2)) = vs
  | [], vs, h => by simp [evp] at h; simp [h]
  | (i, x) :: r, vs, h => by
    simp only [evp] at h
    cases h1 : ev L x with
    | none => simp [h1] at h
    | some v =>
      cases h2 : evp L r with
      | none => simp [h1, h2] at h
      | some us =>
        simp [h1, h2] at h
        subst h
        simp [hρ _ _ h1, evp_map hρ r us h2]

/-- Values at consecutive places. -/
def placed : Nat → List Value → List (Nat × Value)
  | _, [] => []
  | i, v :: r => (i, v) :: placed (i + 1) r
theorem one_cells {v : Value} (h : v.oneCell' = true) : v.cells = #[v] := by cases v <;> simp_all [Value.cells, Value.oneCell']

theorem fill_ones (vs : List Value) : ∀ (i : Nat) (cells : Array Value), (∀ v ∈ vs, v.oneCell' = true) → cells.size = i + vs.length →
    Instr.fill (fun i => some (i, 1)) cells (placed i vs) = some (cells.toList.take i ++ vs).toArray := by
  induction vs with
  | nil => intro i cells _ hs; simp [placed, Instr.fill, List.take_of_length_le (show cells.toList.length ≤ i by simp; simp at hs; omega)]
  | cons v r ih =>
    intro i cells h1 hs
    simp only [placed, Instr.fill]
    have hc := one_cells (h1 v (by simp))
    simp only [hc, List.size_toArray, List.length_cons, List.length_nil, Nat.zero_add, ne_eq, not_true_eq_false, decide_false, Bool.false_or]
    rw [if_neg (by simp at hs ⊢; omega)]
    have : (#[v] : Array Value).zipIdx.foldl (fun cs (x : Value × Nat) => cs.setIfInBounds (i + x.2) x.1) cells = cells.setIfInBounds i v := by simp
    rw [this, ih (i + 1) _ (fun u hu => h1 u (by simp [hu])) (by simp at hs ⊢; omega)]
    congr 2
    have hi : i < cells.toList.length := by simp at hs ⊢; omega
    rw [Array.toList_setIfInBounds, List.take_succ_eq_append_getElem (by simpa using hi), List.take_set_of_le (Nat.le_refl _)]
    simp

section
variable {P : Program} {L : List (Nat × Value)} {w0 w : World} {F : HP} {ty : TypeId}
/-- A slice literal of elements of one cell each. -/
theorem e_lit {t e n : Nat} {ps : List (Nat × Operand)} {vs : List Value} {z : Value} (H : Holds w0 w F) (ht : P.underlying t = some (.slice e)) (hs : ∀ w, (sizeOf e).run P w = .ok 1 w) (hz : ∀ w, (zeroValue e).run P w = .ok z w) (hz1 : z.cells.size = 1)
    (hp : evp L ps = some (placed 0 vs)) (hn : vs.length = n) (hn24 : n ≤ 16777216) (h1 : ∀ v ∈ vs, v.oneCell' = true) :
    Eff P L (.buildSlice t n ps.toArray) ty w fun v w' => ∃ b, v = .slice (some ⟨b, 0, none⟩) n n ∧ Holds w0 w' (blk b (.cells vs.toArray e (0, 0)) • F) := by
  refine e_val (v := .slice (some ⟨w.heap.size, 0, none⟩) n n) (w' := w.alloc (.cells vs.toArray e)) ?_ ⟨_, rfl, H.alloc _⟩
  intro ρ hρ d pos aft g
  have hm := evp_map hρ _ _ hp
  have hm' : (ps.toArray.map fun x => (x.1, ρ x.2)).toList = placed 0 vs := by simpa using hm
  have hf : ∀ cells : Array Value, cells.size = n → Instr.fill (fun i => some (i, 1)) cells (List.map (fun x => (x.fst, ρ x.snd)) ps) = some vs.toArray := fun cells hc => by
    rw [hm, fill_ones vs 0 cells h1 (by omega)]; simp
  simp only [execOp, Instr.buildSlice, Sem.run_bind, run_underlying ht, Result.andThen_ok, hs]
  rw [if_neg (by omega)]
  by_cases h0 : n = 0
  · subst h0
    have hf0 := hf (Array.map (fun _ => default) (Array.range 0)) (by simp)
    simp [hf0, newRow]
  · have hf1 := hf ((Array.range n).map (z.cells[· % z.cells.size]!)) (by simp)
    simp [h0, hz, hf1, newRow]
/-- .. as an owned row. -/
theorem e_lit_row {t e n : Nat} {ps : List (Nat × Operand)} {vs : List Value} {z : Value} (H : Holds w0 w F) (ht : P.underlying t = some (.slice e)) (hs : ∀ w, (sizeOf e).run P w = .ok 1 w) (hz : ∀ w, (zeroValue e).run P w = .ok z w) (hz1 : z.cells.size = 1)
    (hp : evp L ps = some (placed 0 vs)) (hn : vs.length = n) (hn24 : n ≤ 16777216) (h1 : ∀ v ∈ vs, v.oneCell' = true) :
    Eff P L (.buildSlice t n ps.toArray) ty w fun v w' => Holds w0 w' (Row e 1 v n vs • F) :=
  (e_lit (ty := ty) H ht hs hz hz1 hp hn hn24 h1).mono fun v w'' ⟨b, hv, H'⟩ => by
      subst hv
      refine H'.row_mk (by omega) rfl (Nat.le_refl _) (by omega) (by simp; omega) fun j hj => ?_
      rw [List.getElem?_toArray, Nat.zero_add, List.getD_eq_getElem?_getD, List.getElem?_eq_getElem (by omega)]; rfl

/-- append(s, make([]T, k)...) onto nothing. -/
theorem e_append_zeros {t tn e : TypeId} {k kn : IntKind} {s x : Operand} {m : Int} {bytes : Nat} (H : Holds w0 w F) (ht : P.underlying t = some (.slice e)) (htn : P.underlying tn = some (.int kn))
    (hi : (P.info? e).map (fun i => (i.zero, i.size, i.bytes)) = some (some (.int k 0), 1, bytes)) (hsv : ev L s = some (.slice none 0 0)) (hxv : ev L x = some (.int .i64 m)) (hm : 0 < m) (hm2 : m ≤ 9223372036854775807)
    (hb : m.toNat * bytes ≤ 281474976710656) :
    Eff P L (.call ⟨.builtin .append, #[s, x], #[t, tn]⟩) ty w fun v w' => ∃ g c cur, v = .slice (some ⟨g, 0, none⟩) m.toNat c ∧ m.toNat ≤ c ∧ (c : Int) ≤ 9223372036854775807 ∧ c ≤ cur.size ∧ Holds w0 w' (blk g (.cells cur e (0, 0)) • F) := by
  obtain ⟨i, hi1, hi2⟩ := Option.map_eq_some_iff.1 hi
  simp only [Prod.mk.injEq] at hi2
  obtain ⟨hz1, hs1, hb1⟩ := hi2
  have e1 : (m.toNat : Int) = m := Int.toNat_of_nonneg (by omega)
  have hge := grownCap_ge w m.toNat 0 e
  refine e_val (v := .slice (some ⟨w.heap.size, 0, none⟩) m.toNat (grownCap w m.toNat 0 e)) (w' := w.drew.alloc (.cells (Builtin.zeroCells #[.int k 0] m.toNat ++ Builtin.zeroCells #[.int k 0] (grownCap w m.toNat 0 e - m.toNat)) e))
    (run_call (vs := [.slice none 0 0, .int .i64 m]) (by simp [evl, hsv, hxv]) fun _ => ?_) ⟨_, _, _, rfl, hge, grownCap_lt w _ _ _ (by omega), ?_, H.drew.alloc _⟩
  · simp only [builtin, Sem.run_bind]
    have := Lib.run_append_nil_zeros (P := P) w t tn ty e i (.int k 0) .i64 kn ht htn hi1 hz1 m.toNat (by omega) (by omega) (by omega) (by rw [hb1]; exact hb)
    rw [e1] at this
    rw [this]; rfl
  · simp [size_zeroCells, Value.cells]; omega

/-- A struct's value. -/
theorem r_build {t : TypeId} {fs : Array Field} {z : Value} {pl : Array (Nat × Nat)} {ps : List (Nat × Operand)} {vs : List (Nat × Value)} (cells : Array Value) (ht : P.underlying t = some (.struct fs)) (hz : ∀ w, (zeroValue t).run P w = .ok z w)
    (hpl : ∀ w, (fs.mapM fun f => do pure (f.offset, ← sizeOf f.type) : Sem (Array (Nat × Nat))).run P w = .ok pl w) (hp : evp L ps = some vs) (hf : Instr.fill (fun i => pl[i]?) z.cells vs = some cells) : Val P L (.build t ps.toArray) ty w (.agg cells) w := fun ρ hρ _ _ _ _ => by
  have hm := evp_map hρ _ _ hp
  simp only [execOp, Instr.build, Sem.run_bind, hz, Result.andThen_ok, run_underlying ht, hpl]
  have : (ps.toArray.map fun x => (x.1, ρ x.2)).toList = vs := by simpa using hm
  simp only [this, hf, Sem.run_pure, Result.andThen_ok]
/-- A struct that is a block is read whole. -/
theorem r_load_whole {t : TypeId} {d : TypeDesc} {b n : Nat} {cs : Array Value} {et : TypeId} {fr : Nat × Nat} {x : Operand} (hu : P.underlying t = some d) (hd : (match d with | .struct _ => false | .array _ _ => false | _ => true) = false) (hs : ∀ w, (sizeOf t).run P w = .ok n w) (hn : cs.size = n)
    (hx : ev L x = some (.pointer (some ⟨b, 0, none⟩))) (hb : w.heap[b]? = some (.cells cs et fr)) : Val P L (.load t x) ty w (.agg cs) w := by
  have := r_load_agg (ty := ty) (cs := cs.toList) (w := w) (by rw [hu]; rfl) (plain_no hu hd) hs (by simpa using hn) hx (fun j u hj => cell_of_blk hb (by rw [Nat.zero_add]; simpa using hj))
  simpa using this
/-- .. and written whole. -/
theorem e_store_whole {t : TypeId} {b n : Nat} {old cs : Array Value} {et : TypeId} {x y : Operand} (H : Holds w0 w (blk b (.cells old et (0, 0)) • F)) (hs : ∀ w, (sizeOf t).run P w = .ok n w) (hn : cs.size = n) (hn' : old.size = n)
    (hx : ev L x = some (.pointer (some ⟨b, 0, none⟩))) (hy : ev L y = some (.agg cs)) (h1 : ∀ v ∈ cs.toList, v.oneCell' = true) : Eff P L (.store t x y) ty w fun _ w' => Holds w0 w' (blk b (.cells cs et (0, 0)) • F) := by
  have hst := run_storeCells_at P b 0 et cs.toList 0 old w H.get.2 (by simp; omega) h1
  have e1 : (old.toList.take (0 + 0) ++ cs.toList ++ old.toList.drop (0 + 0 + cs.toList.length)).toArray = cs := by
    apply Array.ext'
    simp
    omega
  rw [e1] at hst
  refine e_skip (w' := w.setRow b cs) ?_ (H.turn rfl rfl rfl (by simp [World.setRow]) (setRow_heap _ _ _ _ _ _ H.get.2) fun k hk _ => setRow_other _ _ _ _ hk)
  intro ρ hρ d pos aft g
  simp [execOp, hρ _ _ hx, hρ _ _ hy, Instr.storeAt, Instr.sureAddr, storeVar, hs, Value.cells, hn, hst]
theorem lit_frd {w0 : World} {F : HP} {b : Nat} {e : TypeId} {k : IntKind} (l : List Int) (hl : (l.length : Int) ≤ 9223372036854775807) : FRdI w0 (blk b (.cells (l.map (Value.int k)).toArray e (0, 0)) • F) k (.slice (some ⟨b, 0, none⟩) l.length l.length) l := fun W H =>
  ⟨by simp, _, _, rfl, Nat.le_refl _, hl, fun _ => ⟨b, 0, rfl, fun j hj => cell_of_blk H.get.2 (by
    rw [List.getElem?_toArray, Nat.zero_add, List.getD_eq_getElem?_getD, List.getElem?_eq_getElem (by simpa using hj)]; rfl)⟩⟩
/-- The bytes of runes. -/
def utf8 (l : List Int) : ByteArray := l.foldl (fun s n => s ++ Utf8.encode n) .empty
theorem r_runes_str {src dst e : TypeId} {x : Operand} {v : Value} {l : List Int} (hs : P.underlying src = some (.slice e)) (hd : P.underlying dst = some .string) (he : P.underlying e = some (.int .i32)) (hx : ev L x = some v) (hr : RdI w .i32 v l) :
    Val P L (.convert src dst x) ty w (.string (utf8 l)) w := fun ρ hρ _ _ _ _ => by
  obtain ⟨a, c, rfl, _, _, hc⟩ := Rd.cells (P := P) hr
  have loop : ∀ (f : Value → ByteArray → Sem (ForInStep ByteArray)), (∀ n s, f (.int .i32 n) s = pure (ForInStep.yield (s ++ Utf8.encode n))) → ∀ (l : List Int) (s : ByteArray), (forIn (m := Sem) (l.map (Value.int .i32)).toArray s f).run P w = .ok (l.foldl (fun s n => s ++ Utf8.encode n) s) w := by
    intro f hf l
    induction l with
    | nil => intro s; rfl
    | cons x l ih => intro s; simp [hf] at ih ⊢; try exact ih _
  have h1 : (Conv.runesToString (.slice a l.length c)).run P w = .ok (.string (utf8 l)) w := by
    unfold Conv.runesToString
    cases a with
    | none =>
      have : l = [] := by
        cases l with
        | nil => rfl
        | cons x l =>
          obtain ⟨_, _, e, _, _, hh⟩ := hr.open
          cases e
          obtain ⟨_, _, e, _⟩ := hh (by simp)
          cases e
      subst this; rfl
    | some a =>
      have h2 : (loadCells a l.length).run P w = .ok (l.map (Value.int .i32)).toArray w := by simpa [Builtin.firstCells] using hc
      simp only [Sem.run_bind, h2, Result.andThen_ok]
      rw [loop]
      · rfl
      · intro n s; rfl
  simp [execOp, hρ _ _ hx, convert, run_underlying hs, run_underlying hd, run_underlying he, h1]
/-- append of whole numbers. -/
theorem e_append_ints {t e bytes : Nat} {k : IntKind} {s x : Operand} {v xv : Value} {l m : List Int} (H : Holds w0 w (RowI e k v l • F)) (hx : RdI w k xv m) (ht : P.underlying t = some (.slice e))
    (hi : (P.info? e).map (fun i => (i.zero, i.size, i.bytes)) = some (some (.int k 0), 1, bytes)) (hsv : ev L s = some v) (hxv : ev L x = some xv) (h63 : ((l.length + m.length : Nat) : Int) ≤ 9223372036854775807) (hb : (l.length + m.length) * bytes ≤ 140737488355328) :
    Eff P L (.call ⟨.builtin .append, #[s, x], #[t, t]⟩) ty w fun v' w' => Holds w0 w' (RowI e k v' (l ++ m) • F) :=
  (e_append H ht hi rfl hsv hxv hx (ints_one _ _) h63 hb).mono fun v w' H' => by
    unfold RowI
    rw [List.length_append, List.map_append]
    exact H'

/-! ### slicing -/
/-- Where a slice begins that is cut at l. -/
def cutA (a : Option Addr) (l c s : Nat) : Option Addr := if c = l then a else a.map (·.add (l * s))
/-- A slice cut at l and h. -/
def cutV (s : Nat) (l h : Nat) : Value → Value
  | .slice a _ c => .slice (cutA a l c s) (h - l) (c - l)
  | v => v
theorem r_slice {t e s : TypeId} {x : Operand} {lo hi : Option Operand} {a : Option Addr} {n c : Nat} {l h : Int} (ht : P.underlying t = some (.slice e)) (hs : ∀ w, (sizeOf e).run P w = .ok s w) (hx : ev L x = some (.slice a n c))
    (hl : (match lo with | none => some (Value.int .i64 0) | some o => ev L o) = some (.int .i64 l)) (hh : (match hi with | none => some (Value.int .i64 n) | some o => ev L o) = some (.int .i64 h)) (h0 : 0 ≤ l ∧ l ≤ h ∧ h ≤ c) :
    Val P L (.slice t x lo hi none) ty w (cutV s l.toNat h.toNat (.slice a n c)) w := fun ρ hρ d pos aft g => by
  have e1 : (h.toNat : Int) = h := Int.toNat_of_nonneg (by omega)
  have hx' := hρ _ _ hx
  simp only [execOp, hx', Instr.sliceAt, Sem.run_bind, run_underlying ht, Result.andThen_ok, Instr.slice, Instr.sliceBounds]
  cases hi with
  | none =>
    simp at hh
    subst hh
    cases lo with
    | none => simp at hl; subst hl; simp [hs, cutV, cutA]
    | some o =>
      simp only [hρ _ _ hl, Option.map_some, Option.map_none]
      simp [Instr.sliceBound, asIntOf, h0.1, h0.2.1, hs, cutV, cutA]
  | some o =>
    simp only [hρ _ _ hh, Option.map_some]
    cases lo with
    | none => simp at hl; subst hl; simp [Instr.sliceBound, asIntOf, h0.2.1, h0.2.2, hs, cutV, cutA]
    | some o' =>
      simp only [hρ _ _ hl, Option.map_some, Option.map_none]
      simp [Instr.sliceBound, asIntOf, h0.1, show 0 ≤ h from by omega, h0.2.2, e1, h0.2.1, hs, cutV, cutA]
theorem cutV_zero (s h : Nat) (b o n c : Nat) : cutV s 0 h (.slice (some ⟨b, o, none⟩) n c) = .slice (some ⟨b, o, none⟩) h c := by simp [cutV, cutA, add_at]
theorem cutV_zero_nil (s h : Nat) (n c : Nat) : cutV s 0 h (.slice none n c) = .slice none h c := by simp [cutV, cutA]
theorem Rd.cut {v : Value} {sz n : Nat} {xs : List Value} (hr : Rd w sz v n xs) {l h : Nat} (h1 : l ≤ h) (h2 : h ≤ n) : Rd w sz (cutV sz l h v) (h - l) ((xs.drop (l * sz)).take ((h - l) * sz)) := by
  obtain ⟨hl, a, c, rfl, hc1, hc2, hc⟩ := hr
  refine ⟨?_, cutA a l c sz, c - l, rfl, by omega, by omega, fun hp => ?_⟩
  · rw [List.length_take, List.length_drop, hl, ← Nat.sub_mul]
    exact Nat.min_eq_left (Nat.mul_le_mul_right _ (by omega))
  · obtain ⟨b, o, rfl, hcell⟩ := hc (by omega)
    have : ¬ c = l := by omega
    refine ⟨b, o + l * sz, by simp [cutA, this, add_at], fun j hj => ?_⟩
    have e1 : l * sz + (h - l) * sz = h * sz := by rw [← Nat.add_mul]; congr 1; omega
    have e2 : h * sz ≤ n * sz := Nat.mul_le_mul_right _ h2
    have := hcell (l * sz + j) (by omega)
    rw [Nat.add_assoc, this, List.getD_eq_getElem?_getD, List.getD_eq_getElem?_getD, List.getElem?_take, if_pos hj, List.getElem?_drop]
theorem RdI.cut {k : IntKind} {v : Value} {l : List Int} (hr : RdI w k v l) {i j : Nat} (h1 : i ≤ j) (h2 : j ≤ l.length) : RdI w k (cutV 1 i j v) ((l.drop i).take (j - i)) := by
  have h := Rd.cut hr h1 h2
  have hn : ((l.drop i).take (j - i)).length = j - i := by simp; omega
  unfold RdI
  rw [hn, List.map_take, List.map_drop]
  simpa using h
theorem RdI.upto {k : IntKind} {v : Value} {l : List Int} (hr : RdI w k v l) {j : Nat} (h : j ≤ l.length) : RdI w k (cutV 1 0 j v) (l.take j) := by
  have := hr.cut (i := 0) (j := j) (by omega) h
  rwa [List.drop_zero, Nat.sub_zero] at this
theorem RdI.from {k : IntKind} {v : Value} {l : List Int} (hr : RdI w k v l) {i : Nat} (h : i ≤ l.length) : RdI w k (cutV 1 i l.length v) (l.drop i) := by
  have := hr.cut (i := i) (j := l.length) h (Nat.le_refl _)
  rwa [List.take_of_length_le (by simp)] at this
theorem FRdI.cut {w0 : World} {F : HP} {k : IntKind} {v : Value} {l : List Int} (hr : FRdI w0 F k v l) {i j : Nat} (h1 : i ≤ j) (h2 : j ≤ l.length) : FRdI w0 F k (cutV 1 i j v) ((l.drop i).take (j - i)) := fun W H => (hr W H).cut h1 h2
/-- A row of one's own, its end left off. -/
theorem Holds.row_cut0 {e sz n h : Nat} {v : Value} {xs : List Value} (H : Holds w0 w (Row e sz v n xs • F)) (h2 : h ≤ n) : Holds w0 w (Row e sz (cutV sz 0 h v) h (xs.take (h * sz)) • F) := by
  have hl := H.row_len
  rcases H.row_open with ⟨a, rfl, rfl, rfl, H1⟩ | ⟨g, o, c, cur, rfl, h2', h3, h4, h5, H1⟩
  · have : h = 0 := by omega
    subst this
    have := H1.row_nil (e := e) (sz := sz) a
    simpa [cutV, cutA] using this
  · rw [cutV_zero]
    have e2 : h * sz ≤ n * sz := Nat.mul_le_mul_right _ h2
    refine H1.row_mk (by rw [List.length_take, hl]; exact Nat.min_eq_left e2) rfl (by omega) h3 h4 fun j hj => ?_
    rw [h5 j (by omega), List.getD_eq_getElem?_getD, List.getD_eq_getElem?_getD, List.getElem?_take, if_pos hj]
end
end Go.Proofs.Ytgmpclifphbjkaa
end
section
/- slices.Equal at []rune. -/
set_option linter.unusedSimpArgs false
set_option linter.unusedVariables false
namespace Go.Proofs.Ytgmpclifphbjkaa
open Go.RowKit
theorem take_eq_succ {l m : List Int} {i : Nat} (h1 : i < l.length) (h2 : i < m.length) (h : l.take i = m.take i) (e : l.getD i 0 = m.getD i 0) : l.take (i + 1) = m.take (i + 1) := by
  rw [List.take_succ_eq_append_getElem h1, List.take_succ_eq_append_getElem h2, h]
  simp [List.getD_eq_getElem?_getD, h1, h2] at e
  rw [e]

theorem equal_ret (w : World) (v1 v2 : Value) (l1 l2 : List Int) (h1 : RdI w .i32 v1 l1) (h2 : RdI w .i32 v2 l2) :
    Ret Try.prog 13 #[v1, v2] w fun v w' => v = .bool (l1 == l2) ∧ Drew w w' := by
  obtain ⟨a1, c1, rfl, hc1, hm1, hr1⟩ := h1.open
  obtain ⟨a2, c2, rfl, hc2, hm2, hr2⟩ := h2.open
  clear h1 h2
  refine ret_enter Try.func13 rfl Try.ntmps13 (Nat.le_of_ble_eq_true rfl) ?_
  dsimp only [slots0, Nat.reduceAdd]
  refine wc_seq ?_
  refine wc_region ?_
  refine wl_val (r_assign rfl) (ltn rfl) ?_
  refine wl_nil ?_
  refine wq_seq ?_
  refine wc_seq ?_
  refine wc_seq ?_
  refine wc_region ?_
  refine wl_val (r_move rfl) (ltn rfl) ?_
  refine wl_val (r_len Try.underlying22 rfl) (ltn rfl) ?_
  refine wl_val (r_move rfl) (ltn rfl) ?_
  refine wl_val (r_len Try.underlying22 rfl) (ltn rfl) ?_
  refine wl_val (r_neq rfl rfl) (ltn rfl) ?_
  refine wl_nil ?_
  refine wq_seq ?_
  refine wc_cond rfl (fun h1 => ?_) (fun h1 => ?_)
  · (try simp only [cmpS] at h1)
    try (exfalso; first | contradiction | omega)
    all_goals
      
      refine wc_seq ?_
      refine wc_region ?_
      refine wl_val (r_assign rfl) (ltn rfl) ?_
      refine wl_nil ?_
      refine wq_seq ?_
      refine wc_ret ?_
      refine wq_then_ret ?_
      refine wq_end1 (.inl rfl) Try.results13 rfl ?_
      exact ⟨by rw [show (l1 == l2) = false from beq_eq_false_iff_ne.2 (by rintro rfl; exact h1 rfl)], Drew.refl _⟩
  · (try simp only [cmpS] at h1)
    try (exfalso; first | contradiction | omega)
    all_goals
      
      refine wc_skip ?_
      refine wq_seq ?_
      refine wc_seq ?_
      refine wc_seq ?_
      refine wc_region ?_
      refine wl_val (r_move rfl) (ltn rfl) ?_
      refine wl_val (r_len Try.underlying22 rfl) (ltn rfl) ?_
      refine wl_val (r_move rfl) (ltn rfl) ?_
      refine wl_nil ?_
      refine wq_seq ?_
      refine wc_block ?_
      refine wc_loop [(0, _), (1, _), (12, _)] (fun (k : Nat) => [(13, .int .i64 (k : Int))]) (fun (k : Nat) W => k ≤ l1.length ∧ l1.length = l2.length ∧ l1.take k = l2.take k ∧ Drew w W) (fun (k : Nat) => l1.length - k) (0) (Sub.cons rfl (Sub.cons rfl (Sub.cons rfl (Sub.nil _)))) (Sub.cons rfl (Sub.nil _)) ⟨by omega, by omega, by simp, Drew.refl _⟩ ?_
      rintro k w1 ⟨hk, hl, ht, hD⟩
      dsimp only [List.cons_append, List.nil_append]
      refine wc_seq ?_
      refine wc_region ?_
      refine wl_val (r_lss rfl rfl) (ltn rfl) ?_
      refine wl_nil ?_
      refine wq_seq ?_
      refine wc_seq ?_
      refine wc_cond rfl (fun h2 => ?_) (fun h2 => ?_)
      · (try simp only [cmpS] at h2)
        try (exfalso; first | contradiction | omega)
        all_goals
          
          refine wc_skip ?_
          refine wq_seq ?_
          refine wc_seq ?_
          refine wc_block ?_
          refine wc_seq ?_
          refine wc_region ?_
          refine wl_val (r_move rfl) (ltn rfl) ?_
          refine wl_val (r_assign rfl) (ltn rfl) ?_
          refine wl_nil ?_
          refine wq_seq ?_
          refine wc_seq ?_
          obtain ⟨b1, o1, rfl, hq1⟩ := hr1 (by omega)
          obtain ⟨b2, o2, rfl, hq2⟩ := hr2 (by omega)
          have hc1 := hq1 k (by omega)
          have hc2 := hq2 k (by omega)
          refine wd_begin (n := 9) [0, 1, 2, 3, 4, 5, 6, 7, 8] (fun W => W.heap = w1.heap) (by kernel_rfl) (by kernel_rfl) rfl ?_
          have hS0 : (fun W => W.heap = w1.heap) (w1.drew) := rfl
          refine wd_takeT 0 rfl (by kernel_rfl) (by kernel_rfl) hS0 (fun _ => r_move rfl) (ltn rfl) ?_
          refine wd_takeT 1 rfl (by kernel_rfl) (by kernel_rfl) hS0 (fun _ => r_move rfl) (ltn rfl) ?_
          refine wd_takeT 2 rfl (by kernel_rfl) (by kernel_rfl) hS0 (fun _ => r_index Try.underlying22 Try.sizeOf21 rfl rfl (by omega)) (ltn rfl) ?_
          refine wd_take 3 rfl (by kernel_rfl) (by kernel_rfl) hS0 (by decide) (fun W hW => r_load (plain_of Try.underlying21 rfl) rfl (by rw [cell_heap (hW.trans hD.heap)]; simpa using hc1)) (ltn rfl) ?_
          refine wd_takeT 4 rfl (by kernel_rfl) (by kernel_rfl) hS0 (fun _ => r_move rfl) (ltn rfl) ?_
          refine wd_takeT 5 rfl (by kernel_rfl) (by kernel_rfl) hS0 (fun _ => r_move rfl) (ltn rfl) ?_
          refine wd_takeT 6 rfl (by kernel_rfl) (by kernel_rfl) hS0 (fun _ => r_index Try.underlying22 Try.sizeOf21 rfl rfl (by omega)) (ltn rfl) ?_
          refine wd_take 7 rfl (by kernel_rfl) (by kernel_rfl) hS0 (by decide) (fun W hW => r_load (plain_of Try.underlying21 rfl) rfl (by rw [cell_heap (hW.trans hD.heap)]; simpa using hc2)) (ltn rfl) ?_
          refine wd_takeT 8 rfl (by kernel_rfl) (by kernel_rfl) hS0 (fun _ => r_neq rfl rfl) (ltn rfl) ?_
          refine wd_done (by kernel_rfl) ?_
          refine wq_seq ?_
          refine wc_cond rfl (fun h3 => ?_) (fun h3 => ?_)
          · (try simp only [cmpS] at h3)
            try (exfalso; first | contradiction | omega)
            all_goals
              
              refine wc_seq ?_
              refine wc_region ?_
              refine wl_val (r_assign rfl) (ltn rfl) ?_
              refine wl_nil ?_
              refine wq_seq ?_
              refine wc_ret ?_
              refine wq_block_ret ?_
              refine wq_then_ret ?_
              refine wq_then_ret ?_
              refine wq_block_ret ?_
              refine wq_then_ret ?_
              refine wq_end1 (.inl rfl) Try.results13 rfl ?_
              exact ⟨by rw [show (l1 == l2) = false from beq_eq_false_iff_ne.2 (by rintro rfl; exact h3 rfl)], hD.drew⟩
          · (try simp only [cmpS] at h3)
            try (exfalso; first | contradiction | omega)
            all_goals
              
              refine wc_skip ?_
              refine wq_block_normal ?_
              refine wq_seq ?_
              refine wc_region ?_
              refine wl_val (r_add rfl rfl (by omega)) (ltn rfl) ?_
              refine wl_val (r_move rfl) (ltn rfl) ?_
              refine wl_nil ?_
              refine wq_round (k + 1) ?_ ?_ ?_ ?_
              · exact (Sub.cons rfl (Sub.nil _))
              · exact (Sub.cons rfl (Sub.cons rfl (Sub.cons rfl (Sub.nil _))))
              · (try dsimp only)
                first | done | exact ⟨by omega, by omega, take_eq_succ (by omega) (by omega) ht (by simpa using h3), hD.drew⟩
              · (try dsimp only); omega
      · (try simp only [cmpS] at h2)
        try (exfalso; first | contradiction | omega)
        all_goals
          
          refine wc_exit ?_
          refine wq_then_exit ?_
          refine wq_then_exit ?_
          refine wq_block_hit ?_
          refine wq_seq ?_
          refine wc_seq ?_
          refine wc_region ?_
          refine wl_val (r_assign rfl) (ltn rfl) ?_
          refine wl_nil ?_
          refine wq_seq ?_
          refine wc_ret ?_
          refine wq_end1 (.inl rfl) Try.results13 rfl ?_
          exact ⟨by rw [show (l1 == l2) = true from beq_iff_eq.2 (by rw [List.take_of_length_le (by omega), List.take_of_length_le (by omega)] at ht; exact ht)], hD⟩
end Go.Proofs.Ytgmpclifphbjkaa
end
section
/- Contracts of the library's slices functions at []rune. -/
set_option linter.unusedSimpArgs false
set_option linter.unusedVariables false
namespace Go.Proofs.Ytgmpclifphbjkaa
open Go.RowKit

theorem info_i32 : (Try.prog.info? 21).map (fun i => (i.zero, i.size, i.bytes)) = some (some (.int .i32 0), 1, 4) := by kernel_rfl

/-- A copy in memory of its own. -/
theorem clone_ret {w0 w : World} {F : HP} {v : Value} {l : List Int} (H : Holds w0 w F) (hr : FRdI w0 F .i32 v l) (hb : l.length * 4 ≤ 140737488355328) :
    Ret Try.prog 12 #[v] w fun v' w' => Holds w0 w' (RowI 21 .i32 v' l • F) := by
  obtain ⟨a, c, rfl, h1, h2, h3⟩ := (hr w H).open
  refine ret_enter Try.func12 rfl Try.ntmps12 (Nat.le_of_ble_eq_true rfl) ?_
  dsimp only [slots0, Nat.reduceAdd]
  refine wc_seq ?_
  refine wc_region ?_
  refine wl_val (r_assign rfl) (ltn rfl) ?_
  refine wl_nil ?_
  refine wq_seq ?_
  refine wc_seq ?_
  refine wc_seq ?_
  refine wc_region ?_
  refine wl_val (r_move rfl) (ltn rfl) ?_
  refine wl_val (r_slice_nil Try.underlying22 rfl rfl) (ltn rfl) ?_
  refine wl_nil ?_
  refine wq_seq ?_
  refine wc_cond rfl (fun h1 => ?_) (fun h1 => ?_)
  · (try simp only [cmpS] at h1)
    try (exfalso; first | contradiction | omega)
    all_goals
      
      refine wc_seq ?_
      refine wc_region ?_
      refine wl_val (r_assign rfl) (ltn rfl) ?_
      refine wl_nil ?_
      refine wq_seq ?_
      refine wc_ret ?_
      refine wq_then_ret ?_
      refine wq_end1 (.inl rfl) Try.results12 rfl ?_
      obtain rfl : a = none := by simpa using h1
      obtain rfl : l = [] := by
        cases l with
        | nil => rfl
        | cons x l => obtain ⟨b, o, e, _⟩ := h3 (by simp); cases e
      exact H.row_nil none
  · (try simp only [cmpS] at h1)
    try (exfalso; first | contradiction | omega)
    all_goals
      
      refine wc_skip ?_
      refine wq_seq ?_
      refine wc_seq ?_
      refine wc_region ?_
      refine wl_eff (e_lit_row (vs := []) H Try.underlying22 Try.sizeOf21 Try.zeroValue21 rfl rfl rfl (by decide) (by simp)) (ltn rfl) ?_
      rintro _ w1 H1
      refine wl_val (r_move rfl) (ltn rfl) ?_
      refine wl_eff (e_append_ints (l := []) H1 (hr.under _ H1) Try.underlying22 info_i32 rfl rfl (by simp; omega) (by simpa using hb)) (ltn rfl) ?_
      rintro _ w2 H2
      refine wl_val (r_assign rfl) (ltn rfl) ?_
      refine wl_nil ?_
      refine wq_seq ?_
      refine wc_ret ?_
      refine wq_end1 (.inl rfl) Try.results12 rfl ?_
      exact H2

theorem grow_ret {w0 w : World} {F : HP} {n : Int} (H : Holds w0 w F) (h0 : 0 ≤ n) (hb : n ≤ 70368744177664) :
    Ret Try.prog 88 #[.slice none 0 0, .int .i64 n] w fun v' w' => Holds w0 w' (RowI 21 .i32 v' [] • F) := by
  refine ret_enter Try.func88 rfl Try.ntmps88 (Nat.le_of_ble_eq_true rfl) ?_
  dsimp only [slots0, Nat.reduceAdd]
  refine wc_seq ?_
  refine wc_region ?_
  refine wl_val (r_assign rfl) (ltn rfl) ?_
  refine wl_nil ?_
  refine wq_seq ?_
  refine wc_seq ?_
  refine wc_seq ?_
  refine wc_region ?_
  refine wl_val (r_move rfl) (ltn rfl) ?_
  refine wl_val (r_lss rfl rfl) (ltn rfl) ?_
  refine wl_nil ?_
  refine wq_seq ?_
  refine wc_cond rfl (fun h => by exfalso; (try simp only [cmpS] at h); first | contradiction | omega | (simp at h <;> omega)) (fun h1 => ?_)
  (try simp only [cmpS] at h1)
  refine wc_skip ?_
  refine wq_seq ?_
  refine wc_seq ?_
  refine wc_seq ?_
  refine wc_region ?_
  refine wl_val (r_move rfl) (ltn rfl) ?_
  refine wl_val (r_move rfl) (ltn rfl) ?_
  refine wl_val (r_cap Try.underlying22 rfl) (ltn rfl) ?_
  refine wl_val (r_move rfl) (ltn rfl) ?_
  refine wl_val (r_len Try.underlying22 rfl) (ltn rfl) ?_
  refine wl_val (r_sub rfl rfl (by omega)) (ltn rfl) ?_
  refine wl_val (r_sub rfl rfl (by omega)) (ltn rfl) ?_
  refine wl_val (r_assign rfl) (ltn rfl) ?_
  refine wl_nil ?_
  refine wq_seq ?_
  refine wc_seq ?_
  refine wc_region ?_
  refine wl_val (r_move rfl) (ltn rfl) ?_
  refine wl_val (r_gtr rfl rfl) (ltn rfl) ?_
  refine wl_nil ?_
  refine wq_seq ?_
  refine wc_cond rfl (fun h2 => ?_) (fun h2 => ?_)
  · (try simp only [cmpS] at h2)
    try (exfalso; first | contradiction | omega)
    all_goals
      
      refine wc_region ?_
      refine wl_val (r_move rfl) (ltn rfl) ?_
      refine wl_val (r_move rfl) (ltn rfl) ?_
      refine wl_val (r_cap Try.underlying22 rfl) (ltn rfl) ?_
      refine wl_val (r_slice Try.underlying22 Try.sizeOf21 rfl rfl rfl (by omega)) (ltn rfl) ?_
      refine wl_val (r_move rfl) (ltn rfl) ?_
      refine wl_eff (e_append_zeros H Try.underlying22 Try.underlying3 info_i32 rfl rfl (by omega) (by omega) (by omega)) (ltn rfl) ?_
      rintro _ w1 ⟨g, c, cur, rfl, hc1, hc2, hc3, H1⟩
      refine wl_val (r_move rfl) (ltn rfl) ?_
      refine wl_val (r_len Try.underlying22 rfl) (ltn rfl) ?_
      refine wl_val (r_slice Try.underlying22 Try.sizeOf21 rfl rfl rfl (by omega)) (ltn rfl) ?_
      refine wl_val (r_assign rfl) (ltn rfl) ?_
      refine wl_nil ?_
      refine wq_seq ?_
      refine wc_seq ?_
      refine wc_region ?_
      refine wl_val (r_move rfl) (ltn rfl) ?_
      refine wl_val (r_assign rfl) (ltn rfl) ?_
      refine wl_nil ?_
      refine wq_seq ?_
      refine wc_ret ?_
      refine wq_end1 (.inl rfl) Try.results88 rfl ?_
      exact H1.row_mk (o := 0) (by simp) (cutV_zero 1 0 g 0 _ c) (by simp) hc2 (by simpa using hc3) (by simp)
  · (try simp only [cmpS] at h2)
    try (exfalso; first | contradiction | omega)
    all_goals
      
      refine wc_skip ?_
      refine wq_seq ?_
      refine wc_seq ?_
      refine wc_region ?_
      refine wl_val (r_move rfl) (ltn rfl) ?_
      refine wl_val (r_assign rfl) (ltn rfl) ?_
      refine wl_nil ?_
      refine wq_seq ?_
      refine wc_ret ?_
      refine wq_end1 (.inl rfl) Try.results88 rfl ?_
      exact H.row_nil none

theorem concat_ret {w0 w : World} {F : HP} {v : Value} {vs : List Value} {ls : List (List Int)} (H : Holds w0 w F) (hv : FRd w0 F 1 v ls.length vs) (hls : ∀ k, k < ls.length → FRdI w0 F .i32 (vs.getD k undef) (ls.getD k [])) (hb : ls.flatten.length * 4 ≤ 140737488355328) :
    Ret Try.prog 81 #[v] w fun v' w' => Holds w0 w' (RowI 21 .i32 v' ls.flatten • F) := by
  obtain ⟨_, a, c, rfl, hc1, hc2, _⟩ := hv w H
  refine ret_enter Try.func81 rfl Try.ntmps81 (Nat.le_of_ble_eq_true rfl) ?_
  dsimp only [slots0, Nat.reduceAdd]
  refine wc_seq ?_
  refine wc_region ?_
  refine wl_val (r_assign rfl) (ltn rfl) ?_
  refine wl_nil ?_
  refine wq_seq ?_
  refine wc_seq ?_
  refine wc_region ?_
  refine wl_val (r_assign rfl) (ltn rfl) ?_
  refine wl_nil ?_
  refine wq_seq ?_
  refine wc_seq ?_
  refine wc_seq ?_
  refine wc_region ?_
  refine wl_val (r_move rfl) (ltn rfl) ?_
  refine wl_val (r_len Try.underlying40 rfl) (ltn rfl) ?_
  refine wl_val (r_move rfl) (ltn rfl) ?_
  refine wl_nil ?_
  refine wq_seq ?_
  refine wc_block ?_
  refine wc_loop [(0, _), (9, _), (10, _)] (fun (k : Nat) => [(3, .int .i64 ((ls.take k).flatten.length : Int)), (11, .int .i64 (k : Int))]) (fun (k : Nat) W => k ≤ ls.length ∧ Holds w0 W F) (fun (k : Nat) => ls.length - k) (0) (Sub.cons rfl (Sub.cons rfl (Sub.cons rfl (Sub.nil _)))) (Sub.cons' rfl (by simp) (Sub.cons' rfl (rfl) (Sub.nil _))) ⟨by omega, H⟩ ?_
  rintro k w1 ⟨hk, HL⟩
  dsimp only [List.cons_append, List.nil_append]
  refine wc_seq ?_
  refine wc_region ?_
  refine wl_val (r_lss rfl rfl) (ltn rfl) ?_
  refine wl_nil ?_
  refine wq_seq ?_
  refine wc_seq ?_
  refine wc_cond rfl (fun h1 => ?_) (fun h1 => ?_)
  · (try simp only [cmpS] at h1)
    try (exfalso; first | contradiction | omega)
    all_goals
      
      refine wc_skip ?_
      refine wq_seq ?_
      refine wc_seq ?_
      refine wc_block ?_
      refine wc_seq ?_
      have hk1 : k < ls.length := by omega
      obtain ⟨b, o, rfl, hc⟩ := hv.cell HL (j := k) (by omega)
      obtain ⟨ak, ck, ek, hk2, hk3, _⟩ := (hls k hk1 _ HL).open
      rw [ek] at hc
      have hfl := flat_le ls (k + 1)
      rw [flat_succ ls hk1, List.length_append] at hfl
      refine wc_region ?_
      refine wl_val (r_index Try.underlying40 Try.sizeOf22 rfl rfl (by omega)) (ltn rfl) ?_
      refine wl_val (r_load (plain_of Try.underlying22 rfl) rfl (by rw [show ((k : Int).toNat * 1) = k from by omega]; exact hc)) (ltn rfl) ?_
      refine wl_val (r_assign rfl) (ltn rfl) ?_
      refine wl_nil ?_
      refine wq_seq ?_
      refine wc_seq ?_
      refine wc_region ?_
      refine wl_val (r_move rfl) (ltn rfl) ?_
      refine wl_val (r_move rfl) (ltn rfl) ?_
      refine wl_val (r_len Try.underlying22 rfl) (ltn rfl) ?_
      refine wl_val (r_add rfl rfl (by omega)) (ltn rfl) ?_
      refine wl_val (r_assign rfl) (ltn rfl) ?_
      refine wl_nil ?_
      refine wq_seq ?_
      refine wc_seq ?_
      refine wc_region ?_
      refine wl_val (r_move rfl) (ltn rfl) ?_
      refine wl_val (r_lss rfl rfl) (ltn rfl) ?_
      refine wl_nil ?_
      refine wq_seq ?_
      refine wc_cond rfl (fun h => by exfalso; (try simp only [cmpS] at h); first | contradiction | omega | (simp at h <;> omega)) (fun h2 => ?_)
      (try simp only [cmpS] at h2)
      refine wc_skip ?_
      refine wq_block_normal ?_
      refine wq_seq ?_
      refine wc_region ?_
      refine wl_val (r_add rfl rfl (by omega)) (ltn rfl) ?_
      refine wl_val (r_move rfl) (ltn rfl) ?_
      refine wl_nil ?_
      refine wq_round (k + 1) ?_ ?_ ?_ ?_
      · exact (Sub.cons' rfl (by rw [flat_succ ls hk1, List.length_append, Int.natCast_add]) (Sub.cons rfl (Sub.nil _)))
      · exact (Sub.cons rfl (Sub.cons rfl (Sub.cons rfl (Sub.nil _))))
      · (try dsimp only)
        first | done | exact ⟨by omega, HL⟩
      · (try dsimp only); omega
  · (try simp only [cmpS] at h1)
    try (exfalso; first | contradiction | omega)
    all_goals
      
      refine wc_exit ?_
      refine wq_then_exit ?_
      refine wq_then_exit ?_
      refine wq_block_hit ?_
      refine wq_seq ?_
      refine wc_seq ?_
      refine wc_region ?_
      refine wl_val (r_move rfl) (ltn rfl) ?_
      refine wl_eff (e_call (r_call rfl Try.func88 rfl rfl) (grow_ret HL (by omega) (by have := flat_le ls k; omega))) (ltn rfl) ?_
      rintro vg w2 H2
      refine wl_val (r_assign rfl) (ltn rfl) ?_
      refine wl_nil ?_
      refine wq_seq ?_
      refine wc_seq ?_
      refine wc_seq ?_
      refine wc_region ?_
      refine wl_val (r_move rfl) (ltn rfl) ?_
      refine wl_val (r_len Try.underlying40 rfl) (ltn rfl) ?_
      refine wl_val (r_move rfl) (ltn rfl) ?_
      refine wl_nil ?_
      refine wq_seq ?_
      refine wc_block ?_
      refine wc_loop [(25, _), (26, _)] (fun (⟨k, u⟩ : Nat × Value) => [(6, u), (27, .int .i64 (k : Int))]) (fun (⟨k, u⟩ : Nat × Value) W => k ≤ ls.length ∧ Holds w0 W (RowI 21 .i32 u (ls.take k).flatten • F)) (fun (⟨k, u⟩ : Nat × Value) => ls.length - k) ((0, vg)) (Sub.cons rfl (Sub.cons rfl (Sub.nil _))) (Sub.cons rfl (Sub.cons rfl (Sub.nil _))) ⟨by omega, H2⟩ ?_
      rintro ⟨k, u⟩ w3 ⟨hk, HM⟩
      dsimp only [List.cons_append, List.nil_append]
      refine wc_seq ?_
      refine wc_region ?_
      refine wl_val (r_lss rfl rfl) (ltn rfl) ?_
      refine wl_nil ?_
      refine wq_seq ?_
      refine wc_seq ?_
      refine wc_cond rfl (fun h3 => ?_) (fun h3 => ?_)
      · (try simp only [cmpS] at h3)
        try (exfalso; first | contradiction | omega)
        all_goals
          
          refine wc_skip ?_
          refine wq_seq ?_
          refine wc_seq ?_
          refine wc_block ?_
          refine wc_seq ?_
          have hk1 : k < ls.length := by omega
          obtain ⟨b, o, rfl, hc⟩ := hv.cell HM.right (j := k) (by omega)
          have hrk := hls k hk1
          have hfl := flat_le ls (k + 1)
          rw [flat_succ ls hk1, List.length_append] at hfl
          refine wc_region ?_
          refine wl_val (r_index Try.underlying40 Try.sizeOf22 rfl rfl (by omega)) (ltn rfl) ?_
          refine wl_val (r_load (plain_of Try.underlying22 rfl) rfl (by rw [show ((k : Int).toNat * 1) = k from by omega]; exact hc)) (ltn rfl) ?_
          refine wl_val (r_assign rfl) (ltn rfl) ?_
          refine wl_nil ?_
          refine wq_seq ?_
          refine wc_region ?_
          refine wl_val (r_move rfl) (ltn rfl) ?_
          refine wl_val (r_move rfl) (ltn rfl) ?_
          refine wl_eff (e_append_ints HM (hrk _ HM.right) Try.underlying22 info_i32 rfl rfl (by omega) (by omega)) (ltn rfl) ?_
          rintro va w4 H4
          refine wl_val (r_assign rfl) (ltn rfl) ?_
          refine wl_nil ?_
          refine wq_block_normal ?_
          refine wq_seq ?_
          refine wc_region ?_
          refine wl_val (r_add rfl rfl (by omega)) (ltn rfl) ?_
          refine wl_val (r_move rfl) (ltn rfl) ?_
          refine wl_nil ?_
          refine wq_round ((k + 1, va)) ?_ ?_ ?_ ?_
          · exact (Sub.cons rfl (Sub.cons rfl (Sub.nil _)))
          · exact (Sub.cons rfl (Sub.cons rfl (Sub.nil _)))
          · (try dsimp only)
            first | done | exact ⟨by omega, by rw [flat_succ ls hk1]; exact H4⟩
          · (try dsimp only); omega
      · (try simp only [cmpS] at h3)
        try (exfalso; first | contradiction | omega)
        all_goals
          
          refine wc_exit ?_
          refine wq_then_exit ?_
          refine wq_then_exit ?_
          refine wq_block_hit ?_
          refine wq_seq ?_
          refine wc_seq ?_
          refine wc_region ?_
          refine wl_val (r_move rfl) (ltn rfl) ?_
          refine wl_val (r_assign rfl) (ltn rfl) ?_
          refine wl_nil ?_
          refine wq_seq ?_
          refine wc_ret ?_
          refine wq_end1 (.inl rfl) Try.results81 rfl ?_
          rw [List.take_of_length_le (by omega)] at HM; exact HM

/-- Two of them. -/
theorem concat2_ret {w0 w : World} {F : HP} {b : Nat} {T : TypeId} {u1 u2 : Value} {l1 l2 : List Int} (H : Holds w0 w (blk b (.cells #[u1, u2] T (0, 0)) • F)) (h1 : FRdI w0 (blk b (.cells #[u1, u2] T (0, 0)) • F) .i32 u1 l1) (h2 : FRdI w0 (blk b (.cells #[u1, u2] T (0, 0)) • F) .i32 u2 l2)
    (hb : (l1.length + l2.length) * 4 ≤ 140737488355328) :
    Ret Try.prog 81 #[.slice (some ⟨b, 0, none⟩) 2 2] w fun v' w' => Holds w0 w' (RowI 21 .i32 v' (l1 ++ l2) • blk b (.cells #[u1, u2] T (0, 0)) • F) := by
  have := concat_ret (ls := [l1, l2]) (vs := [u1, u2]) (v := .slice (some ⟨b, 0, none⟩) 2 2) H (fun W HW => ⟨rfl, _, 2, rfl, by simp, by decide, fun _ => ⟨b, 0, rfl, fun j hj => ?_⟩⟩) (fun k hk => ?_) (by simpa using hb)
  · simpa using this
  · refine cell_of_blk HW.get.2 ?_
    simp at hj
    match j, hj with
    | 0, _ => rfl
    | 1, _ => rfl
  · simp at hk
    match k, hk with
    | 0, _ => exact h1
    | 1, _ => exact h2
end Go.Proofs.Ytgmpclifphbjkaa
end
