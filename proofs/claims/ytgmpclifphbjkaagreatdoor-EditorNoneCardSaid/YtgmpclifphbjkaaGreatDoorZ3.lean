import Derived.Test.YtgmpclifphbjkaaGreatDoorZ2
import Derived.Lib.AppendZeros
import Derived.ProofKit
import Derived.HandedShaped
import Derived.LaidMore
import Derived.OpenShut
import Derived.Stop.Joined
import Derived.Test.YtgmpclifphbjkaaGreatDoorRows
import Derived.JoinedCond
import Derived.Deep.CondSized
import Derived.Test.YtgmpclifphbjkaaGreatDoorTie
import Derived.Lay
import Derived.Deep.DeepHandedRow
import Derived.Test.YtgmpclifphbjkaaGreatDoorProg
/- Texts of mine, joined: Lit Lift Own Upto ELaid CmdIn Equal. -/
section
/- Slice literals; struct values; conversions of text; more on rows. -/
set_option linter.unusedSimpArgs false
set_option linter.unusedVariables false
namespace Go.Proofs.YtgmpclifphbjkaaGreatDoor
open Go.RowKit

/-- F reads the slice v so. -/
def FRd (w0 : World) (F : HP) (sz : Nat) (v : Value) (n : Nat) (xs : List Value) : Prop := ∀ W, Holds w0 W F → Rd W sz v n xs
def FRdI (w0 : World) (F : HP) (k : IntKind) (v : Value) (l : List Int) : Prop := ∀ W, Holds w0 W F → RdI W k v l
abbrev RowI (e : TypeId) (k : IntKind) (v : Value) (l : List Int) : HP := Row e 1 v l.length (l.map (Value.int k))
theorem FRdI.under {w0 : World} {F A : HP} {k : IntKind} {v : Value} {l : List Int} (h : FRdI w0 F k v l) : FRdI w0 (A • F) k v l := fun W H => h W H.right
theorem FRd.under {w0 : World} {F A : HP} {sz : Nat} {v : Value} {n : Nat} {xs : List Value} (h : FRd w0 F sz v n xs) : FRd w0 (A • F) sz v n xs := fun W H => h W H.right
theorem ints_one (k : IntKind) (l : List Int) : ∀ u ∈ l.map (Value.int k), u.oneCell' = true := by
  intro u hu; obtain ⟨x, _, rfl⟩ := List.mem_map.1 hu; rfl
theorem RdI.nil (w : World) (k : IntKind) (a : Option Addr) (c : Nat) (hc : (c : Int) ≤ 9223372036854775807) : RdI w k (.slice a 0 c) [] := ⟨by simp, a, c, rfl, by simp, hc, fun h => by simp at h⟩
theorem Rd.slice_form {w : World} {sz : Nat} {v : Value} {n : Nat} {xs : List Value} (h : Rd w sz v n xs) : ∃ a c, v = .slice a n c := let ⟨a, c, e, _⟩ := h.form; ⟨a, c, e⟩
theorem Rd.one {w : World} {sz : Nat} {v : Value} {n : Nat} {xs : List Value} (h : Rd w sz v n xs) : v.oneCell' = true := by obtain ⟨a, c, rfl⟩ := h.slice_form; rfl

theorem FRd.cell {w0 W : World} {F : HP} {sz n c : Nat} {a : Option Addr} {xs : List Value} (h : FRd w0 F sz (.slice a n c) n xs) (H : Holds w0 W F) {j : Nat} (hj : j < n * sz) : ∃ b o, a = some ⟨b, o, none⟩ ∧ W.cell? ⟨b, o + j, none⟩ = some (xs.getD j undef) := by
  obtain ⟨_, a', c', e, _, _, hc⟩ := h W H
  cases e
  obtain ⟨b, o, e, hc⟩ := hc (by rcases Nat.eq_zero_or_pos n with h | h; (subst h; omega); exact h)
  exact ⟨b, o, e, hc j hj⟩
theorem FRdI.cell {w0 W : World} {F : HP} {k : IntKind} {n c : Nat} {a : Option Addr} {l : List Int} (h : FRdI w0 F k (.slice a n c) l) (H : Holds w0 W F) {j : Nat} (hj : j < l.length) : ∃ b o, a = some ⟨b, o, none⟩ ∧ W.cell? ⟨b, o + j, none⟩ = some (.int k (l.getD j 0)) := by
  obtain ⟨a', c', e, _, _, hc⟩ := (h W H).open
  cases e
  obtain ⟨b, o, e, hc⟩ := hc (by omega)
  exact ⟨b, o, e, hc j hj⟩
theorem RdI.cell {W : World} {k : IntKind} {n c : Nat} {a : Option Addr} {l : List Int} (h : RdI W k (.slice a n c) l) {j : Nat} (hj : j < l.length) : ∃ b o, a = some ⟨b, o, none⟩ ∧ W.cell? ⟨b, o + j, none⟩ = some (.int k (l.getD j 0)) := by
  obtain ⟨a', c', e, _, _, hc⟩ := h.open
  cases e
  obtain ⟨b, o, e, hc⟩ := hc (by omega)
  exact ⟨b, o, e, hc j hj⟩
theorem flat_succ {α : Type} (ls : List (List α)) {k : Nat} (h : k < ls.length) : (ls.take (k + 1)).flatten = (ls.take k).flatten ++ ls.getD k [] := by
  rw [List.take_succ_eq_append_getElem h, List.flatten_append]
  simp [List.getD_eq_getElem?_getD, h]
theorem flat_le {α : Type} (ls : List (List α)) (k : Nat) : (ls.take k).flatten.length ≤ ls.flatten.length := by
  conv => rhs; rw [← List.take_append_drop k ls, List.flatten_append, List.length_append]
  omega
def evp (L : List (Nat × Value)) : List (Nat × Operand) → Option (List (Nat × Value))
  | [] => some []
  | (i, x) :: r => match ev L x with
    | some v => match evp L r with
      | some vs => some ((i, v) :: vs)
      | none => none
    | none => none
theorem evp_map {L : List (Nat × Value)} {ρ : Operand → Value} (hρ : ∀ x u, ev L x = some u → ρ x = u) : ∀ (ps : List (Nat × Operand)) (vs : List (Nat × Value)), evp L ps = some vs → ps.map (fun p => (p.1, ρ p.2)) = vs
  | [], vs, h => by simp [evp] at h; simp [h]
  | (i, x) :: r, vs, h => by
    simp only [evp] at h
    cases h1 : ev L x with
    | none => simp [h1] at h
    | some v =>
      cases h2 : evp L r with
      | none => simp [h1, h2] at h
      | some us =>
        simp [h1, h2] at h
        subst h
        simp [hρ _ _ h1, evp_map hρ r us h2]

/-- Values at consecutive places. -/
def placed : Nat → List Value → List (Nat × Value)
  | _, [] => []
  | i, v :: r => (i, v) :: placed (i + 1) r
theorem one_cells {v : Value} (h : v.oneCell' = true) : v.cells = #[v] := by cases v <;> simp_all [Value.cells, Value.oneCell']

theorem fill_ones (vs : List Value) : ∀ (i : Nat) (cells : Array Value), (∀ v ∈ vs, v.oneCell' = true) → cells.size = i + vs.length →
    Instr.fill (fun i => some (i, 1)) cells (placed i vs) = some (cells.toList.take i ++ vs).toArray := by
  induction vs with
  | nil => intro i cells _ hs; simp [placed, Instr.fill, List.take_of_length_le (show cells.toList.length ≤ i by simp; simp at hs; omega)]
  | cons v r ih =>
    intro i cells h1 hs
    simp only [placed, Instr.fill]
    have hc := one_cells (h1 v (by simp))
    simp only [hc, List.size_toArray, List.length_cons, List.length_nil, Nat.zero_add, ne_eq, not_true_eq_false, decide_false, Bool.false_or]
    rw [if_neg (by simp at hs ⊢; omega)]
    have : (#[v] : Array Value).zipIdx.foldl (fun cs (x : Value × Nat) => cs.setIfInBounds (i + x.2) x.1) cells = cells.setIfInBounds i v := by simp
    rw [this, ih (i + 1) _ (fun u hu => h1 u (by simp [hu])) (by simp at hs ⊢; omega)]
    congr 2
    have hi : i < cells.toList.length := by simp at hs ⊢; omega
    rw [Array.toList_setIfInBounds, List.take_succ_eq_append_getElem (by simpa using hi), List.take_set_of_le (Nat.le_refl _)]
    simp

section
variable {P : Program} {L : List (Nat × Value)} {w0 w : World} {F : HP} {ty : TypeId}
/-- A slice literal of elements of one cell each. -/
theorem e_lit {t e n : Nat} {ps : List (Nat × Operand)} {vs : List Value} {z : Value} (H : Holds w0 w F) (ht : P.underlying t = some (.slice e)) (hs : ∀ w, (sizeOf e).run P w = .ok 1 w) (hz : ∀ w, (zeroValue e).run P w = .ok z w) (hz1 : z.cells.size = 1)
    (hp : evp L ps = some (placed 0 vs)) (hn : vs.length = n) (hn24 : n ≤ 16777216) (h1 : ∀ v ∈ vs, v.oneCell' = true) :
    Eff P L (.buildSlice t n ps.toArray) ty w fun v w' => ∃ b, v = .slice (some ⟨b, 0, none⟩) n n ∧ Holds w0 w' (blk b (.cells vs.toArray e (0, 0)) • F) := by
  refine e_val (v := .slice (some ⟨w.heap.size, 0, none⟩) n n) (w' := w.alloc (.cells vs.toArray e)) ?_ ⟨_, rfl, H.alloc _⟩
  intro ρ hρ d pos aft g
  have hm := evp_map hρ _ _ hp
  have hm' : (ps.toArray.map fun x => (x.1, ρ x.2)).toList = placed 0 vs := by simpa using hm
  have hf : ∀ cells : Array Value, cells.size = n → Instr.fill (fun i => some (i, 1)) cells (List.map (fun x => (x.fst, ρ x.snd)) ps) = some vs.toArray := fun cells hc => by
    rw [hm, fill_ones vs 0 cells h1 (by omega)]; simp
  simp only [execOp, Instr.buildSlice, Sem.run_bind, run_underlying ht, Result.andThen_ok, hs]
  rw [if_neg (by omega)]
  by_cases h0 : n = 0
  · subst h0
    have hf0 := hf (Array.map (fun _ => default) (Array.range 0)) (by simp)
    simp [hf0, newRow]
  · have hf1 := hf ((Array.range n).map (z.cells[· % z.cells.size]!)) (by simp)
    simp [h0, hz, hf1, newRow]
/-- .. as an owned row. -/
theorem e_lit_row {t e n : Nat} {ps : List (Nat × Operand)} {vs : List Value} {z : Value} (H : Holds w0 w F) (ht : P.underlying t = some (.slice e)) (hs : ∀ w, (sizeOf e).run P w = .ok 1 w) (hz : ∀ w, (zeroValue e).run P w = .ok z w) (hz1 : z.cells.size = 1)
    (hp : evp L ps = some (placed 0 vs)) (hn : vs.length = n) (hn24 : n ≤ 16777216) (h1 : ∀ v ∈ vs, v.oneCell' = true) :
    Eff P L (.buildSlice t n ps.toArray) ty w fun v w' => Holds w0 w' (Row e 1 v n vs • F) :=
  (e_lit (ty := ty) H ht hs hz hz1 hp hn hn24 h1).mono fun v w'' ⟨b, hv, H'⟩ => by
      subst hv
      refine H'.row_mk (by omega) rfl (Nat.le_refl _) (by omega) (by simp; omega) fun j hj => ?_
      rw [List.getElem?_toArray, Nat.zero_add, List.getD_eq_getElem?_getD, List.getElem?_eq_getElem (by omega)]; rfl

/-- append(s, make([]T, k)...) onto nothing. -/
theorem e_append_zeros {t tn e : TypeId} {k kn : IntKind} {s x : Operand} {m : Int} {bytes : Nat} (H : Holds w0 w F) (ht : P.underlying t = some (.slice e)) (htn : P.underlying tn = some (.int kn))
    (hi : (P.info? e).map (fun i => (i.zero, i.size, i.bytes)) = some (some (.int k 0), 1, bytes)) (hsv : ev L s = some (.slice none 0 0)) (hxv : ev L x = some (.int .i64 m)) (hm : 0 < m) (hm2 : m ≤ 9223372036854775807)
    (hb : m.toNat * bytes ≤ 281474976710656) :
    Eff P L (.call ⟨.builtin .append, #[s, x], #[t, tn]⟩) ty w fun v w' => ∃ g c cur, v = .slice (some ⟨g, 0, none⟩) m.toNat c ∧ m.toNat ≤ c ∧ (c : Int) ≤ 9223372036854775807 ∧ c ≤ cur.size ∧ Holds w0 w' (blk g (.cells cur e (0, 0)) • F) := by
  obtain ⟨i, hi1, hi2⟩ := Option.map_eq_some_iff.1 hi
  simp only [Prod.mk.injEq] at hi2
  obtain ⟨hz1, hs1, hb1⟩ := hi2
  have e1 : (m.toNat : Int) = m := Int.toNat_of_nonneg (by omega)
  have hge := grownCap_ge w m.toNat 0 e
  refine e_val (v := .slice (some ⟨w.heap.size, 0, none⟩) m.toNat (grownCap w m.toNat 0 e)) (w' := w.drew.alloc (.cells (Builtin.zeroCells #[.int k 0] m.toNat ++ Builtin.zeroCells #[.int k 0] (grownCap w m.toNat 0 e - m.toNat)) e))
    (run_call (vs := [.slice none 0 0, .int .i64 m]) (by simp [evl, hsv, hxv]) fun _ => ?_) ⟨_, _, _, rfl, hge, grownCap_lt w _ _ _ (by omega), ?_, H.drew.alloc _⟩
  · simp only [builtin, Sem.run_bind]
    have := Lib.run_append_nil_zeros (P := P) w t tn ty e i (.int k 0) .i64 kn ht htn hi1 hz1 m.toNat (by omega) (by omega) (by omega) (by rw [hb1]; exact hb)
    rw [e1] at this
    rw [this]; rfl
  · simp [size_zeroCells, Value.cells]; omega

/-- A struct's value. -/
theorem r_build {t : TypeId} {fs : Array Field} {z : Value} {pl : Array (Nat × Nat)} {ps : List (Nat × Operand)} {vs : List (Nat × Value)} (cells : Array Value) (ht : P.underlying t = some (.struct fs)) (hz : ∀ w, (zeroValue t).run P w = .ok z w)
    (hpl : ∀ w, (fs.mapM fun f => do pure (f.offset, ← sizeOf f.type) : Sem (Array (Nat × Nat))).run P w = .ok pl w) (hp : evp L ps = some vs) (hf : Instr.fill (fun i => pl[i]?) z.cells vs = some cells) : Val P L (.build t ps.toArray) ty w (.agg cells) w := fun ρ hρ _ _ _ _ => by
  have hm := evp_map hρ _ _ hp
  simp only [execOp, Instr.build, Sem.run_bind, hz, Result.andThen_ok, run_underlying ht, hpl]
  have : (ps.toArray.map fun x => (x.1, ρ x.2)).toList = vs := by simpa using hm
  simp only [this, hf, Sem.run_pure, Result.andThen_ok]
/-- A struct that is a block is read whole. -/
theorem r_load_whole {t : TypeId} {d : TypeDesc} {b n : Nat} {cs : Array Value} {et : TypeId} {fr : Nat × Nat} {x : Operand} (hu : P.underlying t = some d) (hd : (match d with | .struct _ => false | .array _ _ => false | _ => true) = false) (hs : ∀ w, (sizeOf t).run P w = .ok n w) (hn : cs.size = n)
    (hx : ev L x = some (.pointer (some ⟨b, 0, none⟩))) (hb : w.heap[b]? = some (.cells cs et fr)) : Val P L (.load t x) ty w (.agg cs) w := by
  have := r_load_agg (ty := ty) (cs := cs.toList) (w := w) (by rw [hu]; rfl) (plain_no hu hd) hs (by simpa using hn) hx (fun j u hj => cell_of_blk hb (by rw [Nat.zero_add]; simpa using hj))
  simpa using this
/-- .. and written whole. -/
theorem e_store_whole {t : TypeId} {b n : Nat} {old cs : Array Value} {et : TypeId} {x y : Operand} (H : Holds w0 w (blk b (.cells old et (0, 0)) • F)) (hs : ∀ w, (sizeOf t).run P w = .ok n w) (hn : cs.size = n) (hn' : old.size = n)
    (hx : ev L x = some (.pointer (some ⟨b, 0, none⟩))) (hy : ev L y = some (.agg cs)) (h1 : ∀ v ∈ cs.toList, v.oneCell' = true) : Eff P L (.store t x y) ty w fun _ w' => Holds w0 w' (blk b (.cells cs et (0, 0)) • F) := by
  have hst := run_storeCells_at P b 0 et cs.toList 0 old w H.get.2 (by simp; omega) h1
  have e1 : (old.toList.take (0 + 0) ++ cs.toList ++ old.toList.drop (0 + 0 + cs.toList.length)).toArray = cs := by
    apply Array.ext'
    simp
    omega
  rw [e1] at hst
  refine e_skip (w' := w.setRow b cs) ?_ (H.turn rfl rfl rfl (by simp [World.setRow]) (setRow_heap _ _ _ _ _ _ H.get.2) fun k hk _ => setRow_other _ _ _ _ hk)
  intro ρ hρ d pos aft g
  simp [execOp, hρ _ _ hx, hρ _ _ hy, Instr.storeAt, Instr.sureAddr, storeVar, hs, Value.cells, hn, hst]
/-- The bytes of runes. -/
def utf8 (l : List Int) : ByteArray := l.foldl (fun s n => s ++ Utf8.encode n) .empty
theorem r_runes_str {src dst e : TypeId} {x : Operand} {v : Value} {l : List Int} (hs : P.underlying src = some (.slice e)) (hd : P.underlying dst = some .string) (he : P.underlying e = some (.int .i32)) (hx : ev L x = some v) (hr : RdI w .i32 v l) :
    Val P L (.convert src dst x) ty w (.string (utf8 l)) w := fun ρ hρ _ _ _ _ => by
  obtain ⟨a, c, rfl, _, _, hc⟩ := Rd.cells (P := P) hr
  have loop : ∀ (f : Value → ByteArray → Sem (ForInStep ByteArray)), (∀ n s, f (.int .i32 n) s = pure (ForInStep.yield (s ++ Utf8.encode n))) → ∀ (l : List Int) (s : ByteArray), (forIn (m := Sem) (l.map (Value.int .i32)).toArray s f).run P w = .ok (l.foldl (fun s n => s ++ Utf8.encode n) s) w := by
    intro f hf l
    induction l with
    | nil => intro s; rfl
    | cons x l ih => intro s; simp [hf] at ih ⊢; try exact ih _
  have h1 : (Conv.runesToString (.slice a l.length c)).run P w = .ok (.string (utf8 l)) w := by
    unfold Conv.runesToString
    cases a with
    | none =>
      have : l = [] := by
        cases l with
        | nil => rfl
        | cons x l =>
          obtain ⟨_, _, e, _, _, hh⟩ := hr.open
          cases e
          obtain ⟨_, _, e, _⟩ := hh (by simp)
          cases e
      subst this; rfl
    | some a =>
      have h2 : (loadCells a l.length).run P w = .ok (l.map (Value.int .i32)).toArray w := by simpa [Builtin.firstCells] using hc
      simp only [Sem.run_bind, h2, Result.andThen_ok]
      rw [loop]
      · rfl
      · intro n s; rfl
  simp [execOp, hρ _ _ hx, convert, run_underlying hs, run_underlying hd, run_underlying he, h1]
/-- append of whole numbers. -/
theorem e_append_ints {t e bytes : Nat} {k : IntKind} {s x : Operand} {v xv : Value} {l m : List Int} (H : Holds w0 w (RowI e k v l • F)) (hx : RdI w k xv m) (ht : P.underlying t = some (.slice e))
    (hi : (P.info? e).map (fun i => (i.zero, i.size, i.bytes)) = some (some (.int k 0), 1, bytes)) (hsv : ev L s = some v) (hxv : ev L x = some xv) (h63 : ((l.length + m.length : Nat) : Int) ≤ 9223372036854775807) (hb : (l.length + m.length) * bytes ≤ 140737488355328) :
    Eff P L (.call ⟨.builtin .append, #[s, x], #[t, t]⟩) ty w fun v' w' => Holds w0 w' (RowI e k v' (l ++ m) • F) :=
  (e_append H ht hi rfl hsv hxv hx (ints_one _ _) h63 hb).mono fun v w' H' => by
    unfold RowI
    rw [List.length_append, List.map_append]
    exact H'

/-! ### slicing -/
/-- Where a slice begins that is cut at l. -/
def cutA (a : Option Addr) (l c s : Nat) : Option Addr := if c = l then a else a.map (·.add (l * s))
/-- A slice cut at l and h. -/
def cutV (s : Nat) (l h : Nat) : Value → Value
  | .slice a _ c => .slice (cutA a l c s) (h - l) (c - l)
  | v => v
theorem r_slice {t e s : TypeId} {x : Operand} {lo hi : Option Operand} {a : Option Addr} {n c : Nat} {l h : Int} (ht : P.underlying t = some (.slice e)) (hs : ∀ w, (sizeOf e).run P w = .ok s w) (hx : ev L x = some (.slice a n c))
    (hl : (match lo with | none => some (Value.int .i64 0) | some o => ev L o) = some (.int .i64 l)) (hh : (match hi with | none => some (Value.int .i64 n) | some o => ev L o) = some (.int .i64 h)) (h0 : 0 ≤ l ∧ l ≤ h ∧ h ≤ c) :
    Val P L (.slice t x lo hi none) ty w (cutV s l.toNat h.toNat (.slice a n c)) w := fun ρ hρ d pos aft g => by
  have e1 : (h.toNat : Int) = h := Int.toNat_of_nonneg (by omega)
  have hx' := hρ _ _ hx
  simp only [execOp, hx', Instr.sliceAt, Sem.run_bind, run_underlying ht, Result.andThen_ok, Instr.slice, Instr.sliceBounds]
  cases hi with
  | none =>
    simp at hh
    subst hh
    cases lo with
    | none => simp at hl; subst hl; simp [hs, cutV, cutA]
    | some o =>
      simp only [hρ _ _ hl, Option.map_some, Option.map_none]
      simp [Instr.sliceBound, asIntOf, h0.1, h0.2.1, hs, cutV, cutA]
  | some o =>
    simp only [hρ _ _ hh, Option.map_some]
    cases lo with
    | none => simp at hl; subst hl; simp [Instr.sliceBound, asIntOf, h0.2.1, h0.2.2, hs, cutV, cutA]
    | some o' =>
      simp only [hρ _ _ hl, Option.map_some, Option.map_none]
      simp [Instr.sliceBound, asIntOf, h0.1, show 0 ≤ h from by omega, h0.2.2, e1, h0.2.1, hs, cutV, cutA]
theorem cutV_zero (s h : Nat) (b o n c : Nat) : cutV s 0 h (.slice (some ⟨b, o, none⟩) n c) = .slice (some ⟨b, o, none⟩) h c := by simp [cutV, cutA, add_at]
theorem Rd.cut {v : Value} {sz n : Nat} {xs : List Value} (hr : Rd w sz v n xs) {l h : Nat} (h1 : l ≤ h) (h2 : h ≤ n) : Rd w sz (cutV sz l h v) (h - l) ((xs.drop (l * sz)).take ((h - l) * sz)) := by
  obtain ⟨hl, a, c, rfl, hc1, hc2, hc⟩ := hr
  refine ⟨?_, cutA a l c sz, c - l, rfl, by omega, by omega, fun hp => ?_⟩
  · rw [List.length_take, List.length_drop, hl, ← Nat.sub_mul]
    exact Nat.min_eq_left (Nat.mul_le_mul_right _ (by omega))
  · obtain ⟨b, o, rfl, hcell⟩ := hc (by omega)
    have : ¬ c = l := by omega
    refine ⟨b, o + l * sz, by simp [cutA, this, add_at], fun j hj => ?_⟩
    have e1 : l * sz + (h - l) * sz = h * sz := by rw [← Nat.add_mul]; congr 1; omega
    have e2 : h * sz ≤ n * sz := Nat.mul_le_mul_right _ h2
    have := hcell (l * sz + j) (by omega)
    rw [Nat.add_assoc, this, List.getD_eq_getElem?_getD, List.getD_eq_getElem?_getD, List.getElem?_take, if_pos hj, List.getElem?_drop]
theorem RdI.cut {k : IntKind} {v : Value} {l : List Int} (hr : RdI w k v l) {i j : Nat} (h1 : i ≤ j) (h2 : j ≤ l.length) : RdI w k (cutV 1 i j v) ((l.drop i).take (j - i)) := by
  have h := Rd.cut hr h1 h2
  have hn : ((l.drop i).take (j - i)).length = j - i := by simp; omega
  unfold RdI
  rw [hn, List.map_take, List.map_drop]
  simpa using h
theorem RdI.upto {k : IntKind} {v : Value} {l : List Int} (hr : RdI w k v l) {j : Nat} (h : j ≤ l.length) : RdI w k (cutV 1 0 j v) (l.take j) := by
  have := hr.cut (i := 0) (j := j) (by omega) h
  rwa [List.drop_zero, Nat.sub_zero] at this
theorem RdI.from {k : IntKind} {v : Value} {l : List Int} (hr : RdI w k v l) {i : Nat} (h : i ≤ l.length) : RdI w k (cutV 1 i l.length v) (l.drop i) := by
  have := hr.cut (i := i) (j := l.length) h (Nat.le_refl _)
  rwa [List.take_of_length_le (by simp)] at this
theorem FRdI.cut {w0 : World} {F : HP} {k : IntKind} {v : Value} {l : List Int} (hr : FRdI w0 F k v l) {i j : Nat} (h1 : i ≤ j) (h2 : j ≤ l.length) : FRdI w0 F k (cutV 1 i j v) ((l.drop i).take (j - i)) := fun W H => (hr W H).cut h1 h2
/-- A row of one's own, its end left off. -/
theorem Holds.row_cut0 {e sz n h : Nat} {v : Value} {xs : List Value} (H : Holds w0 w (Row e sz v n xs • F)) (h2 : h ≤ n) : Holds w0 w (Row e sz (cutV sz 0 h v) h (xs.take (h * sz)) • F) := by
  have hl := H.row_len
  rcases H.row_open with ⟨a, rfl, rfl, rfl, H1⟩ | ⟨g, o, c, cur, rfl, h2', h3, h4, h5, H1⟩
  · have : h = 0 := by omega
    subst this
    have := H1.row_nil (e := e) (sz := sz) a
    simpa [cutV, cutA] using this
  · rw [cutV_zero]
    have e2 : h * sz ≤ n * sz := Nat.mul_le_mul_right _ h2
    refine H1.row_mk (by rw [List.length_take, hl]; exact Nat.min_eq_left e2) rfl (by omega) h3 h4 fun j hj => ?_
    rw [h5 j (by omega), List.getD_eq_getElem?_getD, List.getD_eq_getElem?_getD, List.getElem?_take, if_pos hj]
end
end Go.Proofs.YtgmpclifphbjkaaGreatDoor
end
section
/- What a row hands its call, opened by type; a law's row, of what its walk shows. -/
set_option linter.unusedSimpArgs false
set_option linter.unusedVariables false
namespace Go.Proofs.YtgmpclifphbjkaaGreatDoor
open Go.ChangeShapes Go.WideShapes Go.ChangeAt Go.RowKit

section
variable {H : Type} {enc : TypeId × Value → H} {P : Program} {W : World} {B : Nat}

/-- These cells read as a value of type t, no slice of it beyond the reach. -/
def InB (B : Nat) (enc : TypeId × Value → H) (P : Program) (W : World) (t : TypeId) (cs : List Value) : Prop :=
  ∃ fuel d p, DataW.trod enc P W 0 (fun _ => true) true fuel t cs = some (d, p) ∧ ∀ n ∈ d.weights P t, n ≤ B

abbrev In (enc : TypeId × Value → H) (P : Program) (W : World) (t : TypeId) (cs : List Value) : Prop := InB reachBytes enc P W t cs
theorem InB.bool {t : TypeId} {cs : List Value} (ht : P.underlying t = some .bool) (h : InB B enc P W t cs) : ∃ b, cs = [.bool b] := by
  obtain ⟨fuel, d, p, h1, -⟩ := h; obtain ⟨b, e, -⟩ := DataW.trod_bool ht h1; exact ⟨b, e⟩
theorem InB.int {t : TypeId} {cs : List Value} {k : IntKind} (ht : P.underlying t = some (.int k)) (h : InB B enc P W t cs) : ∃ n, cs = [.int k n] ∧ (Lit.int k n).wf = true := by
  obtain ⟨fuel, d, p, h1, -⟩ := h; obtain ⟨n, e, -, hw⟩ := DataW.trod_int ht h1; exact ⟨n, e, hw⟩
theorem InB.string {t : TypeId} {cs : List Value} (ht : P.underlying t = some .string) (h : InB B enc P W t cs) : ∃ s : ByteArray, cs = [.string s] ∧ s.size ≤ B := by
  obtain ⟨fuel, d, p, h1, hw⟩ := h; obtain ⟨s, e, hx, hm⟩ := DataW.trod_string ht h1
  simp only [Prod.mk.injEq] at hx
  obtain ⟨rfl, -⟩ := hx
  have h2 := hw s.data.toList.length (by simp only [DataW.weights, List.mem_singleton])
  rw [Array.length_toList] at h2
  exact ⟨s, e, h2⟩
theorem weightsEach_get {ts : List TypeId} {ds : List (DataW H)} {j : Nat} {t : TypeId} {d : DataW H} (ht : ts[j]? = some t) (hd : ds[j]? = some d) (h : ∀ n ∈ DataW.weightsEach P ts ds, n ≤ B) : ∀ n ∈ d.weights P t, n ≤ B :=
  fun n hn => h n (DataW.weights_mem_each ht hd n hn)
theorem weightsAll_get {e : TypeId} {ds : List (DataW H)} {d : DataW H} (hd : d ∈ ds) (h : ∀ n ∈ DataW.weightsAll P e ds, n ≤ B) : ∀ n ∈ d.weights P e, n ≤ B := by
  intro n hn
  induction ds with
  | nil => cases hd
  | cons x r ih =>
    simp only [DataW.weightsAll, List.mem_append] at h
    rcases List.mem_cons.1 hd with rfl | hd
    · exact h n (.inl hn)
    · exact ih hd fun n hn => h n (.inr hn)
theorem InB.struct {t : TypeId} {fs : Array Field} {cs : List Value} (ht : P.underlying t = some (.struct fs)) (h : InB B enc P W t cs) :
    cs.length = P.cellsOf t ∧ ∀ (i : Nat) (f : Field), fs[i]? = some f → InB B enc P W f.type ((cs.drop f.offset).take (P.cellsOf f.type)) := by
  obtain ⟨fuel, d, p, h1, hw⟩ := h
  obtain ⟨xs, n, -, hx, hl, hl2, hf⟩ := DataW.trod_struct ht h1
  simp only [Prod.mk.injEq] at hx
  obtain ⟨rfl, -⟩ := hx
  refine ⟨hl, fun i f hi => ?_⟩
  have hlt : i < xs.length := by rw [hl2]; exact (Array.getElem?_eq_some_iff.1 hi).1
  refine ⟨n, xs[i].1, xs[i].2, by rw [hf i f hi, List.getElem?_eq_getElem hlt], ?_⟩
  simp only [DataW.weights, ht] at hw
  exact weightsEach_get (ts := fs.toList.map (·.type)) (ds := xs.map (·.1)) (j := i) (by simp [hi]) (by simp [List.getElem?_eq_getElem hlt]) hw
theorem InB.slice {t e : TypeId} {cs : List Value} (ht : P.underlying t = some (.slice e)) (hz : 0 < P.cellsOf e) (h : InB B enc P W t cs) :
    ∃ v n xs, cs = [v] ∧ Rd W (P.cellsOf e) v n xs ∧ n * P.bytesOf e ≤ B ∧ ∀ k, k < n → InB B enc P W e ((xs.drop (k * P.cellsOf e)).take (P.cellsOf e)) := by
  obtain ⟨fuel, d, p, h1, hw⟩ := h
  rcases DataW.trod_slice ht h1 with ⟨rfl, hx⟩ | ⟨a, len, cap, elems, rest, n, -, rfl, hx, -, hl, hm, hel, hget, -⟩
  · exact ⟨_, 0, [], rfl, ⟨by simp, none, 0, rfl, by simp, by decide, fun h => absurd h (by decide)⟩, by simp, fun k hk => absurd hk (by omega)⟩
  simp only [Prod.mk.injEq] at hx
  obtain ⟨rfl, -⟩ := hx
  simp only [DataW.weights, ht, List.mem_cons, List.mem_append] at hw
  have h2 := hw _ (.inl rfl)
  simp only [List.length_map] at h2
  have key : ∀ i, i < len → ∃ cs, W.cells? 0 (a.add (i * P.cellsOf e)) (P.cellsOf e) = some cs ∧ InB B enc P W e cs := by
    intro i hi
    have h3 := hget i hi
    have hi2 : i < elems.length := by omega
    rw [List.getElem?_eq_getElem hi2] at h3
    obtain ⟨cs, e1, e2⟩ := Option.bind_eq_some_iff.1 h3
    exact ⟨cs, e1, n, elems[i].1, elems[i].2, e2, fun m hm => weightsAll_get (ds := elems.map (·.1)) (List.mem_map.2 ⟨elems[i], List.getElem_mem hi2, rfl⟩) (fun n hn => hw n (.inr (.inl hn))) m hm⟩
  obtain ⟨C, hC⟩ : ∃ C : Nat → List Value, ∀ i, i < len → W.cells? 0 (a.add (i * P.cellsOf e)) (P.cellsOf e) = some (C i) ∧ InB B enc P W e (C i) := by
    classical
    exact ⟨fun i => if hi : i < len then Classical.choose (key i hi) else [], fun i hi => by simp only [dif_pos hi]; exact Classical.choose_spec (key i hi)⟩
  have spot : 0 < len → a.spot = none := by
    intro hp
    obtain ⟨-, -, hc⟩ := World.cells?_some (hC 0 hp).1
    have h3 := hc 0 hz
    have hlen := (World.cells?_some (hC 0 hp).1).2.1
    rw [List.getElem?_eq_getElem (by omega)] at h3
    simp only [Nat.zero_mul, Addr.add, if_true] at h3
    unfold World.cell? at h3
    cases hs : a.spot with
    | none => rfl
    | some q => rw [hs] at h3; split at h3 <;> simp at h3
  let xs : List Value := (List.range len).flatMap C
  have hlC : ∀ i, i < len → (C i).length = P.cellsOf e := fun i hi => (World.cells?_some (hC i hi).1).2.1
  have hflat : ∀ m, m ≤ len → ((List.range m).flatMap C).length = m * P.cellsOf e := by
    intro m hm
    induction m with
    | zero => simp
    | succ m ih => rw [List.range_succ, List.flatMap_append, List.length_append, ih (by omega)]; simp [hlC m (by omega), Nat.succ_mul]
  have hcut : ∀ k, k < len → ((xs.drop (k * P.cellsOf e)).take (P.cellsOf e)) = C k := by
    intro k hk
    show ((((List.range len).flatMap C).drop (k * P.cellsOf e)).take (P.cellsOf e)) = C k
    have e1 : List.range len = List.range k ++ [k] ++ (List.range (len - (k + 1))).map ((k + 1) + ·) := by
      have := @List.range_add (k + 1) (len - (k + 1))
      rw [show k + 1 + (len - (k + 1)) = len by omega] at this
      rw [this, List.range_succ]
    have hk1 := hflat k (by omega)
    have hck := hlC k hk
    rw [e1, List.flatMap_append, List.flatMap_append, List.append_assoc]
    rw [List.drop_append, hk1]
    simp [hk1, List.take_append, hck]
  refine ⟨_, len, xs, rfl, ⟨hflat len (Nat.le_refl _), some a, cap, rfl, hl, by unfold maxLen at hm; omega, fun hp => ⟨a.block, a.off, ?_, fun j hj => ?_⟩⟩, ?_, fun k hk => ?_⟩
  · have := spot hp; cases a; simp_all
  · have hk : j / P.cellsOf e < len := Nat.div_lt_of_lt_mul (by rw [Nat.mul_comm]; exact hj)
    have hr : j % P.cellsOf e < P.cellsOf e := Nat.mod_lt _ hz
    have hc := (World.cells?_some (hC _ hk).1).2.2 _ hr
    have e0 : a = ⟨a.block, a.off, none⟩ := by have := spot hp; cases a; simp_all
    have ej : j / P.cellsOf e * P.cellsOf e + j % P.cellsOf e = j := by rw [Nat.mul_comm]; exact Nat.div_add_mod ..
    rw [e0, add_at, add_at, Nat.add_assoc, ej] at hc
    rw [hc, ← hcut _ hk, List.getElem?_take_of_lt hr, List.getElem?_drop, ej, List.getD_eq_getElem?_getD, List.getElem?_eq_getElem (by show j < ((List.range len).flatMap C).length; rw [hflat len (Nat.le_refl _)]; exact hj)]
    rfl
  · have : len * P.bytesOf e ≤ (elems.length + rest.length) * P.bytesOf e := Nat.mul_le_mul_right _ (by omega)
    omega
  · rw [hcut k hk]; exact (hC k hk).2
theorem InB.ints {t e : TypeId} {k : IntKind} {cs : List Value} (ht : P.underlying t = some (.slice e)) (he : P.underlying e = some (.int k)) (hc : P.cellsOf e = 1) (h : InB B enc P W t cs) :
    ∃ v l, cs = [v] ∧ RdI W k v l ∧ l.length * P.bytesOf e ≤ B ∧ ∀ n ∈ l, (Lit.int k n).wf = true := by
  obtain ⟨v, n, xs, e1, h1, h2, h3⟩ := h.slice ht (by omega)
  rw [hc] at h1 h3
  have hx : ∀ i, i < n → ∃ m, xs[i]? = some (.int k m) ∧ (Lit.int k m).wf = true := by
    intro i hi
    obtain ⟨m, e2, hw⟩ := (h3 i hi).int he
    have hl := h1.len
    refine ⟨m, ?_, hw⟩
    have := congrArg (fun l => l[0]?) e2
    simpa [List.getElem?_take, List.getElem?_drop] using this
  let l := xs.map fun | .int _ m => m | _ => 0
  have hl : l.length = n := by simp only [l, List.length_map]; have := h1.len; omega
  have hxs : xs = l.map (Value.int k) := by
    apply List.ext_getElem?
    intro i
    by_cases hi : i < n
    · obtain ⟨m, e2, -⟩ := hx i hi
      simp [l, e2]
    · have : xs.length ≤ i := by have := h1.len; omega
      simp [l, List.getElem?_eq_none this]
  refine ⟨v, l, e1, by rw [RdI, hl, ← hxs]; exact h1, by rw [hl]; exact h2, fun m hm => ?_⟩
  obtain ⟨i, hi⟩ := List.getElem?_of_mem hm
  have hi2 : i < n := by have := (List.getElem?_eq_some_iff.1 hi).1; omega
  obtain ⟨m', e2, hw⟩ := hx i hi2
  simp only [l, List.getElem?_map, e2, Option.map_some, Option.some.injEq] at hi
  subst hi
  exact hw

/-- Of n readings, one list. -/
theorem list_of {α : Type _} [Inhabited α] {n : Nat} {p : Nat → α → Prop} (h : ∀ k, k < n → ∃ l, p k l) (d : α) : ∃ ls : List α, ls.length = n ∧ ∀ k, k < n → p k (ls.getD k d) := by
  induction n with
  | zero => exact ⟨[], rfl, fun k hk => absurd hk (by omega)⟩
  | succ n ih =>
    obtain ⟨ls, h1, h2⟩ := ih fun k hk => h k (by omega)
    obtain ⟨l, hl⟩ := h n (by omega)
    refine ⟨ls ++ [l], by simp [h1], fun k hk => ?_⟩
    by_cases hkn : k < n
    · rw [List.getD_eq_getElem?_getD, List.getElem?_append_left (by omega), ← List.getD_eq_getElem?_getD]; exact h2 k hkn
    · obtain rfl : k = n := by omega
      rw [List.getD_eq_getElem?_getD, List.getElem?_append_right (by omega), h1, Nat.sub_self]; exact hl
theorem InB.row {t e q : TypeId} {k : IntKind} {cs : List Value} (ht : P.underlying t = some (.slice e)) (he : P.underlying e = some (.slice q)) (hq : P.underlying q = some (.int k)) (ce : P.cellsOf e = 1) (cq : P.cellsOf q = 1) (h : InB B enc P W t cs) :
    ∃ (v : Value) (vs : List Value) (ls : List (List Int)), cs = [v] ∧ Rd W 1 v ls.length vs ∧ ls.length * P.bytesOf e ≤ B ∧ ∀ j, j < ls.length → RdI W k (vs.getD j undef) (ls.getD j []) ∧ (ls.getD j []).length * P.bytesOf q ≤ B ∧ ∀ n ∈ ls.getD j [], (Lit.int k n).wf = true := by
  obtain ⟨v, n, vs, e1, h1, h2, h3⟩ := h.slice ht (by omega)
  rw [ce] at h1 h3
  obtain ⟨ls, rfl, hls⟩ := list_of (n := n) (p := fun j l => RdI W k (vs.getD j undef) l ∧ l.length * P.bytesOf q ≤ B ∧ ∀ n ∈ l, (Lit.int k n).wf = true) (fun j hj => by
    obtain ⟨u, l, e3, g4, hb4, hw⟩ := (h3 j hj).ints he hq cq
    obtain rfl : vs.getD j undef = u := by
      have := congrArg (fun l => l[0]?) e3
      simp [List.getElem?_drop] at this
      rw [List.getD_eq_getElem?_getD, this]; rfl
    exact ⟨l, g4, hb4, hw⟩) []
  exact ⟨v, vs, ls, e1, h1, h2, hls⟩

theorem trodAll_ins : ∀ {ts : List TypeId} {vs : List Value} {ds : List (DataW H)} {p : List MemPlace}, DataW.TrodAll enc P W 0 (fun _ => true) true ts vs ds p → (∀ n ∈ DataW.weightsEach P ts ds, n ≤ B) →
    vs.length = ts.length ∧ ds.length = ts.length ∧ ∀ (j : Nat) t v, ts[j]? = some t → vs[j]? = some v → InB B enc P W t v.cells.toList
  | [], _, _, _, h, _ => by obtain ⟨rfl, rfl, rfl⟩ := trodAll_nil h; simp
  | t :: ts, _, _, _, h, hw => by
    obtain ⟨v, vs1, d, ds1, a, b, rfl, rfl, rfl, ⟨fuel, h1⟩, h2⟩ := trodAll_cons h
    simp only [DataW.weightsEach, List.mem_append] at hw
    obtain ⟨i1, i2, i3⟩ := trodAll_ins h2 fun n hn => hw n (.inr hn)
    refine ⟨by simp [i1], by simp [i2], fun j t' v' ht hv => ?_⟩
    cases j with
    | zero =>
      simp only [List.getElem?_cons_zero, Option.some.injEq] at ht hv
      subst ht; subst hv
      exact ⟨fuel, d, a, h1, fun n hn => hw n (.inl hn)⟩
    | succ j => exact i3 j t' v' (by simpa using ht) (by simpa using hv)

/-- Each argument has its outer form, and reads. -/
def InsB (B : Nat) (enc : TypeId × Value → H) (P : Program) (W : World) : List TypeId → List Value → Prop
  | [], [] => True
  | t :: ts, v :: vs => (∃ base, Value.okWide P W .any base t v) ∧ InB B enc P W t v.cells.toList ∧ InsB B enc P W ts vs
  | _, _ => False
abbrev Ins (enc : TypeId × Value → H) (P : Program) (W : World) (ts : List TypeId) (vs : List Value) : Prop := InsB reachBytes enc P W ts vs
theorem InsB.mk : ∀ {ts : List TypeId} {vs : List Value}, vs.length = ts.length → (∀ (j : Nat) t v, ts[j]? = some t → vs[j]? = some v → (∃ base, Value.okWide P W .any base t v) ∧ InB B enc P W t v.cells.toList) → InsB B enc P W ts vs
  | [], [], _, _ => trivial
  | t :: ts, v :: vs, h, k => ⟨(k 0 t v rfl rfl).1, (k 0 t v rfl rfl).2, InsB.mk (by simpa using h) fun j t' v' ht hv => k (j + 1) t' v' (by simpa using ht) (by simpa using hv)⟩
  | [], _ :: _, h, _ => by simp at h
  | _ :: _, [], h, _ => by simp at h
theorem InsB.nil {args : Array Value} (h : InsB B enc P W [] args.toList) : args = #[] := by rcases args with ⟨_ | ⟨_, _⟩⟩ <;> simp_all [InsB]
theorem InsB.cons {t : TypeId} {ts : List TypeId} {vs : List Value} (h : InsB B enc P W (t :: ts) vs) : ∃ v vs', vs = v :: vs' ∧ (∃ base, Value.okWide P W .any base t v) ∧ InB B enc P W t v.cells.toList ∧ InsB B enc P W ts vs' := by
  cases vs with
  | nil => exact h.elim
  | cons v vs' => exact ⟨v, vs', rfl, h⟩
theorem InsB.nil' {vs : List Value} (h : InsB B enc P W [] vs) : vs = [] := by cases vs with | nil => rfl | cons _ _ => exact h.elim
theorem InsB.one {args : Array Value} {t : TypeId} (h : InsB B enc P W [t] args.toList) : ∃ v, args = #[v] ∧ (∃ base, Value.okWide P W .any base t v) ∧ InB B enc P W t v.cells.toList := by
  obtain ⟨v, vs, e, h1, h2, h3⟩ := h.cons; obtain rfl := h3.nil'; exact ⟨v, by cases args; simp_all, h1, h2⟩
theorem InsB.two {args : Array Value} {t t' : TypeId} (h : InsB B enc P W [t, t'] args.toList) : ∃ v v', args = #[v, v'] ∧ ((∃ base, Value.okWide P W .any base t v) ∧ InB B enc P W t v.cells.toList) ∧ ((∃ base, Value.okWide P W .any base t' v') ∧ InB B enc P W t' v'.cells.toList) := by
  obtain ⟨v, vs, e, h1, h2, h3⟩ := h.cons; obtain ⟨v', vs', rfl, h1', h2', h3'⟩ := h3.cons; obtain rfl := h3'.nil'
  exact ⟨v, v', by cases args; simp_all, ⟨h1, h2⟩, ⟨h1', h2'⟩⟩
theorem trodAll_len {base : Nat} {sp : Nat → Bool} {held : Bool} : ∀ {ts : List TypeId} {vs : List Value} {ds : List (DataW H)} {p : List MemPlace}, DataW.TrodAll enc P W base sp held ts vs ds p → vs.length = ts.length ∧ ds.length = ts.length
  | [], _, _, _, h => by obtain ⟨rfl, rfl, rfl⟩ := trodAll_nil h; simp
  | t :: ts, _, _, _, h => by
    obtain ⟨v, vs1, d, ds1, a, b, rfl, rfl, rfl, _, h2⟩ := trodAll_cons h
    obtain ⟨i1, i2⟩ := trodAll_len h2
    simp [i1, i2]
/-- Of what came in nothing has turned: it reads as it did. -/
theorem trodAll_stay (hl : laidOutB P = true) {W' : World} (hb : Below W.heap.size W W') : ∀ {ts : List TypeId} {vs : List Value} {ds : List (DataW H)} {p : List MemPlace}, (∀ t ∈ ts, P.readableRec t = true ∧ t < P.types.size) →
    DataW.TrodAll enc P W 0 (fun _ => true) true ts vs ds p → (∀ x ∈ p, x.block < W.heap.size) → DataW.TrodAll enc P W' 0 (fun b => decide (b < W.heap.size)) true ts vs ds p
  | [], _, _, _, _, h, _ => by obtain ⟨rfl, rfl, rfl⟩ := trodAll_nil h; exact trodAll_mk0
  | t :: ts, _, _, _, ht, h, hp => by
    obtain ⟨v, vs1, d, ds1, a, b, rfl, rfl, rfl, h1, h2⟩ := trodAll_cons h
    have hq := ht t (by simp)
    exact ⟨a, b, Below.trod hl hq.1 hq.2 h1 hb (fun x hx => hp x (by simp [hx])), trodAll_stay hl hb (fun t' h' => ht t' (by simp [h'])) h2 (fun x hx => hp x (by simp [hx])), rfl⟩
end

theorem len_one {α : Type _} {l : List α} (h : l.length = 1) : ∃ a, l = [a] := by match l, h with | [a], _ => exact ⟨a, rfl⟩
/-- What a law's row asks of a call's end, of what its walk shows. -/
theorem law_post {H : Type} {enc : TypeId × Value → H} {P : Program} {fn : Func} {s : ChangeSpec} {tb : TypeId} {ts : List TypeId} (laid : laidOutB P = true) (hpn : fn.params.toList = ts) (hres : fn.resultTypes = #[tb]) (htb : P.underlying tb = some .bool) (hvars : s.vars = [])
    (hts : ts.all (fun t => P.readableRec t && decide (t < P.types.size)) = true) (hspec : ∀ ds : List (DataW H), ds.length = ts.length → s.fn H ds = { results := [.lit (.bool true)], args := ds })
    {W W' : World} {args : Array Value} {ds gs : List (DataW H)} {before : List MemPlace} (hW : DataW.Whole enc P fn.params.toList s.vars false W args.toList ds gs before) (hb : Below W.heap.size W W') :
    s.post enc P fn false true false false W args (.bool true) W' := by
  have hW' := hW
  obtain ⟨p, q, hA, hV, rfl, hfz, hnd⟩ := hW
  rw [hvars] at hV
  obtain ⟨rfl, rfl⟩ : gs = [] ∧ q = [] := by cases gs <;> simp_all [DataW.TrodVars]
  have hn2 : ds.length = ts.length := by rw [← hpn]; exact (trodAll_len hA).2
  have hlt : ∀ x ∈ p, x.block < W.heap.size := fun x hx => by simpa using hW'.lt x (by simpa using hx)
  have hl := hspec ds hn2
  refine ⟨ds, [], p ++ [], [], p, [], hW', ?_, ?_, ?_, hb.frame _, fun h => by cases h⟩
  · rw [hres, List.append_nil, hl]
    exact trodAll_mk1 (shut_bool htb true)
  · rw [List.append_nil, hl]
    exact trodAll_stay laid hb (fun t ht => by simpa using List.all_eq_true.1 hts t (by rw [← hpn]; exact ht)) hA hlt
  · rw [hvars, List.append_nil, hl]
    rfl
/-- What a law's call is handed. -/
theorem law_ins {H : Type} {enc : TypeId × Value → H} {P : Program} {fn : Func} {s : ChangeSpec} {ts : List TypeId} (hpn : fn.params.toList = ts) (hvars : s.vars = []) {W : World} {base : Nat} {args : Array Value} {ds gs : List (DataW H)} {before : List MemPlace}
    (hval : ∀ (j : Nat) t v, fn.params[j]? = some t → args[j]? = some v → Value.okWide P W .any base t v) (hW : DataW.Whole enc P fn.params.toList s.vars false W args.toList ds gs before)
    (hwt : (DataW.weightsEach P (fn.params.toList ++ s.plain.varTypes P) (ds ++ gs)).all (· ≤ reachBytes) = true) : Ins enc P W ts args.toList := by
  obtain ⟨p, q, hA, hV, rfl, hfz, hnd⟩ := hW
  rw [hvars] at hV
  obtain ⟨rfl, rfl⟩ : gs = [] ∧ q = [] := by cases gs <;> simp_all [DataW.TrodVars]
  have hw2 : ∀ n ∈ DataW.weightsEach P fn.params.toList ds, n ≤ reachBytes := by
    have e0 : s.plain.varTypes P = [] := by simp [ChangeSpec.plain, DataSpec.varTypes, hvars]
    rw [e0, List.append_nil, List.append_nil] at hwt
    simpa using hwt
  obtain ⟨hn1, hn2, hin⟩ := trodAll_ins hA hw2
  rw [← hpn]
  exact InsB.mk hn1 fun j t v ht hv => ⟨⟨base, hval j t v (by simpa using ht) (by simpa using hv)⟩, hin j t v ht hv⟩

/-- The same of a row that lists package-level variables. -/
theorem law_lift_laid {H : Type} {enc : TypeId × Value → H} {a : Assume} {C : Checked} {os : Os} {f : FuncId} {fn : Func} {s : ChangeSpec} {conds : List PathCond} {tb : TypeId} (ts : List TypeId) {lay : List (String × DataW Unit)}
    (own : ownKnob C.prog.godebug = none) (laid : laidOutB C.prog = true) (started : os.Started) (noInit : C.prog.inits.idxOf? f = none) (hfn : C.prog.funcs[f]? = some fn)
    (hpn : fn.params.toList = ts) (hres : fn.resultTypes = #[tb]) (htb : C.prog.underlying tb = some .bool) (hvars : s.vars = [])
    (hts : ts.all (fun t => C.prog.readableRec t && decide (t < C.prog.types.size)) = true)
    (hspec : ∀ ds : List (DataW H), ds.length = ts.length → s.fn H ds = { results := [.lit (.bool true)], args := ds })
    (witness : ∃ (w : World) (tape : Tape) (i : Input), w.os = os ∧ (w.forCall tape i).Shaped C.prog ∧ i.vars = [] ∧ Input.okWide C.prog (w.forCall tape i) .any w.heap.size f i ∧
      ((s.pre enc C.prog fn conds false (w.forCall tape i).memory i.args ∧ laidMetH C.prog lay (w.forCall tape i).memory) ∧ sizedMet enc C.prog fn (OpenSpec.ofChange s) false (w.forCall tape i).memory i.args) ∧ a.holds C.prog (lone (Frame.enter C.prog f i.args .normal) [] (w.forCall tape i)))
    (walk : ∀ (W : World) (args : Array Value), laidMetH C.prog lay W → Ins enc C.prog W ts args.toList → Ret C.prog f args W fun v W' => v = .bool true ∧ Below W.heap.size W W') :
    ReturnsInHanded a C os f .any (fun w args => (s.pre enc C.prog fn conds false w args ∧ laidMetH C.prog lay w) ∧ sizedMet enc C.prog fn (OpenSpec.ofChange s) false w args) (s.post enc C.prog fn false true false false) := by
  refine returnsInHanded_of_change_and (X := fun w _ => laidMetH C.prog lay w) (fun _ _ _ hh h => h.of_heap hh) own started noInit hfn witness ?_
  intro W base args ds gs before hval hW hcnd hwt hL hh
  exact Calls.mono (walk W args hL (law_ins hpn hvars hval hW hwt)) fun e W' ⟨v, he, hv, hb⟩ => ⟨v, he, by subst hv; exact law_post laid hpn hres htb hvars hts hspec hW hb⟩
end Go.Proofs.YtgmpclifphbjkaaGreatDoor
end
section
/- The program's own knob, its types laid. -/
namespace Go.Proofs.YtgmpclifphbjkaaGreatDoor
theorem own : ownKnob Tryz.prog.godebug = none := by kernel_rfl
theorem laid : laidOutB Tryz.prog = true := by kernel_rfl
end Go.Proofs.YtgmpclifphbjkaaGreatDoor
end
section
/- A law's row of the second form: what comes in is of bounded bulk. -/
set_option linter.unusedSimpArgs false
set_option linter.unusedVariables false
namespace Go.Proofs.YtgmpclifphbjkaaGreatDoor
open Go.ChangeShapes Go.WideShapes Go.ChangeAt Go.RowKit
section
variable {H : Type} {P : Program} {M : Nat}
theorem bulk_one (d : DataW H) : 1 ≤ Rows.uptoBulk d := by
  cases d with
  | lit l => cases l <;> simp [Rows.uptoBulk]
  | nil => simp [Rows.uptoBulk]
  | ptr d => simp [Rows.uptoBulk]
  | slice elems spare => simp [Rows.uptoBulk]
  | agg parts => simp [Rows.uptoBulk]
  | iface t d => simp [Rows.uptoBulk]
  | map entries => simp [Rows.uptoBulk]
  | held h => simp [Rows.uptoBulk]
theorem bulk_len (l : List (DataW H)) : l.length ≤ Rows.uptoBulkAll l := by
  induction l with
  | nil => simp [Rows.uptoBulkAll]
  | cons x r ih => have := bulk_one x; simp only [Rows.uptoBulkAll, List.length_cons]; omega
theorem bulk_entries (l : List (Lit × DataW H)) : l.length ≤ Rows.uptoBulkEntries l := by
  induction l with
  | nil => simp [Rows.uptoBulkEntries]
  | cons x r ih =>
    have : 1 ≤ Rows.uptoBulkEntry x := by
      obtain ⟨k, d⟩ := x
      cases k <;> simp [Rows.uptoBulkEntry]
    simp only [Rows.uptoBulkEntries, List.length_cons]; omega
/-- Types below n, whose parts are below n, none of which is larger than M. -/
def partsBelow (n : Nat) : Option TypeDesc → Bool
  | some (.pointer e) => decide (e < n)
  | some (.slice e) => decide (e < n)
  | some (.array _ e) => decide (e < n)
  | some (.struct fs) => fs.toList.all fun f => decide (f.type < n)
  | some (.map k e) => decide (k < n) && decide (e < n)
  | _ => true
def goodTypes (P : Program) (M n : Nat) : Bool := (List.range n).all fun t => decide (2 * P.bytesOf t ≤ M) && partsBelow n (P.underlying t)
theorem good_at {n : Nat} (hG : goodTypes P M n = true) {t : TypeId} (ht : t < n) : 2 * P.bytesOf t ≤ M ∧ partsBelow n (P.underlying t) = true := by
  have := List.all_eq_true.1 hG t (List.mem_range.2 ht)
  simpa using this
theorem mul_up {a b c : Nat} (h : a ≤ b) (hc : c ≤ M) : a * c ≤ b * M := Nat.mul_le_mul h hc
mutual
theorem weights_bulk {z : Nat} (hG : goodTypes P M z = true) (h1 : 1 ≤ M) : ∀ (d : DataW H) (t : TypeId) (n : Nat), t < z → n ∈ d.weights P t → n ≤ Rows.uptoBulk d * M
  | .lit l, t, n, ht, h => by
    cases l with
    | string b =>
      simp only [DataW.weights, List.mem_singleton] at h
      subst h
      simp only [Rows.uptoBulk]
      have := mul_up (M := M) (a := b.length) (b := b.length + 1) (c := 1) (by omega) h1
      omega
    | _ => simp [DataW.weights] at h
  | .nil, t, n, ht, h => by simp [DataW.weights] at h
  | .ptr d, t, n, ht, h => by
    simp only [DataW.weights] at h
    split at h
    · rename_i e he
      have hp := (good_at hG ht).2
      rw [he] at hp
      have := weights_bulk hG h1 d _ n (by simpa [partsBelow] using hp) h
      simp only [Rows.uptoBulk, Nat.add_mul]; omega
    · simp at h
  | .slice elems spare, t, n, ht, h => by
    simp only [DataW.weights] at h
    split at h
    · rename_i e he
      have hp := (good_at hG ht).2
      rw [he] at hp
      have he' : e < z := by simpa [partsBelow] using hp
      simp only [List.mem_cons, List.mem_append] at h
      simp only [Rows.uptoBulk, Nat.add_mul]
      rcases h with rfl | h | h
      · have l1 := bulk_len elems
        have l2 := bulk_len spare
        have := mul_up (M := M) (a := elems.length + spare.length) (b := Rows.uptoBulkAll elems + Rows.uptoBulkAll spare) (c := P.bytesOf e) (by omega) (by have := (good_at hG he').1; omega)
        rw [Nat.add_mul (Rows.uptoBulkAll elems)] at this
        omega
      · have := weightsAll_bulk hG h1 elems _ n he' h; omega
      · have := weightsAll_bulk hG h1 spare _ n he' h; omega
    · simp at h
  | .agg parts, t, n, ht, h => by
    simp only [DataW.weights] at h
    simp only [Rows.uptoBulk, Nat.add_mul]
    split at h
    · rename_i fs he
      have hp := (good_at hG ht).2
      rw [he] at hp
      have := weightsEach_bulk hG h1 parts _ n (fun t' ht' => by
        obtain ⟨f, hf, rfl⟩ := List.mem_map.1 ht'
        simpa using List.all_eq_true.1 hp f hf) h
      omega
    · rename_i k e he
      have hp := (good_at hG ht).2
      rw [he] at hp
      have := weightsAll_bulk hG h1 parts _ n (by simpa [partsBelow] using hp) h
      omega
    · simp at h
  | .iface t' d, t, n, ht, h => by simp [DataW.weights] at h
  | .map entries, t, n, ht, h => by
    simp only [DataW.weights] at h
    simp only [Rows.uptoBulk, Nat.add_mul]
    split at h
    · rename_i k e he
      have hp := (good_at hG ht).2
      rw [he] at hp
      have hke : k < z ∧ e < z := by simpa [partsBelow] using hp
      simp only [List.mem_cons] at h
      rcases h with rfl | h
      · have := mul_up (M := M) (bulk_entries entries) (c := P.bytesOf k + P.bytesOf e) (by have := (good_at hG hke.1).1; have := (good_at hG hke.2).1; omega); omega
      · have := weightsEntries_bulk hG h1 entries _ n hke.2 h; omega
    · simp at h
  | .held x, t, n, ht, h => by simp [DataW.weights] at h
theorem weightsAll_bulk {z : Nat} (hG : goodTypes P M z = true) (h1 : 1 ≤ M) : ∀ (l : List (DataW H)) (t : TypeId) (n : Nat), t < z → n ∈ DataW.weightsAll P t l → n ≤ Rows.uptoBulkAll l * M
  | [], t, n, ht, h => by simp [DataW.weightsAll] at h
  | d :: r, t, n, ht, h => by
    simp only [DataW.weightsAll, List.mem_append] at h
    simp only [Rows.uptoBulkAll, Nat.add_mul]
    rcases h with h | h
    · have := weights_bulk hG h1 d _ n ht h; omega
    · have := weightsAll_bulk hG h1 r _ n ht h; omega
theorem weightsEach_bulk {z : Nat} (hG : goodTypes P M z = true) (h1 : 1 ≤ M) : ∀ (l : List (DataW H)) (ts : List TypeId) (n : Nat), (∀ t ∈ ts, t < z) → n ∈ DataW.weightsEach P ts l → n ≤ Rows.uptoBulkAll l * M
  | [], ts, n, ht, h => by cases ts <;> simp [DataW.weightsEach] at h
  | d :: r, [], n, ht, h => by simp [DataW.weightsEach] at h
  | d :: r, t :: ts, n, ht, h => by
    simp only [DataW.weightsEach, List.mem_append] at h
    simp only [Rows.uptoBulkAll, Nat.add_mul]
    rcases h with h | h
    · have := weights_bulk hG h1 d _ n (ht t (by simp)) h; omega
    · have := weightsEach_bulk hG h1 r _ n (fun x hx => ht x (by simp [hx])) h; omega
theorem weightsEntries_bulk {z : Nat} (hG : goodTypes P M z = true) (h1 : 1 ≤ M) : ∀ (l : List (Lit × DataW H)) (t : TypeId) (n : Nat), t < z → n ∈ DataW.weightsEntries P t l → n ≤ Rows.uptoBulkEntries l * M
  | [], t, n, ht, h => by simp [DataW.weightsEntries] at h
  | (k, d) :: r, t, n, ht, h => by
    cases k with
    | string b =>
      simp only [DataW.weightsEntries, DataW.weightsEntry, List.mem_append, List.mem_cons] at h
      simp only [Rows.uptoBulkEntries, Rows.uptoBulkEntry, Nat.add_mul]
      have hb := mul_up (M := M) (a := b.length) (b := b.length) (c := 1) (by omega) h1
      rcases h with (h | h) | h
      · omega
      · have := weights_bulk hG h1 d _ n ht h; omega
      · have := weightsEntries_bulk hG h1 r _ n ht h; omega
    | _ =>
      simp only [DataW.weightsEntries, DataW.weightsEntry, List.mem_append] at h
      simp only [Rows.uptoBulkEntries, Rows.uptoBulkEntry, Nat.add_mul]
      rcases h with h | h
      · have := weights_bulk hG h1 d _ n ht h; omega
      · have := weightsEntries_bulk hG h1 r _ n ht h; omega
end
end
end Go.Proofs.YtgmpclifphbjkaaGreatDoor
end
section
/- utf8's tables, as the editor's rows list them (nothing of theirs is used here). -/
set_option linter.unusedSimpArgs false
set_option linter.unusedVariables false
namespace Go.Proofs.YtgmpclifphbjkaaGreatDoor
open Go.ChangeShapes Go.WideShapes Go.ChangeAt Go.RowKit
abbrev laid4 : List (String × DataW Unit) := [("unicode/utf8.acceptRanges", Rows.laid_unicode_utf8_acceptRanges), ("unicode/utf8.first", Rows.laid_unicode_utf8_first)]
theorem tabs_of {W : World} (h : laidMetH Tryz.prog laid4 W) : True ∧ True := ⟨trivial, trivial⟩
theorem laid_met (os : Os) (args : Array Value) : laidMetH Tryz.prog laid4 ((World.laidAll Tryz.prog os laid4).forCall (fun _ _ => 0) ⟨#[], args, []⟩).memory := by
  rw [MakeChecks.laidMetH_plain _ _ _ (by kernel_rfl)]; exact laidMet_laidAll _ (by kernel_rfl) (by kernel_rfl)
end Go.Proofs.YtgmpclifphbjkaaGreatDoor
end
section
/- What commands read as. -/
set_option linter.unusedSimpArgs false
set_option linter.unusedVariables false
set_option maxRecDepth 100000
namespace Go.Proofs.YtgmpclifphbjkaaGreatDoor
open Go.ChangeShapes Go.WideShapes Go.ChangeAt Go.RowKit
theorem part_in {H : Type} {enc : TypeId × Value → H} {W : World} {B : Nat} {cs : List Value} (h : InB B enc Tryz.prog W 38 cs) : ∃ x0 x1 x2 x3 v4 x4, cs = [.int .i64 x0, .int .i64 x1, .int .i64 x2, .bool x3, v4] ∧ (Lit.int .i64 x0).wf = true ∧ (Lit.int .i64 x1).wf = true ∧ (Lit.int .i64 x2).wf = true ∧ (RdI W .i32 v4 x4 ∧ x4.length * 4 ≤ B ∧ ∀ n ∈ x4, (Lit.int .i32 n).wf = true) := by
  obtain ⟨hl, hf⟩ := h.struct Tryz.underlying38
  rw [show Tryz.prog.cellsOf 38 = 5 from by kernel_rfl] at hl
  match cs, hl with
  | [c0, c1, c2, c3, c4], _ =>
    have h0 : InB B enc Tryz.prog W 3 (([c0, c1, c2, c3, c4].drop 0).take (Tryz.prog.cellsOf 3)) := hf 0 _ rfl
    rw [show Tryz.prog.cellsOf 3 = 1 from by kernel_rfl] at h0
    obtain ⟨x0, e0, w0⟩ := h0.int Tryz.underlying3
    have h1 : InB B enc Tryz.prog W 3 (([c0, c1, c2, c3, c4].drop 1).take (Tryz.prog.cellsOf 3)) := hf 1 _ rfl
    rw [show Tryz.prog.cellsOf 3 = 1 from by kernel_rfl] at h1
    obtain ⟨x1, e1, w1⟩ := h1.int Tryz.underlying3
    have h2 : InB B enc Tryz.prog W 3 (([c0, c1, c2, c3, c4].drop 2).take (Tryz.prog.cellsOf 3)) := hf 2 _ rfl
    rw [show Tryz.prog.cellsOf 3 = 1 from by kernel_rfl] at h2
    obtain ⟨x2, e2, w2⟩ := h2.int Tryz.underlying3
    have h3 : InB B enc Tryz.prog W 4 (([c0, c1, c2, c3, c4].drop 3).take (Tryz.prog.cellsOf 4)) := hf 3 _ rfl
    rw [show Tryz.prog.cellsOf 4 = 1 from by kernel_rfl] at h3
    obtain ⟨x3, e3⟩ := h3.bool Tryz.underlying4
    have h4 : InB B enc Tryz.prog W 22 (([c0, c1, c2, c3, c4].drop 4).take (Tryz.prog.cellsOf 22)) := hf 4 _ rfl
    rw [show Tryz.prog.cellsOf 22 = 1 from by kernel_rfl] at h4
    obtain ⟨v4, x4, e4, g4, b4, w4⟩ := h4.ints Tryz.underlying22 Tryz.underlying21 (by kernel_rfl)
    rw [show Tryz.prog.bytesOf 21 = 4 from by kernel_rfl] at b4
    simp only [List.drop, List.take, List.cons.injEq, and_true] at e0 e1 e2 e3 e4
    exact ⟨x0, x1, x2, x3, v4, x4, by simp_all, w0, w1, w2, ⟨g4, b4, w4⟩⟩
end Go.Proofs.YtgmpclifphbjkaaGreatDoor
end
section
/- slices.Equal at []rune. -/
set_option linter.unusedSimpArgs false
set_option linter.unusedVariables false
namespace Go.Proofs.YtgmpclifphbjkaaGreatDoor
open Go.RowKit
theorem take_eq_succ {l m : List Int} {i : Nat} (h1 : i < l.length) (h2 : i < m.length) (h : l.take i = m.take i) (e : l.getD i 0 = m.getD i 0) : l.take (i + 1) = m.take (i + 1) := by
  rw [List.take_succ_eq_append_getElem h1, List.take_succ_eq_append_getElem h2, h]
  simp [List.getD_eq_getElem?_getD, h1, h2] at e
  rw [e]

end Go.Proofs.YtgmpclifphbjkaaGreatDoor
end
