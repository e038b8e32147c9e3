/- Literals of structs, stores into rows of structs, rows cut. -/
import Derived.Test.YtgoopiakpbcgoaaLit
import Derived.Test.YtgoopiakpbcgoaaMore
set_option linter.unusedSimpArgs false
set_option linter.unusedVariables false
namespace Go.Proofs.Ytgoopiakpbcgoaa
open Go.RowKit
section
variable {P : Program} {L : List (Nat × Value)} {w0 w : World} {F : HP} {ty : TypeId}
theorem fill_whole (l : List Value) : ∀ (i : Nat) (cells : Array Value), cells.size = i + l.length → (l.zipIdx i).foldl (fun cs (x : Value × Nat) => cs.setIfInBounds (0 + x.2) x.1) cells = (cells.toList.take i ++ l).toArray := by
  induction l with
  | nil => intro i cells hs; simp [List.take_of_length_le (show cells.toList.length ≤ i by simp; simp at hs; omega)]
  | cons v r ih =>
    intro i cells hs
    rw [List.zipIdx_cons, List.foldl_cons]
    rw [ih (i + 1) _ (by simp at hs ⊢; omega)]
    congr 1
    have hi : i < cells.toList.length := by simp at hs ⊢; omega
    rw [Array.toList_setIfInBounds, Nat.zero_add, List.take_succ_eq_append_getElem (by simpa using hi), List.take_set_of_le (Nat.le_refl _)]
    simp
/-- A slice literal of one struct. -/
theorem e_lit_one {t e sz : Nat} {x : Operand} {cs : Array Value} {z : Value} (H : Holds w0 w F) (ht : P.underlying t = some (.slice e)) (hs : ∀ w, (sizeOf e).run P w = .ok sz w) (hz : ∀ w, (zeroValue e).run P w = .ok z w) (hz1 : z.cells.size = sz)
    (hx : ev L x = some (.agg cs)) (hn : cs.size = sz) (h0 : 0 < sz) (hn24 : sz ≤ 16777216) :
    Eff P L (.buildSlice t 1 #[(0, x)]) ty w fun v w' => Holds w0 w' (Row e sz v 1 cs.toList • F) := by
  refine e_val (v := .slice (some ⟨w.heap.size, 0, none⟩) 1 1) (w' := w.alloc (.cells cs e)) ?_ ?_
  · intro ρ hρ d pos aft g
    simp only [execOp, Instr.buildSlice, Sem.run_bind, run_underlying ht, Result.andThen_ok, hs]
    rw [if_neg (by omega), if_neg (by omega)]
    have hf : ∀ q : Array Value, q.size = sz → Instr.fill (fun i => some (i * sz, sz)) q [(0, .agg cs)] = some cs := fun q hq => by
      simp only [Instr.fill, Value.cells, hn]
      rw [if_neg (by simp [hq])]
      have := fill_whole cs.toList 0 q (by simp [hn, hq])
      simp only [Nat.zero_mul]
      rw [← Array.foldl_toList, Array.toList_zipIdx]
      simpa using this
    have hf1 := hf ((Array.range sz).map (z.cells[· % z.cells.size]!)) (by simp)
    simp [hz, hρ _ _ hx, hf1, newRow]
  · refine (H.alloc _).row_mk (by simp [hn]) rfl (Nat.le_refl _) (by omega) (by simp [hn]) fun j hj => ?_
    rw [Nat.zero_add, List.getD_eq_getElem?_getD]
    have : j < cs.size := by omega
    simp [this]
theorem fill_run (l : List Value) : ∀ (o i : Nat) (cells : Array Value), o + i + l.length ≤ cells.size → (l.zipIdx i).foldl (fun cs (x : Value × Nat) => cs.setIfInBounds (o + x.2) x.1) cells = (cells.toList.take (o + i) ++ l ++ cells.toList.drop (o + i + l.length)).toArray := by
  induction l with
  | nil => intro o i cells hs; simp
  | cons v r ih =>
    intro o i cells hs
    rw [List.zipIdx_cons, List.foldl_cons]
    rw [ih o (i + 1) _ (by simp at hs ⊢; omega)]
    congr 1
    simp only [List.length_cons] at hs ⊢
    have hi : o + i < cells.toList.length := by rw [Array.length_toList]; omega
    rw [Array.toList_setIfInBounds, show o + (i + 1) = o + i + 1 from by omega, List.take_succ_eq_append_getElem (by simpa using hi), List.take_set_of_le (Nat.le_refl _), List.drop_set_of_lt (by omega)]
    simp
    omega
/-- A slice literal of two structs. -/
theorem e_lit_two {t e sz : Nat} {x y : Operand} {cs ds : Array Value} {z : Value} (H : Holds w0 w F) (ht : P.underlying t = some (.slice e)) (hs : ∀ w, (sizeOf e).run P w = .ok sz w) (hz : ∀ w, (zeroValue e).run P w = .ok z w) (hz1 : z.cells.size = sz)
    (hx : ev L x = some (.agg cs)) (hy : ev L y = some (.agg ds)) (hn : cs.size = sz) (hm : ds.size = sz) (h0 : 0 < sz) (hn24 : sz ≤ 8388608) :
    Eff P L (.buildSlice t 2 #[(0, x), (1, y)]) ty w fun v w' => Holds w0 w' (Row e sz v 2 (cs.toList ++ ds.toList) • F) := by
  refine e_val (v := .slice (some ⟨w.heap.size, 0, none⟩) 2 2) (w' := w.alloc (.cells (cs ++ ds) e)) ?_ ?_
  · intro ρ hρ d pos aft g
    simp only [execOp, Instr.buildSlice, Sem.run_bind, run_underlying ht, Result.andThen_ok, hs]
    rw [if_neg (by omega), if_neg (by omega)]
    have hf : ∀ q : Array Value, q.size = 2 * sz → Instr.fill (fun i => some (i * sz, sz)) q [(0, .agg cs), (1, .agg ds)] = some (cs ++ ds) := fun q hq => by
      have f1 := fill_run cs.toList 0 0 q (by simp [hn, hq]; omega)
      have f2 := fill_run ds.toList sz 0 ((q.toList.take 0 ++ cs.toList ++ q.toList.drop (0 + cs.toList.length)).toArray) (by simp [hn, hm, hq]; omega)
      simp only [Instr.fill, Value.cells, hn, hm]
      simp only [Nat.zero_mul, Nat.one_mul]
      rw [if_neg (by simp [hq]; omega), ← Array.foldl_toList, Array.toList_zipIdx]
      simp only [Nat.zero_add] at f1 f2 ⊢
      rw [f1]
      rw [if_neg (by simp [hn, hq]; omega), ← Array.foldl_toList, Array.toList_zipIdx]
      rw [f2]
      congr 1
      apply Array.ext'
      simp [hn, hm, hq]
      omega
    have hf1 := hf ((Array.range (2 * sz)).map (z.cells[· % z.cells.size]!)) (by simp)
    simp [hz, hρ _ _ hx, hρ _ _ hy, hf1, newRow]
  · refine (H.alloc _).row_mk (by simp [hn, hm]; omega) rfl (Nat.le_refl _) (by omega) (by simp [hn, hm]; omega) fun j hj => ?_
    rw [Nat.zero_add, List.getD_eq_getElem?_getD]
    have h1 : j < (cs ++ ds).size := by simp [hn, hm]; omega
    rw [← Array.getElem?_toList, Array.toList_append, List.getElem?_eq_getElem (by simpa using h1)]
    rfl
/-- A store into a row of structs. -/
theorem e_store_rowS {t e sz n n' : Nat} {x y : Operand} {b o c : Nat} {i : Int} (off : Nat) {xs : List Value} {u : Value} (H : Holds w0 w (Row e sz (.slice (some ⟨b, o, none⟩) n' c) n xs • F)) (hs : ∀ w, (sizeOf t).run P w = .ok 1 w)
    (hx : ev L x = some (.pointer (some ⟨b, o + i.toNat * sz + off, none⟩))) (hy : ev L y = some u) (h1 : u.oneCell' = true) (hi : i.toNat < n) (ho : off < sz) :
    Eff P L (.store t x y) ty w fun _ w' => Holds w0 w' (Row e sz (.slice (some ⟨b, o, none⟩) n' c) n (xs.set (i.toNat * sz + off) u) • F) := by
  have hlen := H.row_len
  rcases H.row_open with ⟨a, hv, hn, hxs, H1⟩ | ⟨g, o', c', cur, hv, h2, h3, h4, h5, H1⟩
  · omega
  cases hv
  have hlt : i.toNat * sz + off < n * sz := Nat.lt_of_lt_of_le (by omega : i.toNat * sz + off < i.toNat * sz + sz) (by rw [← Nat.succ_mul]; exact Nat.mul_le_mul_right _ hi)
  have hle : n * sz ≤ c * sz := Nat.mul_le_mul_right _ h2
  refine (e_store H1 hs hx hy h1 (by omega)).mono fun v w' H2 => ?_
  refine H2.row_mk (o := o) (by simpa using hlen) rfl h2 h3 (by simp; omega) fun q hq => ?_
  rw [Array.getElem?_setIfInBounds]
  by_cases e1 : q = i.toNat * sz + off
  · subst e1
    rw [if_pos (by omega), if_pos (by omega)]
    simp [List.getD_eq_getElem?_getD, show i.toNat * sz + off < xs.length from by omega]
  · rw [if_neg (by omega), h5 q hq]
    simp only [List.getD_eq_getElem?_getD]
    rw [List.getElem?_set_ne (by omega)]
end
section
variable {w0 w : World} {F : HP}
theorem Holds.hideI1 {e : TypeId} {k : IntKind} {v : Value} {l : List Int} {B : HP} (h : Holds w0 w (RowI e k v l • B • F)) : ∃ n R, (l.length = n ∧ (n : Int) ≤ 9223372036854775807) ∧ F = R ∧ ∃ m, m.length = n ∧ Holds w0 w (RowI e k v m • B • R) := ⟨_, F, ⟨rfl, by
  obtain ⟨a, c, _, h1, h2, _⟩ := RdI.open h.row_rd
  omega⟩, rfl, l, rfl, h⟩
/-- A row of one's own, its beginning left off. -/
theorem Holds.row_from {e sz n i : Nat} {v : Value} {xs : List Value} (H : Holds w0 w (Row e sz v n xs • F)) (h2 : i ≤ n) : Holds w0 w (Row e sz (cutV sz i n v) (n - i) (xs.drop (i * sz)) • F) := by
  have hl := H.row_len
  rcases H.row_open with ⟨a, rfl, rfl, rfl, H1⟩ | ⟨g, o, c, cur, rfl, h2', h3, h4, h5, H1⟩
  · have : i = 0 := by omega
    subst this
    have := H1.row_nil (e := e) (sz := sz) a
    simpa [cutV, cutA] using this
  · by_cases hc : c = i
    · have hn : n = i := by omega
      subst hn hc
      have := H1.right.row_nil (e := e) (sz := sz) (some ⟨g, o, none⟩)
      rw [Nat.sub_self, List.drop_of_length_le (by omega)]
      simpa [cutV, cutA] using this
    · have e1 : i * sz + (c - i) * sz = c * sz := by rw [← Nat.add_mul]; congr 1; omega
      have e2 : i * sz + (n - i) * sz = n * sz := by rw [← Nat.add_mul]; congr 1; omega
      refine H1.row_mk (o := o + i * sz) (c := c - i) (by rw [List.length_drop, hl, ← Nat.sub_mul]) (by simp [cutV, cutA, hc, add_at]) (by omega) (by omega) (by omega) fun j hj => ?_
      rw [Nat.add_assoc, h5 (i * sz + j) (by omega), List.getD_eq_getElem?_getD, List.getD_eq_getElem?_getD, List.getElem?_drop]
theorem Holds.rowi_from {e : TypeId} {k : IntKind} {v : Value} {l : List Int} {i : Nat} (H : Holds w0 w (RowI e k v l • F)) (h2 : i ≤ l.length) : Holds w0 w (RowI e k (cutV 1 i l.length v) (l.drop i) • F) := by
  have := H.row_from h2
  unfold RowI
  rw [List.length_drop, List.map_drop]
  simpa using this
end
end Go.Proofs.Ytgoopiakpbcgoaa
