import Derived.Test.YtgmpclifphbjkaaZ11
import Derived.Test.YtgmpclifphbjkaaZ4
import Derived.Test.YtgmpclifphbjkaaZ5
/- Texts of mine, joined: Undo1 Undo2 LitS Eds. -/
section
/- Undo: what is done to a line by an edit, the edit that takes it back, two edits in one; the document's too. -/
set_option linter.unusedSimpArgs false
set_option linter.unusedVariables false
namespace Go.Proofs.Ytgmpclifphbjkaa
open Go.RowKit
section
variable {w0 w : World} {F : HP} {v d s z d2 z2 u1 u2 u3 : Value} {L dl il dl2 il2 l1 l2 l3 : List Int} {a a2 : Int}
theorem concat2_any (H : Holds w0 w F) (hv : FRd w0 F 1 v 2 [u1, u2]) (h1 : FRdI w0 F .i32 u1 l1) (h2 : FRdI w0 F .i32 u2 l2) (hb : l1.length + l2.length ≤ 35184372088832) :
    Ret Try.prog 81 #[v] w fun v' w' => Holds w0 w' (RowI 21 .i32 v' (l1 ++ l2) • F) := by
  have := concat_ret (ls := [l1, l2]) (vs := [u1, u2]) H hv (fun k hk => ?_) (by simp; omega)
  · simpa using this
  · simp at hk
    match k, hk with
    | 0, _ => exact h1
    | 1, _ => exact h2
theorem concat3_any (H : Holds w0 w F) (hv : FRd w0 F 1 v 3 [u1, u2, u3]) (h1 : FRdI w0 F .i32 u1 l1) (h2 : FRdI w0 F .i32 u2 l2) (h3 : FRdI w0 F .i32 u3 l3) (hb : l1.length + l2.length + l3.length ≤ 35184372088832) :
    Ret Try.prog 81 #[v] w fun v' w' => Holds w0 w' (RowI 21 .i32 v' (l1 ++ l2 ++ l3) • F) := by
  have := concat_ret (ls := [l1, l2, l3]) (vs := [u1, u2, u3]) H hv (fun k hk => ?_) (by simp; omega)
  · simpa using this
  · simp at hk
    match k, hk with
    | 0, _ => exact h1
    | 1, _ => exact h2
    | 2, _ => exact h3
/-- Whether an edit fits a line; its answer; the line behind it. -/
def uFit (L : List Int) (a : Int) (dl : List Int) : Bool := decide (0 ≤ a ∧ a + dl.length ≤ L.length) && ((L.drop a.toNat).take dl.length == dl)
def uE (L : List Int) (a : Int) (dl il : List Int) : Int := if uFit L a dl then (if 1024 < (L.length : Int) - dl.length + il.length then 3 else 0) else 1
def uL (L : List Int) (a : Int) (dl il : List Int) : List Int := if uE L a dl il = 0 then L.take a.toNat ++ il ++ L.drop (a.toNat + dl.length) else []
theorem uE_bad (h : uFit L a dl = false) : uE L a dl il = 1 := by unfold uE; rw [h]; rfl
theorem uE_long (h : uFit L a dl = true) (g : 1024 < (L.length : Int) - dl.length + il.length) : uE L a dl il = 3 := by unfold uE; rw [h, if_pos g]; rfl
theorem uE_ok (h : uFit L a dl = true) (g : ¬ 1024 < (L.length : Int) - dl.length + il.length) : uE L a dl il = 0 := by unfold uE; rw [h, if_neg g]; rfl
theorem uL_not (h : uE L a dl il ≠ 0) : uL L a dl il = [] := by unfold uL; rw [if_neg h]
theorem uL_ok (h : uE L a dl il = 0) : uL L a dl il = L.take a.toNat ++ il ++ L.drop (a.toNat + dl.length) := by unfold uL; rw [if_pos h]
theorem uFit_iff : uFit L a dl = true ↔ (0 ≤ a ∧ a + dl.length ≤ L.length) ∧ (L.drop a.toNat).take dl.length = dl := by
  unfold uFit; simp only [Bool.and_eq_true, decide_eq_true_eq, beq_iff_eq]
theorem uFit_not (h : ¬ ((0 ≤ a ∧ a + dl.length ≤ L.length) ∧ (L.drop a.toNat).take dl.length = dl)) : uFit L a dl = false := by
  rw [← Bool.not_eq_true, uFit_iff]; exact h
/-- An edit's cells. -/
abbrev edV (a : Int) (d z : Value) : Value := .agg #[.int .i64 a, d, z]
theorem undo_own_ret (H : Holds w0 w F) (hd : FRdI w0 F .i32 d dl) (hi : FRdI w0 F .i32 z il) (b2 : dl.length ≤ 35184372087808) (b3 : il.length ≤ 35184372087808) :
    Ret Try.prog 79 #[edV a d z] w fun v' w' => ∃ d' s', v' = edV a d' s' ∧ Holds w0 w' (RowI 21 .i32 d' dl • RowI 21 .i32 s' il • F) := by
  refine ret_enter Try.func79 rfl Try.ntmps79 (Nat.le_of_ble_eq_true rfl) ?_
  dsimp only [slots0, Nat.reduceAdd]
  refine wc_seq ?_
  refine wc_region ?_
  refine wl_eff (e_boxL (l := [_, _, _]) H rfl rfl) (ltn rfl) ?_
  rintro _ w1 ⟨b1, rfl, H1⟩
  refine wl_eff (e_allocL (l := [_, _, _]) H1 Try.zeroValue82 rfl) (ltn rfl) ?_
  rintro _ w2 ⟨b2, rfl, H2⟩
  refine wl_nil ?_
  refine wq_seq ?_
  refine wc_seq ?_
  have H1d2 := H2.drew
  have hS1d2 := Holds.kp (H1d2.f2.f2)
  refine wd_beginK [1, 3, 6] hS1d2 (by kernel_rfl) (by kernel_rfl) rfl ?_
  refine wd_takeT 0 rfl (by kernel_rfl) (by kernel_rfl) hS1d2 (fun _ => r_fieldA 0 Try.underlying82 rfl rfl Try.sizeOf3 (by decide) rfl (by first | exact Nat.zero_add _ | rfl)) (ltn rfl) ?_
  refine wd_take 1 rfl (by kernel_rfl) (by kernel_rfl) hS1d2 (by decide) (fun W hW => r_load (plain_of Try.underlying3 rfl) rfl (cell_of_blk ((Kp.h hW).f2).get.2 rfl)) (ltn rfl) ?_
  refine wd_takeT 2 rfl (by kernel_rfl) (by kernel_rfl) hS1d2 (fun _ => r_fieldA 1 Try.underlying82 rfl rfl Try.sizeOf22 (by decide) rfl (by first | exact Nat.zero_add _ | rfl)) (ltn rfl) ?_
  refine wd_take 3 rfl (by kernel_rfl) (by kernel_rfl) hS1d2 (by decide) (fun W hW => r_load (plain_of Try.underlying22 rfl) rfl (cell_of_blk ((Kp.h hW).f2).get.2 rfl)) (ltn rfl) ?_
  refine wd_takeT 5 rfl (by kernel_rfl) (by kernel_rfl) hS1d2 (fun _ => r_fieldA 2 Try.underlying82 rfl rfl Try.sizeOf22 (by decide) rfl (by first | exact Nat.zero_add _ | rfl)) (ltn rfl) ?_
  refine wd_take 6 rfl (by kernel_rfl) (by kernel_rfl) hS1d2 (by decide) (fun W hW => r_load (plain_of Try.underlying22 rfl) rfl (cell_of_blk ((Kp.h hW).f2).get.2 rfl)) (ltn rfl) ?_
  refine wd_eff 4 rfl (by kernel_rfl) (e_call (r_call rfl Try.func12 rfl rfl) (clone_ret H1d2 (fun W HW => hd _ (HW.right.right)) (by omega))) (ltn rfl) ?_
  rintro u3 w3 H3
  have hS3n := Holds.kp (H3.f3.f3.f3)
  refine keepK hS3n (fun W hW => (Kp.h hW).right.f2.f2) ?_
  refine wd_eff 7 rfl (by kernel_rfl) (e_call (r_call rfl Try.func12 rfl rfl) (clone_ret H3 (fun W HW => hi _ (HW.right.right.right)) (by omega))) (ltn rfl) ?_
  rintro u4 w4 H4
  have hS4n := Holds.kp (H4.f4.f4.f4.f4)
  refine keepK hS4n (fun W hW => (Kp.h hW).right.f3.f3.f3) ?_
  obtain ⟨au3, cu3, eu3, -⟩ := RdI.open ((H4.f2).row_rd)
  subst eu3
  obtain ⟨au4, cu4, eu4, -⟩ := RdI.open ((H4).row_rd)
  subst eu4
  refine wd_takeT 8 rfl (by kernel_rfl) (by kernel_rfl) hS4n (fun _ => r_build (pl := #[(0, 1), (1, 1), (2, 1)]) (#[_, _, _]) Try.underlying82 Try.zeroValue82 (fun w => by kernel_rfl) rfl (rfl)) (ltn rfl) ?_
  refine wd_eff0 9 rfl (by kernel_rfl) (e_storePL 0 (l' := [_, _, _]) (us := [_, _, _]) H4.f3 Try.sizeOf82 rfl rfl rfl (ones_cons (by first | rfl | assumption) (ones_cons (by first | rfl | exact Rd.one ((H4.f2).row_rd)) (ones_cons (by first | rfl | exact Rd.one ((H4).row_rd)) ones_nil))) rfl rfl) ?_
  rintro _ w7 H7
  have hS7n := Holds.kp (H7.f4.f4.f4.f4)
  refine keepX hS7n (by kernel_rfl) ?_
  refine wd_done (by kernel_rfl) ?_
  refine wq_seq ?_
  refine wc_ret ?_
  refine wq_end (.inl rfl) (resC Try.results79 rfl Try.underlying82 rfl (by rw [show (Try.prog.info? 82).map (·.size) = some 3 from by kernel_rfl]; rfl) (H7).get.2) ?_
  exact ⟨_, _, rfl, H7.right.f3.right.f2⟩
theorem undo_inverse_ret (H : Holds w0 w F) (hd : FRdI w0 F .i32 d dl) (hi : FRdI w0 F .i32 z il) (b2 : dl.length ≤ 35184372087808) (b3 : il.length ≤ 35184372087808) :
    Ret Try.prog 83 #[edV a d z] w fun v' w' => ∃ d' s', v' = edV a d' s' ∧ Holds w0 w' (RowI 21 .i32 d' il • RowI 21 .i32 s' dl • F) := by
  refine ret_enter Try.func83 rfl Try.ntmps83 (Nat.le_of_ble_eq_true rfl) ?_
  dsimp only [slots0, Nat.reduceAdd]
  refine wc_seq ?_
  refine wc_region ?_
  refine wl_eff (e_boxL (l := [_, _, _]) H rfl rfl) (ltn rfl) ?_
  rintro _ w1 ⟨b1, rfl, H1⟩
  refine wl_eff (e_allocL (l := [_, _, _]) H1 Try.zeroValue82 rfl) (ltn rfl) ?_
  rintro _ w2 ⟨b2, rfl, H2⟩
  refine wl_nil ?_
  refine wq_seq ?_
  refine wc_seq ?_
  refine wc_region ?_
  refine wl_val (r_fieldA 0 Try.underlying82 rfl rfl Try.sizeOf3 (by decide) rfl (by first | exact Nat.zero_add _ | rfl)) (ltn rfl) ?_
  refine wl_val (r_load (plain_of Try.underlying3 rfl) rfl (cell_of_blk (H2.f2).get.2 rfl)) (ltn rfl) ?_
  refine wl_val (r_fieldA 2 Try.underlying82 rfl rfl Try.sizeOf22 (by decide) rfl (by first | exact Nat.zero_add _ | rfl)) (ltn rfl) ?_
  refine wl_val (r_load (plain_of Try.underlying22 rfl) rfl (cell_of_blk (H2.f2).get.2 rfl)) (ltn rfl) ?_
  refine wl_val (r_fieldA 1 Try.underlying82 rfl rfl Try.sizeOf22 (by decide) rfl (by first | exact Nat.zero_add _ | rfl)) (ltn rfl) ?_
  refine wl_val (r_load (plain_of Try.underlying22 rfl) rfl (cell_of_blk (H2.f2).get.2 rfl)) (ltn rfl) ?_
  obtain ⟨az, cz, ez, -⟩ := RdI.open (hi _ (H2.right.right))
  subst ez
  obtain ⟨ad, cd, ed, -⟩ := RdI.open (hd _ (H2.right.right))
  subst ed
  refine wl_val (r_build (pl := #[(0, 1), (1, 1), (2, 1)]) (#[_, _, _]) Try.underlying82 Try.zeroValue82 (fun w => by kernel_rfl) rfl (rfl)) (ltn rfl) ?_
  refine wl_eff (e_call (r_call rfl Try.func79 rfl rfl) (undo_own_ret H2 (fun W HW => hi _ (HW.right.right)) (fun W HW => hd _ (HW.right.right)) (by omega) (by omega))) (ltn rfl) ?_
  rintro _ w5 ⟨d5, s5, rfl, H5⟩
  refine wl_eff0 (e_storePL 0 (l' := [_, _, _]) (us := [_, _, _]) H5.f3 Try.sizeOf82 rfl rfl rfl (ones_cons (by first | rfl | assumption) (ones_cons (by first | rfl | exact Rd.one ((H5).row_rd)) (ones_cons (by first | rfl | exact Rd.one ((H5.f2).row_rd)) ones_nil))) rfl rfl) ?_
  rintro _ w6 H6
  refine wl_nil ?_
  refine wq_seq ?_
  refine wc_ret ?_
  refine wq_end (.inl rfl) (resC Try.results83 rfl Try.underlying82 rfl (by rw [show (Try.prog.info? 82).map (·.size) = some 3 from by kernel_rfl]; rfl) (H6).get.2) ?_
  exact ⟨_, _, rfl, H6.right.f3.right.f2.f2⟩
end
end Go.Proofs.Ytgmpclifphbjkaa
end
section
/- Undo: two edits in one. -/
set_option linter.unusedSimpArgs false
set_option linter.unusedVariables false
namespace Go.Proofs.Ytgmpclifphbjkaa
open Go.RowKit
section
variable {w0 w : World} {F : HP} {v d s z d2 z2 u1 u2 u3 : Value} {L dl il dl2 il2 l1 l2 l3 : List Int} {a a2 : Int}
/-- Which way two edits are one; that one. -/
def jK (a a2 : Int) (dl il dl2 il2 : List Int) : Nat := if dl2.length = 0 ∧ a2 = a + il.length then 1 else if il.length = 0 ∧ il2.length = 0 ∧ a = a2 + dl2.length then 2 else 0
def jA (k : Nat) (a a2 : Int) : Int := if k = 1 then a else if k = 2 then a2 else 0
def jD (k : Nat) (dl dl2 : List Int) : List Int := if k = 1 then dl else if k = 2 then dl2 ++ dl else []
def jI (k : Nat) (il il2 : List Int) : List Int := if k = 1 then il ++ il2 else []
theorem jK_1 (h : dl2.length = 0) (g : a2 = a + il.length) : jK a a2 dl il dl2 il2 = 1 := by unfold jK; rw [if_pos ⟨h, g⟩]
theorem jK_2 (h : ¬ (dl2.length = 0 ∧ a2 = a + il.length)) (g1 : il.length = 0) (g2 : il2.length = 0) (g3 : a = a2 + dl2.length) : jK a a2 dl il dl2 il2 = 2 := by unfold jK; rw [if_neg h, if_pos ⟨g1, g2, g3⟩]
theorem jK_0 (h : ¬ (dl2.length = 0 ∧ a2 = a + il.length)) (g : ¬ (il.length = 0 ∧ il2.length = 0 ∧ a = a2 + dl2.length)) : jK a a2 dl il dl2 il2 = 0 := by unfold jK; rw [if_neg h, if_neg g]
end
end Go.Proofs.Ytgmpclifphbjkaa
end
section
/- Literals of structs, stores into rows of structs, rows cut. -/
set_option linter.unusedSimpArgs false
set_option linter.unusedVariables false
namespace Go.Proofs.Ytgmpclifphbjkaa
open Go.RowKit
section
variable {P : Program} {L : List (Nat × Value)} {w0 w : World} {F : HP} {ty : TypeId}
theorem fill_whole (l : List Value) : ∀ (i : Nat) (cells : Array Value), cells.size = i + l.length → (l.zipIdx i).foldl (fun cs (x : Value × Nat) => cs.setIfInBounds (0 + x.2) x.1) cells = (cells.toList.take i ++ l).toArray := by
  induction l with
  | nil => intro i cells hs; simp [List.take_of_length_le (show cells.toList.length ≤ i by simp; simp at hs; omega)]
  | cons v r ih =>
    intro i cells hs
    rw [List.zipIdx_cons, List.foldl_cons]
    rw [ih (i + 1) _ (by simp at hs ⊢; omega)]
    congr 1
    have hi : i < cells.toList.length := by simp at hs ⊢; omega
    rw [Array.toList_setIfInBounds, Nat.zero_add, List.take_succ_eq_append_getElem (by simpa using hi), List.take_set_of_le (Nat.le_refl _)]
    simp
/-- A slice literal of one struct. -/
theorem e_lit_one {t e sz : Nat} {x : Operand} {cs : Array Value} {z : Value} (H : Holds w0 w F) (ht : P.underlying t = some (.slice e)) (hs : ∀ w, (sizeOf e).run P w = .ok sz w) (hz : ∀ w, (zeroValue e).run P w = .ok z w) (hz1 : z.cells.size = sz)
    (hx : ev L x = some (.agg cs)) (hn : cs.size = sz) (h0 : 0 < sz) (hn24 : sz ≤ 16777216) :
    Eff P L (.buildSlice t 1 #[(0, x)]) ty w fun v w' => Holds w0 w' (Row e sz v 1 cs.toList • F) := by
  refine e_val (v := .slice (some ⟨w.heap.size, 0, none⟩) 1 1) (w' := w.alloc (.cells cs e)) ?_ ?_
  · intro ρ hρ d pos aft g
    simp only [execOp, Instr.buildSlice, Sem.run_bind, run_underlying ht, Result.andThen_ok, hs]
    rw [if_neg (by omega), if_neg (by omega)]
    have hf : ∀ q : Array Value, q.size = sz → Instr.fill (fun i => some (i * sz, sz)) q [(0, .agg cs)] = some cs := fun q hq => by
      simp only [Instr.fill, Value.cells, hn]
      rw [if_neg (by simp [hq])]
      have := fill_whole cs.toList 0 q (by simp [hn, hq])
      simp only [Nat.zero_mul]
      rw [← Array.foldl_toList, Array.toList_zipIdx]
      simpa using this
    have hf1 := hf ((Array.range sz).map (z.cells[· % z.cells.size]!)) (by simp)
    simp [hz, hρ _ _ hx, hf1, newRow]
  · refine (H.alloc _).row_mk (by simp [hn]) rfl (Nat.le_refl _) (by omega) (by simp [hn]) fun j hj => ?_
    rw [Nat.zero_add, List.getD_eq_getElem?_getD]
    have : j < cs.size := by omega
    simp [this]
theorem fill_run (l : List Value) : ∀ (o i : Nat) (cells : Array Value), o + i + l.length ≤ cells.size → (l.zipIdx i).foldl (fun cs (x : Value × Nat) => cs.setIfInBounds (o + x.2) x.1) cells = (cells.toList.take (o + i) ++ l ++ cells.toList.drop (o + i + l.length)).toArray := by
  induction l with
  | nil => intro o i cells hs; simp
  | cons v r ih =>
    intro o i cells hs
    rw [List.zipIdx_cons, List.foldl_cons]
    rw [ih o (i + 1) _ (by simp at hs ⊢; omega)]
    congr 1
    simp only [List.length_cons] at hs ⊢
    have hi : o + i < cells.toList.length := by rw [Array.length_toList]; omega
    rw [Array.toList_setIfInBounds, show o + (i + 1) = o + i + 1 from by omega, List.take_succ_eq_append_getElem (by simpa using hi), List.take_set_of_le (Nat.le_refl _), List.drop_set_of_lt (by omega)]
    simp
    omega
/-- A slice literal of two structs. -/
theorem e_lit_two {t e sz : Nat} {x y : Operand} {cs ds : Array Value} {z : Value} (H : Holds w0 w F) (ht : P.underlying t = some (.slice e)) (hs : ∀ w, (sizeOf e).run P w = .ok sz w) (hz : ∀ w, (zeroValue e).run P w = .ok z w) (hz1 : z.cells.size = sz)
    (hx : ev L x = some (.agg cs)) (hy : ev L y = some (.agg ds)) (hn : cs.size = sz) (hm : ds.size = sz) (h0 : 0 < sz) (hn24 : sz ≤ 8388608) :
    Eff P L (.buildSlice t 2 #[(0, x), (1, y)]) ty w fun v w' => Holds w0 w' (Row e sz v 2 (cs.toList ++ ds.toList) • F) := by
  refine e_val (v := .slice (some ⟨w.heap.size, 0, none⟩) 2 2) (w' := w.alloc (.cells (cs ++ ds) e)) ?_ ?_
  · intro ρ hρ d pos aft g
    simp only [execOp, Instr.buildSlice, Sem.run_bind, run_underlying ht, Result.andThen_ok, hs]
    rw [if_neg (by omega), if_neg (by omega)]
    have hf : ∀ q : Array Value, q.size = 2 * sz → Instr.fill (fun i => some (i * sz, sz)) q [(0, .agg cs), (1, .agg ds)] = some (cs ++ ds) := fun q hq => by
      have f1 := fill_run cs.toList 0 0 q (by simp [hn, hq]; omega)
      have f2 := fill_run ds.toList sz 0 ((q.toList.take 0 ++ cs.toList ++ q.toList.drop (0 + cs.toList.length)).toArray) (by simp [hn, hm, hq]; omega)
      simp only [Instr.fill, Value.cells, hn, hm]
      simp only [Nat.zero_mul, Nat.one_mul]
      rw [if_neg (by simp [hq]; omega), ← Array.foldl_toList, Array.toList_zipIdx]
      simp only [Nat.zero_add] at f1 f2 ⊢
      rw [f1]
      rw [if_neg (by simp [hn, hq]; omega), ← Array.foldl_toList, Array.toList_zipIdx]
      rw [f2]
      congr 1
      apply Array.ext'
      simp [hn, hm, hq]
      omega
    have hf1 := hf ((Array.range (2 * sz)).map (z.cells[· % z.cells.size]!)) (by simp)
    simp [hz, hρ _ _ hx, hρ _ _ hy, hf1, newRow]
  · refine (H.alloc _).row_mk (by simp [hn, hm]; omega) rfl (Nat.le_refl _) (by omega) (by simp [hn, hm]; omega) fun j hj => ?_
    rw [Nat.zero_add, List.getD_eq_getElem?_getD]
    have h1 : j < (cs ++ ds).size := by simp [hn, hm]; omega
    rw [← Array.getElem?_toList, Array.toList_append, List.getElem?_eq_getElem (by simpa using h1)]
    rfl
/-- A store into a row of structs. -/
theorem e_store_rowS {t e sz n n' : Nat} {x y : Operand} {b o c : Nat} {i : Int} (off : Nat) {xs : List Value} {u : Value} (H : Holds w0 w (Row e sz (.slice (some ⟨b, o, none⟩) n' c) n xs • F)) (hs : ∀ w, (sizeOf t).run P w = .ok 1 w)
    (hx : ev L x = some (.pointer (some ⟨b, o + i.toNat * sz + off, none⟩))) (hy : ev L y = some u) (h1 : u.oneCell' = true) (hi : i.toNat < n) (ho : off < sz) :
    Eff P L (.store t x y) ty w fun _ w' => Holds w0 w' (Row e sz (.slice (some ⟨b, o, none⟩) n' c) n (xs.set (i.toNat * sz + off) u) • F) := by
  have hlen := H.row_len
  rcases H.row_open with ⟨a, hv, hn, hxs, H1⟩ | ⟨g, o', c', cur, hv, h2, h3, h4, h5, H1⟩
  · omega
  cases hv
  have hlt : i.toNat * sz + off < n * sz := Nat.lt_of_lt_of_le (by omega : i.toNat * sz + off < i.toNat * sz + sz) (by rw [← Nat.succ_mul]; exact Nat.mul_le_mul_right _ hi)
  have hle : n * sz ≤ c * sz := Nat.mul_le_mul_right _ h2
  refine (e_store H1 hs hx hy h1 (by omega)).mono fun v w' H2 => ?_
  refine H2.row_mk (o := o) (by simpa using hlen) rfl h2 h3 (by simp; omega) fun q hq => ?_
  rw [Array.getElem?_setIfInBounds]
  by_cases e1 : q = i.toNat * sz + off
  · subst e1
    rw [if_pos (by omega), if_pos (by omega)]
    simp [List.getD_eq_getElem?_getD, show i.toNat * sz + off < xs.length from by omega]
  · rw [if_neg (by omega), h5 q hq]
    simp only [List.getD_eq_getElem?_getD]
    rw [List.getElem?_set_ne (by omega)]
end
section
variable {w0 w : World} {F : HP}
theorem Holds.hideI1 {e : TypeId} {k : IntKind} {v : Value} {l : List Int} {B : HP} (h : Holds w0 w (RowI e k v l • B • F)) : ∃ n R, (l.length = n ∧ (n : Int) ≤ 9223372036854775807) ∧ F = R ∧ ∃ m, m.length = n ∧ Holds w0 w (RowI e k v m • B • R) := ⟨_, F, ⟨rfl, by
  obtain ⟨a, c, _, h1, h2, _⟩ := RdI.open h.row_rd
  omega⟩, rfl, l, rfl, h⟩
/-- A row of one's own, its beginning left off. -/
theorem Holds.row_from {e sz n i : Nat} {v : Value} {xs : List Value} (H : Holds w0 w (Row e sz v n xs • F)) (h2 : i ≤ n) : Holds w0 w (Row e sz (cutV sz i n v) (n - i) (xs.drop (i * sz)) • F) := by
  have hl := H.row_len
  rcases H.row_open with ⟨a, rfl, rfl, rfl, H1⟩ | ⟨g, o, c, cur, rfl, h2', h3, h4, h5, H1⟩
  · have : i = 0 := by omega
    subst this
    have := H1.row_nil (e := e) (sz := sz) a
    simpa [cutV, cutA] using this
  · by_cases hc : c = i
    · have hn : n = i := by omega
      subst hn hc
      have := H1.right.row_nil (e := e) (sz := sz) (some ⟨g, o, none⟩)
      rw [Nat.sub_self, List.drop_of_length_le (by omega)]
      simpa [cutV, cutA] using this
    · have e1 : i * sz + (c - i) * sz = c * sz := by rw [← Nat.add_mul]; congr 1; omega
      have e2 : i * sz + (n - i) * sz = n * sz := by rw [← Nat.add_mul]; congr 1; omega
      refine H1.row_mk (o := o + i * sz) (c := c - i) (by rw [List.length_drop, hl, ← Nat.sub_mul]) (by simp [cutV, cutA, hc, add_at]) (by omega) (by omega) (by omega) fun j hj => ?_
      rw [Nat.add_assoc, h5 (i * sz + j) (by omega), List.getD_eq_getElem?_getD, List.getD_eq_getElem?_getD, List.getElem?_drop]
theorem Holds.rowi_from {e : TypeId} {k : IntKind} {v : Value} {l : List Int} {i : Nat} (H : Holds w0 w (RowI e k v l • F)) (h2 : i ≤ l.length) : Holds w0 w (RowI e k (cutV 1 i l.length v) (l.drop i) • F) := by
  have := H.row_from h2
  unfold RowI
  rw [List.length_drop, List.map_drop]
  simpa using this
end
end Go.Proofs.Ytgmpclifphbjkaa
end
section
/- Lists of edits, and lists of such lists, whose texts are never written any more. -/
set_option linter.unusedSimpArgs false
set_option linter.unusedVariables false
namespace Go.Proofs.Ytgmpclifphbjkaa
open Go.RowKit
/-- An edit as it stands in memory. -/
structure BEd where
  a : Int
  d : Value
  dl : List Int
  i : Value
  il : List Int
instance : Inhabited BEd := ⟨⟨0, .slice none 0 0, [], .slice none 0 0, []⟩⟩
def BEd.enc (e : BEd) : List Value := [.int .i64 e.a, e.d, e.i]
theorem BEd.enc_len (e : BEd) : e.enc.length = 3 := rfl
def BEd.Imm (I : Hp) (e : BEd) : Prop := ImmI I .i32 e.d e.dl ∧ ImmI I .i32 e.i e.il
theorem BEd.Imm.mono {I I' : Hp} {e : BEd} (hl : Hp.le I I') (h : e.Imm I) : e.Imm I' := ⟨h.1.mono hl, h.2.mono hl⟩
/-- What it says. -/
def BEd.says (e : BEd) : Int × List Int × List Int := (e.a, e.dl, e.il)
def EdsI (I : Hp) (es : List BEd) : Prop := ∀ k, k < es.length → (es.getD k default).Imm I
theorem EdsI.mono {I I' : Hp} {es : List BEd} (hl : Hp.le I I') (h : EdsI I es) : EdsI I' es := fun k hk => (h k hk).mono hl
theorem EdsI.app {I : Hp} {es fs : List BEd} (h : EdsI I es) (g : EdsI I fs) : EdsI I (es ++ fs) := fun k hk => by
  by_cases hl : k < es.length
  · rw [getD_app_left hl]; exact h k hl
  · rw [getD_app_right (by omega)]; exact g _ (by simp at hk; omega)
theorem EdsI.one {I : Hp} {e : BEd} (h : e.Imm I) : EdsI I [e] := fun k hk => by
  obtain rfl : k = 0 := by simp at hk; omega
  exact h
def edsK (es : List BEd) : HP := know (fun I => EdsI I es) fun _ _ hl h => h.mono hl
def edK (e : BEd) : HP := know (fun I => e.Imm I) fun _ _ hl h => h.mono hl
/-- A slice of one's own of edits. -/
def EdL (v : Value) (es : List BEd) : HP := Row 82 3 v es.length (es.flatMap BEd.enc) • edsK es
/-- A slice that is never written any more. -/
def ImmR (I : Hp) (sz : Nat) (v : Value) (n : Nat) (xs : List Value) : Prop := xs.length = n * sz ∧ ∃ a c, v = .slice a n c ∧ n ≤ c ∧ (c : Int) ≤ 9223372036854775807 ∧
  (0 < n → ∃ b o cs e fr, a = some ⟨b, o, none⟩ ∧ I b = some (.cells cs e fr) ∧ ∀ j, j < n * sz → cs[o + j]? = some (xs.getD j undef))
theorem ImmR.mono {I I' : Hp} {sz n : Nat} {v : Value} {xs : List Value} (hl : Hp.le I I') (h : ImmR I sz v n xs) : ImmR I' sz v n xs := by
  obtain ⟨h0, a, c, h1, h2, h3, h4⟩ := h
  exact ⟨h0, a, c, h1, h2, h3, fun hp => let ⟨b, o, cs, e, fr, e1, e2, e3⟩ := h4 hp; ⟨b, o, cs, e, fr, e1, hl _ _ e2, e3⟩⟩
theorem ImmR.rd {w : World} {m : Nat} {I : Hp} {sz n : Nat} {v : Value} {xs : List Value} (h : ImmR I sz v n xs) (hI : ∀ k o, I k = some o → m ≤ k ∧ w.heap[k]? = some o) : Rd w sz v n xs := by
  obtain ⟨h0, a, c, h1, h2, h3, h4⟩ := h
  exact ⟨h0, a, c, h1, h2, h3, fun hp => let ⟨b, o, cs, e, fr, e1, e2, e3⟩ := h4 hp; ⟨b, o, e1, fun j hj => cell_of_blk (hI _ _ e2).2 (e3 j hj)⟩⟩
theorem ImmR.cell1 {I : Hp} {sz n : Nat} {v : Value} {xs : List Value} (h : ImmR I sz v n xs) : v.oneCell' = true := by obtain ⟨_, a, c, rfl, _⟩ := h; rfl
def ElI (I : Hp) (v : Value) (es : List BEd) : Prop := ImmR I 3 v es.length (es.flatMap BEd.enc) ∧ EdsI I es
theorem ElI.mono {I I' : Hp} {v : Value} {es : List BEd} (hl : Hp.le I I') (h : ElI I v es) : ElI I' v es := ⟨h.1.mono hl, h.2.mono hl⟩
def elK (v : Value) (es : List BEd) : HP := know (fun I => ElI I v es) fun _ _ hl h => h.mono hl
def ElsI (I : Hp) (gs : List (Value × List BEd)) : Prop := ∀ k, k < gs.length → ElI I (gs.getD k default).1 (gs.getD k default).2
theorem ElsI.mono {I I' : Hp} {gs : List (Value × List BEd)} (hl : Hp.le I I') (h : ElsI I gs) : ElsI I' gs := fun k hk => (h k hk).mono hl
theorem ElsI.app {I : Hp} {es fs : List (Value × List BEd)} (h : ElsI I es) (g : ElsI I fs) : ElsI I (es ++ fs) := fun k hk => by
  by_cases hl : k < es.length
  · rw [getD_app_left hl]; exact h k hl
  · rw [getD_app_right (by omega)]; exact g _ (by simp at hk; omega)
theorem ElsI.one {I : Hp} {v : Value} {es : List BEd} (h : ElI I v es) : ElsI I [(v, es)] := fun k hk => by
  obtain rfl : k = 0 := by simp at hk; omega
  exact h
theorem ElsI.take {I : Hp} {gs : List (Value × List BEd)} (h : ElsI I gs) (n : Nat) : ElsI I (gs.take n) := fun k hk => by
  simp at hk
  rw [getD_take (by omega)]
  exact h k (by omega)
def elsK (gs : List (Value × List BEd)) : HP := know (fun I => ElsI I gs) fun _ _ hl h => h.mono hl
/-- A slice of one's own of slices of edits that are never written any more. -/
def EdLL (v : Value) (gs : List (Value × List BEd)) : HP := Row 67 1 v gs.length (gs.map (·.1)) • elsK gs
section
variable {w0 w : World} {F : HP} {v u : Value} {es fs : List BEd} {e : BEd} {gs : List (Value × List BEd)} {a : Int} {d i : Value} {dl il : List Int}
theorem Holds.edsK_nil (H : Holds w0 w F) : Holds w0 w (edsK [] • F) := H.mk_know fun I k hk => by simp at hk
theorem Holds.elsK_nil (H : Holds w0 w F) : Holds w0 w (elsK [] • F) := H.mk_know fun I k hk => by simp at hk
theorem Holds.edL_nil (H : Holds w0 w F) (a : Option Addr) : Holds w0 w (EdL (.slice a 0 0) [] • F) := (H.edsK_nil.row_nil (e := 82) (sz := 3) a).deep
theorem Holds.edLL_nil (H : Holds w0 w F) (a : Option Addr) : Holds w0 w (EdLL (.slice a 0 0) [] • F) := (H.elsK_nil.row_nil (e := 67) (sz := 1) a).deep
theorem Holds.edL (H : Holds w0 w (EdL v es • F)) : Holds w0 w (Row 82 3 v es.length (es.flatMap BEd.enc) • edsK es • F) := H.flat
theorem Holds.edLL (H : Holds w0 w (EdLL v gs • F)) : Holds w0 w (Row 67 1 v gs.length (gs.map (·.1)) • elsK gs • F) := H.flat
/-- One more. -/
theorem Holds.edL_snoc (H : Holds w0 w (Row 82 3 v (es.length + 1) (es.flatMap BEd.enc ++ [.int .i64 a, d, i]) • immI .i32 d dl • immI .i32 i il • edsK es • F)) : Holds w0 w (EdL v (es ++ [⟨a, d, dl, i, il⟩]) • F) := by
  have h1 : Holds w0 w (immI .i32 d dl • immI .i32 i il • edsK es • Row 82 3 v (es.length + 1) (es.flatMap BEd.enc ++ [.int .i64 a, d, i]) • F) := H.of_eq (by ac_rfl)
  have h2 : Holds w0 w (edK ⟨a, d, dl, i, il⟩ • edsK es • Row 82 3 v (es.length + 1) (es.flatMap BEd.enc ++ [.int .i64 a, d, i]) • F) := h1.ent (know_two (fun I h g => ⟨h, g⟩) _)
  have h3 : Holds w0 w (edsK (es ++ [⟨a, d, dl, i, il⟩]) • Row 82 3 v (es.length + 1) (es.flatMap BEd.enc ++ [.int .i64 a, d, i]) • F) := h2.ent (know_two (fun I h g => g.app (EdsI.one h)) _)
  refine Holds.deep (h3.swap.of_eq ?_)
  rw [List.length_append, List.flatMap_append]
  simp [BEd.enc]
/-- A list's memory is never written any more. -/
theorem Holds.edL_freeze (H : Holds w0 w (EdL v es • F)) : Holds w0 w (elK v es • F) := by
  have hl := H.edL.row_len
  have H := H.edL
  rcases H.row_open with ⟨a, rfl, h1, h2, H1⟩ | ⟨g, o, c, cur, rfl, h2, h3, h4, h5, H1⟩
  · refine H1.ent (know_ent (fun I hI => ⟨⟨hl, a, 0, by rw [h1], by omega, by decide, fun h => by omega⟩, hI⟩) F)
  · exact H1.freeze.ent (know_two (fun I hI hE => ⟨⟨hl, _, c, rfl, h2, h3, fun _ => ⟨g, o, cur, _, (0, 0), rfl, hI, h5⟩⟩, hE⟩) F)
theorem Holds.elK_rd (H : Holds w0 w (elK v es • F)) : Rd w 3 v es.length (es.flatMap BEd.enc) := let ⟨I, h, hI⟩ := H.of_know; h.1.rd hI
theorem Holds.elK_d (H : Holds w0 w (elK v es • F)) {k : Nat} (hk : k < es.length) : RdI w .i32 (es.getD k default).d (es.getD k default).dl := let ⟨I, h, hI⟩ := H.of_know; (h.2 k hk).1.rd hI
theorem Holds.elK_i (H : Holds w0 w (elK v es • F)) {k : Nat} (hk : k < es.length) : RdI w .i32 (es.getD k default).i (es.getD k default).il := let ⟨I, h, hI⟩ := H.of_know; (h.2 k hk).2.rd hI
theorem Holds.elsK_get (H : Holds w0 w (elsK gs • F)) {k : Nat} (hk : k < gs.length) : Holds w0 w (elK (gs.getD k default).1 (gs.getD k default).2 • elsK gs • F) := H.dup_know.ent (know_ent (fun I h => h k hk) _)
theorem Holds.elsK_cut (H : Holds w0 w (elsK gs • F)) (n : Nat) : Holds w0 w (elsK (gs.take n) • F) := H.ent (know_ent (fun I h => h.take n) _)
theorem Holds.edLL_snoc (H : Holds w0 w (Row 67 1 v (gs.length + 1) (gs.map (·.1) ++ [u]) • elK u es • elsK gs • F)) : Holds w0 w (EdLL v (gs ++ [(u, es)]) • F) := by
  have h1 : Holds w0 w (elK u es • elsK gs • Row 67 1 v (gs.length + 1) (gs.map (·.1) ++ [u]) • F) := H.of_eq (by ac_rfl)
  have h3 : Holds w0 w (elsK (gs ++ [(u, es)]) • Row 67 1 v (gs.length + 1) (gs.map (·.1) ++ [u]) • F) := h1.ent (know_two (fun I h g => g.app (ElsI.one h)) _)
  refine Holds.deep (h3.swap.of_eq ?_)
  rw [List.length_append, List.map_append]
  rfl
theorem Holds.edL_ones (H : Holds w0 w (edsK es • F)) : ∀ x ∈ es.flatMap BEd.enc, x.oneCell' = true := by
  obtain ⟨I, h, hI⟩ := H.of_know
  intro x hx
  obtain ⟨e, he, hx⟩ := List.mem_flatMap.1 hx
  obtain ⟨k, hk, rfl⟩ := List.getElem_of_mem he
  have := h k hk
  rw [List.getD_eq_getElem?_getD, List.getElem?_eq_getElem hk] at this
  simp [BEd.enc] at hx
  rcases hx with rfl | rfl | rfl
  · rfl
  · exact this.1.cell1
  · exact this.2.cell1
end
end Go.Proofs.Ytgmpclifphbjkaa
end
