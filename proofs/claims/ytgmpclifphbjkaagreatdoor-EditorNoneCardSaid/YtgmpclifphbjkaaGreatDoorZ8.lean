import Derived.Test.YtgmpclifphbjkaaGreatDoorZ3
import Derived.Test.YtgmpclifphbjkaaGreatDoorZ4
import Derived.Test.YtgmpclifphbjkaaGreatDoorZ7
/- Texts of mine, joined: Undo1 Undo2 LitS Eds UList. -/
section
/- Undo: what is done to a line by an edit, the edit that takes it back, two edits in one; the document's too. -/
set_option linter.unusedSimpArgs false
set_option linter.unusedVariables false
namespace Go.Proofs.YtgmpclifphbjkaaGreatDoor
open Go.RowKit
section
variable {w0 w : World} {F : HP} {v d s z d2 z2 u1 u2 u3 : Value} {L dl il dl2 il2 l1 l2 l3 : List Int} {a a2 : Int}
/-- Whether an edit fits a line; its answer; the line behind it. -/
def uFit (L : List Int) (a : Int) (dl : List Int) : Bool := decide (0 ≤ a ∧ a + dl.length ≤ L.length) && ((L.drop a.toNat).take dl.length == dl)
def uE (L : List Int) (a : Int) (dl il : List Int) : Int := if uFit L a dl then (if 1024 < (L.length : Int) - dl.length + il.length then 3 else 0) else 1
def uL (L : List Int) (a : Int) (dl il : List Int) : List Int := if uE L a dl il = 0 then L.take a.toNat ++ il ++ L.drop (a.toNat + dl.length) else []
/-- An edit's cells. -/
abbrev edV (a : Int) (d z : Value) : Value := .agg #[.int .i64 a, d, z]
theorem undo_own_ret (H : Holds w0 w F) (hd : FRdI w0 F .i32 d dl) (hi : FRdI w0 F .i32 z il) (b2 : dl.length ≤ 35184372087808) (b3 : il.length ≤ 35184372087808) :
    Ret Tryz.prog 170 #[edV a d z] w fun v' w' => ∃ d' s', v' = edV a d' s' ∧ Holds w0 w' (RowI 21 .i32 d' dl • RowI 21 .i32 s' il • F) := by
  refine ret_enter Tryz.func170 rfl Tryz.ntmps170 (Nat.le_of_ble_eq_true rfl) ?_
  dsimp only [slots0, Nat.reduceAdd]
  refine wc_seq ?_
  refine wc_region ?_
  refine wl_eff (e_boxL (l := [_, _, _]) H rfl rfl) (ltn rfl) ?_
  rintro _ w1 ⟨b1, rfl, H1⟩
  refine wl_eff (e_allocL (l := [_, _, _]) H1 Tryz.zeroValue120 rfl) (ltn rfl) ?_
  rintro _ w2 ⟨b2, rfl, H2⟩
  refine wl_nil ?_
  refine wq_seq ?_
  refine wc_seq ?_
  have H1d2 := H2.drew
  have hS1d2 := Holds.kp (H1d2.f2.f2)
  refine wd_beginK [1, 3, 6] hS1d2 (by kernel_rfl) (by kernel_rfl) rfl ?_
  refine wd_takeT 0 rfl (by kernel_rfl) (by kernel_rfl) hS1d2 (fun _ => r_fieldA 0 Tryz.underlying120 rfl rfl Tryz.sizeOf3 (by decide) rfl (by first | exact Nat.zero_add _ | rfl)) (ltn rfl) ?_
  refine wd_take 1 rfl (by kernel_rfl) (by kernel_rfl) hS1d2 (by decide) (fun W hW => r_load (plain_of Tryz.underlying3 rfl) rfl (cell_of_blk ((Kp.h hW).f2).get.2 rfl)) (ltn rfl) ?_
  refine wd_takeT 2 rfl (by kernel_rfl) (by kernel_rfl) hS1d2 (fun _ => r_fieldA 1 Tryz.underlying120 rfl rfl Tryz.sizeOf22 (by decide) rfl (by first | exact Nat.zero_add _ | rfl)) (ltn rfl) ?_
  refine wd_take 3 rfl (by kernel_rfl) (by kernel_rfl) hS1d2 (by decide) (fun W hW => r_load (plain_of Tryz.underlying22 rfl) rfl (cell_of_blk ((Kp.h hW).f2).get.2 rfl)) (ltn rfl) ?_
  refine wd_takeT 5 rfl (by kernel_rfl) (by kernel_rfl) hS1d2 (fun _ => r_fieldA 2 Tryz.underlying120 rfl rfl Tryz.sizeOf22 (by decide) rfl (by first | exact Nat.zero_add _ | rfl)) (ltn rfl) ?_
  refine wd_take 6 rfl (by kernel_rfl) (by kernel_rfl) hS1d2 (by decide) (fun W hW => r_load (plain_of Tryz.underlying22 rfl) rfl (cell_of_blk ((Kp.h hW).f2).get.2 rfl)) (ltn rfl) ?_
  refine wd_eff 4 rfl (by kernel_rfl) (e_call (r_call rfl Tryz.func136 rfl rfl) (clone_ret H1d2 (fun W HW => hd _ (HW.right.right)) (by omega))) (ltn rfl) ?_
  rintro u3 w3 H3
  have hS3n := Holds.kp (H3.f3.f3.f3)
  refine keepK hS3n (fun W hW => (Kp.h hW).right.f2.f2) ?_
  refine wd_eff 7 rfl (by kernel_rfl) (e_call (r_call rfl Tryz.func136 rfl rfl) (clone_ret H3 (fun W HW => hi _ (HW.right.right.right)) (by omega))) (ltn rfl) ?_
  rintro u4 w4 H4
  have hS4n := Holds.kp (H4.f4.f4.f4.f4)
  refine keepK hS4n (fun W hW => (Kp.h hW).right.f3.f3.f3) ?_
  obtain ⟨au3, cu3, eu3, -⟩ := RdI.open ((H4.f2).row_rd)
  subst eu3
  obtain ⟨au4, cu4, eu4, -⟩ := RdI.open ((H4).row_rd)
  subst eu4
  refine wd_takeT 8 rfl (by kernel_rfl) (by kernel_rfl) hS4n (fun _ => r_build (pl := #[(0, 1), (1, 1), (2, 1)]) (#[_, _, _]) Tryz.underlying120 Tryz.zeroValue120 (fun w => by kernel_rfl) rfl (rfl)) (ltn rfl) ?_
  refine wd_eff0 9 rfl (by kernel_rfl) (e_storePL 0 (l' := [_, _, _]) (us := [_, _, _]) H4.f3 Tryz.sizeOf120 rfl rfl rfl (ones_cons (by first | rfl | assumption) (ones_cons (by first | rfl | exact Rd.one ((H4.f2).row_rd)) (ones_cons (by first | rfl | exact Rd.one ((H4).row_rd)) ones_nil))) rfl rfl) ?_
  rintro _ w7 H7
  have hS7n := Holds.kp (H7.f4.f4.f4.f4)
  refine keepX hS7n (by kernel_rfl) ?_
  refine wd_done (by kernel_rfl) ?_
  refine wq_seq ?_
  refine wc_ret ?_
  refine wq_end (.inl rfl) (resC Tryz.results170 rfl Tryz.underlying120 rfl (by rw [show (Tryz.prog.info? 120).map (·.size) = some 3 from by kernel_rfl]; rfl) (H7).get.2) ?_
  exact ⟨_, _, rfl, H7.right.f3.right.f2⟩
theorem undo_inverse_ret (H : Holds w0 w F) (hd : FRdI w0 F .i32 d dl) (hi : FRdI w0 F .i32 z il) (b2 : dl.length ≤ 35184372087808) (b3 : il.length ≤ 35184372087808) :
    Ret Tryz.prog 173 #[edV a d z] w fun v' w' => ∃ d' s', v' = edV a d' s' ∧ Holds w0 w' (RowI 21 .i32 d' il • RowI 21 .i32 s' dl • F) := by
  refine ret_enter Tryz.func173 rfl Tryz.ntmps173 (Nat.le_of_ble_eq_true rfl) ?_
  dsimp only [slots0, Nat.reduceAdd]
  refine wc_seq ?_
  refine wc_region ?_
  refine wl_eff (e_boxL (l := [_, _, _]) H rfl rfl) (ltn rfl) ?_
  rintro _ w1 ⟨b1, rfl, H1⟩
  refine wl_eff (e_allocL (l := [_, _, _]) H1 Tryz.zeroValue120 rfl) (ltn rfl) ?_
  rintro _ w2 ⟨b2, rfl, H2⟩
  refine wl_nil ?_
  refine wq_seq ?_
  refine wc_seq ?_
  refine wc_region ?_
  refine wl_val (r_fieldA 0 Tryz.underlying120 rfl rfl Tryz.sizeOf3 (by decide) rfl (by first | exact Nat.zero_add _ | rfl)) (ltn rfl) ?_
  refine wl_val (r_load (plain_of Tryz.underlying3 rfl) rfl (cell_of_blk (H2.f2).get.2 rfl)) (ltn rfl) ?_
  refine wl_val (r_fieldA 2 Tryz.underlying120 rfl rfl Tryz.sizeOf22 (by decide) rfl (by first | exact Nat.zero_add _ | rfl)) (ltn rfl) ?_
  refine wl_val (r_load (plain_of Tryz.underlying22 rfl) rfl (cell_of_blk (H2.f2).get.2 rfl)) (ltn rfl) ?_
  refine wl_val (r_fieldA 1 Tryz.underlying120 rfl rfl Tryz.sizeOf22 (by decide) rfl (by first | exact Nat.zero_add _ | rfl)) (ltn rfl) ?_
  refine wl_val (r_load (plain_of Tryz.underlying22 rfl) rfl (cell_of_blk (H2.f2).get.2 rfl)) (ltn rfl) ?_
  obtain ⟨az, cz, ez, -⟩ := RdI.open (hi _ (H2.right.right))
  subst ez
  obtain ⟨ad, cd, ed, -⟩ := RdI.open (hd _ (H2.right.right))
  subst ed
  refine wl_val (r_build (pl := #[(0, 1), (1, 1), (2, 1)]) (#[_, _, _]) Tryz.underlying120 Tryz.zeroValue120 (fun w => by kernel_rfl) rfl (rfl)) (ltn rfl) ?_
  refine wl_eff (e_call (r_call rfl Tryz.func170 rfl rfl) (undo_own_ret H2 (fun W HW => hi _ (HW.right.right)) (fun W HW => hd _ (HW.right.right)) (by omega) (by omega))) (ltn rfl) ?_
  rintro _ w5 ⟨d5, s5, rfl, H5⟩
  refine wl_eff0 (e_storePL 0 (l' := [_, _, _]) (us := [_, _, _]) H5.f3 Tryz.sizeOf120 rfl rfl rfl (ones_cons (by first | rfl | assumption) (ones_cons (by first | rfl | exact Rd.one ((H5).row_rd)) (ones_cons (by first | rfl | exact Rd.one ((H5.f2).row_rd)) ones_nil))) rfl rfl) ?_
  rintro _ w6 H6
  refine wl_nil ?_
  refine wq_seq ?_
  refine wc_ret ?_
  refine wq_end (.inl rfl) (resC Tryz.results173 rfl Tryz.underlying120 rfl (by rw [show (Tryz.prog.info? 120).map (·.size) = some 3 from by kernel_rfl]; rfl) (H6).get.2) ?_
  exact ⟨_, _, rfl, H6.right.f3.right.f2.f2⟩
end
end Go.Proofs.YtgmpclifphbjkaaGreatDoor
end
section
/- Undo: two edits in one. -/
set_option linter.unusedSimpArgs false
set_option linter.unusedVariables false
namespace Go.Proofs.YtgmpclifphbjkaaGreatDoor
open Go.RowKit
section
variable {w0 w : World} {F : HP} {v d s z d2 z2 u1 u2 u3 : Value} {L dl il dl2 il2 l1 l2 l3 : List Int} {a a2 : Int}
/-- Which way two edits are one; that one. -/
def jK (a a2 : Int) (dl il dl2 il2 : List Int) : Nat := if dl2.length = 0 ∧ a2 = a + il.length then 1 else if il.length = 0 ∧ il2.length = 0 ∧ a = a2 + dl2.length then 2 else 0
def jA (k : Nat) (a a2 : Int) : Int := if k = 1 then a else if k = 2 then a2 else 0
def jD (k : Nat) (dl dl2 : List Int) : List Int := if k = 1 then dl else if k = 2 then dl2 ++ dl else []
def jI (k : Nat) (il il2 : List Int) : List Int := if k = 1 then il ++ il2 else []
end
end Go.Proofs.YtgmpclifphbjkaaGreatDoor
end
section
/- Literals of structs, stores into rows of structs, rows cut. -/
set_option linter.unusedSimpArgs false
set_option linter.unusedVariables false
namespace Go.Proofs.YtgmpclifphbjkaaGreatDoor
open Go.RowKit
section
variable {P : Program} {L : List (Nat × Value)} {w0 w : World} {F : HP} {ty : TypeId}
theorem fill_whole (l : List Value) : ∀ (i : Nat) (cells : Array Value), cells.size = i + l.length → (l.zipIdx i).foldl (fun cs (x : Value × Nat) => cs.setIfInBounds (0 + x.2) x.1) cells = (cells.toList.take i ++ l).toArray := by
  induction l with
  | nil => intro i cells hs; simp [List.take_of_length_le (show cells.toList.length ≤ i by simp; simp at hs; omega)]
  | cons v r ih =>
    intro i cells hs
    rw [List.zipIdx_cons, List.foldl_cons]
    rw [ih (i + 1) _ (by simp at hs ⊢; omega)]
    congr 1
    have hi : i < cells.toList.length := by simp at hs ⊢; omega
    rw [Array.toList_setIfInBounds, Nat.zero_add, List.take_succ_eq_append_getElem (by simpa using hi), List.take_set_of_le (Nat.le_refl _)]
    simp
/-- A slice literal of one struct. -/
theorem e_lit_one {t e sz : Nat} {x : Operand} {cs : Array Value} {z : Value} (H : Holds w0 w F) (ht : P.underlying t = some (.slice e)) (hs : ∀ w, (sizeOf e).run P w = .ok sz w) (hz : ∀ w, (zeroValue e).run P w = .ok z w) (hz1 : z.cells.size = sz)
    (hx : ev L x = some (.agg cs)) (hn : cs.size = sz) (h0 : 0 < sz) (hn24 : sz ≤ 16777216) :
    Eff P L (.buildSlice t 1 #[(0, x)]) ty w fun v w' => Holds w0 w' (Row e sz v 1 cs.toList • F) := by
  refine e_val (v := .slice (some ⟨w.heap.size, 0, none⟩) 1 1) (w' := w.alloc (.cells cs e)) ?_ ?_
  · intro ρ hρ d pos aft g
    simp only [execOp, Instr.buildSlice, Sem.run_bind, run_underlying ht, Result.andThen_ok, hs]
    rw [if_neg (by omega), if_neg (by omega)]
    have hf : ∀ q : Array Value, q.size = sz → Instr.fill (fun i => some (i * sz, sz)) q [(0, .agg cs)] = some cs := fun q hq => by
      simp only [Instr.fill, Value.cells, hn]
      rw [if_neg (by simp [hq])]
      have := fill_whole cs.toList 0 q (by simp [hn, hq])
      simp only [Nat.zero_mul]
      rw [← Array.foldl_toList, Array.toList_zipIdx]
      simpa using this
    have hf1 := hf ((Array.range sz).map (z.cells[· % z.cells.size]!)) (by simp)
    simp [hz, hρ _ _ hx, hf1, newRow]
  · refine (H.alloc _).row_mk (by simp [hn]) rfl (Nat.le_refl _) (by omega) (by simp [hn]) fun j hj => ?_
    rw [Nat.zero_add, List.getD_eq_getElem?_getD]
    have : j < cs.size := by omega
    simp [this]
theorem fill_run (l : List Value) : ∀ (o i : Nat) (cells : Array Value), o + i + l.length ≤ cells.size → (l.zipIdx i).foldl (fun cs (x : Value × Nat) => cs.setIfInBounds (o + x.2) x.1) cells = (cells.toList.take (o + i) ++ l ++ cells.toList.drop (o + i + l.length)).toArray := by
  induction l with
  | nil => intro o i cells hs; simp
  | cons v r ih =>
    intro o i cells hs
    rw [List.zipIdx_cons, List.foldl_cons]
    rw [ih o (i + 1) _ (by simp at hs ⊢; omega)]
    congr 1
    simp only [List.length_cons] at hs ⊢
    have hi : o + i < cells.toList.length := by rw [Array.length_toList]; omega
    rw [Array.toList_setIfInBounds, show o + (i + 1) = o + i + 1 from by omega, List.take_succ_eq_append_getElem (by simpa using hi), List.take_set_of_le (Nat.le_refl _), List.drop_set_of_lt (by omega)]
    simp
    omega
end
section
variable {w0 w : World} {F : HP}
end
end Go.Proofs.YtgmpclifphbjkaaGreatDoor
end
section
/- Lists of edits, and lists of such lists, whose texts are never written any more. -/
set_option linter.unusedSimpArgs false
set_option linter.unusedVariables false
namespace Go.Proofs.YtgmpclifphbjkaaGreatDoor
open Go.RowKit
/-- An edit as it stands in memory. -/
structure BEd where
  a : Int
  d : Value
  dl : List Int
  i : Value
  il : List Int
instance : Inhabited BEd := ⟨⟨0, .slice none 0 0, [], .slice none 0 0, []⟩⟩
def BEd.enc (e : BEd) : List Value := [.int .i64 e.a, e.d, e.i]
theorem BEd.enc_len (e : BEd) : e.enc.length = 3 := rfl
def BEd.Imm (I : Hp) (e : BEd) : Prop := ImmI I .i32 e.d e.dl ∧ ImmI I .i32 e.i e.il
theorem BEd.Imm.mono {I I' : Hp} {e : BEd} (hl : Hp.le I I') (h : e.Imm I) : e.Imm I' := ⟨h.1.mono hl, h.2.mono hl⟩
/-- What it says. -/
def BEd.says (e : BEd) : Int × List Int × List Int := (e.a, e.dl, e.il)
def EdsI (I : Hp) (es : List BEd) : Prop := ∀ k, k < es.length → (es.getD k default).Imm I
theorem EdsI.mono {I I' : Hp} {es : List BEd} (hl : Hp.le I I') (h : EdsI I es) : EdsI I' es := fun k hk => (h k hk).mono hl
theorem EdsI.app {I : Hp} {es fs : List BEd} (h : EdsI I es) (g : EdsI I fs) : EdsI I (es ++ fs) := fun k hk => by
  by_cases hl : k < es.length
  · rw [getD_app_left hl]; exact h k hl
  · rw [getD_app_right (by omega)]; exact g _ (by simp at hk; omega)
theorem EdsI.one {I : Hp} {e : BEd} (h : e.Imm I) : EdsI I [e] := fun k hk => by
  obtain rfl : k = 0 := by simp at hk; omega
  exact h
def edsK (es : List BEd) : HP := know (fun I => EdsI I es) fun _ _ hl h => h.mono hl
def edK (e : BEd) : HP := know (fun I => e.Imm I) fun _ _ hl h => h.mono hl
/-- A slice of one's own of edits. -/
def EdL (v : Value) (es : List BEd) : HP := Row 120 3 v es.length (es.flatMap BEd.enc) • edsK es
/-- A slice that is never written any more. -/
def ImmR (I : Hp) (sz : Nat) (v : Value) (n : Nat) (xs : List Value) : Prop := xs.length = n * sz ∧ ∃ a c, v = .slice a n c ∧ n ≤ c ∧ (c : Int) ≤ 9223372036854775807 ∧
  (0 < n → ∃ b o cs e fr, a = some ⟨b, o, none⟩ ∧ I b = some (.cells cs e fr) ∧ ∀ j, j < n * sz → cs[o + j]? = some (xs.getD j undef))
theorem ImmR.mono {I I' : Hp} {sz n : Nat} {v : Value} {xs : List Value} (hl : Hp.le I I') (h : ImmR I sz v n xs) : ImmR I' sz v n xs := by
  obtain ⟨h0, a, c, h1, h2, h3, h4⟩ := h
  exact ⟨h0, a, c, h1, h2, h3, fun hp => let ⟨b, o, cs, e, fr, e1, e2, e3⟩ := h4 hp; ⟨b, o, cs, e, fr, e1, hl _ _ e2, e3⟩⟩
theorem ImmR.rd {w : World} {m : Nat} {I : Hp} {sz n : Nat} {v : Value} {xs : List Value} (h : ImmR I sz v n xs) (hI : ∀ k o, I k = some o → m ≤ k ∧ w.heap[k]? = some o) : Rd w sz v n xs := by
  obtain ⟨h0, a, c, h1, h2, h3, h4⟩ := h
  exact ⟨h0, a, c, h1, h2, h3, fun hp => let ⟨b, o, cs, e, fr, e1, e2, e3⟩ := h4 hp; ⟨b, o, e1, fun j hj => cell_of_blk (hI _ _ e2).2 (e3 j hj)⟩⟩
theorem ImmR.cell1 {I : Hp} {sz n : Nat} {v : Value} {xs : List Value} (h : ImmR I sz v n xs) : v.oneCell' = true := by obtain ⟨_, a, c, rfl, _⟩ := h; rfl
def ElI (I : Hp) (v : Value) (es : List BEd) : Prop := ImmR I 3 v es.length (es.flatMap BEd.enc) ∧ EdsI I es
theorem ElI.mono {I I' : Hp} {v : Value} {es : List BEd} (hl : Hp.le I I') (h : ElI I v es) : ElI I' v es := ⟨h.1.mono hl, h.2.mono hl⟩
def elK (v : Value) (es : List BEd) : HP := know (fun I => ElI I v es) fun _ _ hl h => h.mono hl
def ElsI (I : Hp) (gs : List (Value × List BEd)) : Prop := ∀ k, k < gs.length → ElI I (gs.getD k default).1 (gs.getD k default).2
theorem ElsI.mono {I I' : Hp} {gs : List (Value × List BEd)} (hl : Hp.le I I') (h : ElsI I gs) : ElsI I' gs := fun k hk => (h k hk).mono hl
theorem ElsI.app {I : Hp} {es fs : List (Value × List BEd)} (h : ElsI I es) (g : ElsI I fs) : ElsI I (es ++ fs) := fun k hk => by
  by_cases hl : k < es.length
  · rw [getD_app_left hl]; exact h k hl
  · rw [getD_app_right (by omega)]; exact g _ (by simp at hk; omega)
theorem ElsI.one {I : Hp} {v : Value} {es : List BEd} (h : ElI I v es) : ElsI I [(v, es)] := fun k hk => by
  obtain rfl : k = 0 := by simp at hk; omega
  exact h
theorem ElsI.take {I : Hp} {gs : List (Value × List BEd)} (h : ElsI I gs) (n : Nat) : ElsI I (gs.take n) := fun k hk => by
  simp at hk
  rw [getD_take (by omega)]
  exact h k (by omega)
def elsK (gs : List (Value × List BEd)) : HP := know (fun I => ElsI I gs) fun _ _ hl h => h.mono hl
/-- A slice of one's own of slices of edits that are never written any more. -/
def EdLL (v : Value) (gs : List (Value × List BEd)) : HP := Row 64 1 v gs.length (gs.map (·.1)) • elsK gs
section
variable {w0 w : World} {F : HP} {v u : Value} {es fs : List BEd} {e : BEd} {gs : List (Value × List BEd)} {a : Int} {d i : Value} {dl il : List Int}
theorem Holds.edsK_nil (H : Holds w0 w F) : Holds w0 w (edsK [] • F) := H.mk_know fun I k hk => by simp at hk
theorem Holds.elsK_nil (H : Holds w0 w F) : Holds w0 w (elsK [] • F) := H.mk_know fun I k hk => by simp at hk
theorem Holds.edL_nil (H : Holds w0 w F) (a : Option Addr) : Holds w0 w (EdL (.slice a 0 0) [] • F) := (H.edsK_nil.row_nil (e := 120) (sz := 3) a).deep
theorem Holds.edLL_nil (H : Holds w0 w F) (a : Option Addr) : Holds w0 w (EdLL (.slice a 0 0) [] • F) := (H.elsK_nil.row_nil (e := 64) (sz := 1) a).deep
theorem Holds.edL (H : Holds w0 w (EdL v es • F)) : Holds w0 w (Row 120 3 v es.length (es.flatMap BEd.enc) • edsK es • F) := H.flat
theorem Holds.edLL (H : Holds w0 w (EdLL v gs • F)) : Holds w0 w (Row 64 1 v gs.length (gs.map (·.1)) • elsK gs • F) := H.flat
/-- One more. -/
theorem Holds.edL_snoc (H : Holds w0 w (Row 120 3 v (es.length + 1) (es.flatMap BEd.enc ++ [.int .i64 a, d, i]) • immI .i32 d dl • immI .i32 i il • edsK es • F)) : Holds w0 w (EdL v (es ++ [⟨a, d, dl, i, il⟩]) • F) := by
  have h1 : Holds w0 w (immI .i32 d dl • immI .i32 i il • edsK es • Row 120 3 v (es.length + 1) (es.flatMap BEd.enc ++ [.int .i64 a, d, i]) • F) := H.of_eq (by ac_rfl)
  have h2 : Holds w0 w (edK ⟨a, d, dl, i, il⟩ • edsK es • Row 120 3 v (es.length + 1) (es.flatMap BEd.enc ++ [.int .i64 a, d, i]) • F) := h1.ent (know_two (fun I h g => ⟨h, g⟩) _)
  have h3 : Holds w0 w (edsK (es ++ [⟨a, d, dl, i, il⟩]) • Row 120 3 v (es.length + 1) (es.flatMap BEd.enc ++ [.int .i64 a, d, i]) • F) := h2.ent (know_two (fun I h g => g.app (EdsI.one h)) _)
  refine Holds.deep (h3.swap.of_eq ?_)
  rw [List.length_append, List.flatMap_append]
  simp [BEd.enc]
/-- A list's memory is never written any more. -/
theorem Holds.edL_freeze (H : Holds w0 w (EdL v es • F)) : Holds w0 w (elK v es • F) := by
  have hl := H.edL.row_len
  have H := H.edL
  rcases H.row_open with ⟨a, rfl, h1, h2, H1⟩ | ⟨g, o, c, cur, rfl, h2, h3, h4, h5, H1⟩
  · refine H1.ent (know_ent (fun I hI => ⟨⟨hl, a, 0, by rw [h1], by omega, by decide, fun h => by omega⟩, hI⟩) F)
  · exact H1.freeze.ent (know_two (fun I hI hE => ⟨⟨hl, _, c, rfl, h2, h3, fun _ => ⟨g, o, cur, _, (0, 0), rfl, hI, h5⟩⟩, hE⟩) F)
theorem Holds.elK_rd (H : Holds w0 w (elK v es • F)) : Rd w 3 v es.length (es.flatMap BEd.enc) := let ⟨I, h, hI⟩ := H.of_know; h.1.rd hI
theorem Holds.elK_d (H : Holds w0 w (elK v es • F)) {k : Nat} (hk : k < es.length) : RdI w .i32 (es.getD k default).d (es.getD k default).dl := let ⟨I, h, hI⟩ := H.of_know; (h.2 k hk).1.rd hI
theorem Holds.elK_i (H : Holds w0 w (elK v es • F)) {k : Nat} (hk : k < es.length) : RdI w .i32 (es.getD k default).i (es.getD k default).il := let ⟨I, h, hI⟩ := H.of_know; (h.2 k hk).2.rd hI
theorem Holds.elsK_get (H : Holds w0 w (elsK gs • F)) {k : Nat} (hk : k < gs.length) : Holds w0 w (elK (gs.getD k default).1 (gs.getD k default).2 • elsK gs • F) := H.dup_know.ent (know_ent (fun I h => h k hk) _)
theorem Holds.elsK_cut (H : Holds w0 w (elsK gs • F)) (n : Nat) : Holds w0 w (elsK (gs.take n) • F) := H.ent (know_ent (fun I h => h.take n) _)
theorem Holds.edLL_snoc (H : Holds w0 w (Row 64 1 v (gs.length + 1) (gs.map (·.1) ++ [u]) • elK u es • elsK gs • F)) : Holds w0 w (EdLL v (gs ++ [(u, es)]) • F) := by
  have h1 : Holds w0 w (elK u es • elsK gs • Row 64 1 v (gs.length + 1) (gs.map (·.1) ++ [u]) • F) := H.of_eq (by ac_rfl)
  have h3 : Holds w0 w (elsK (gs ++ [(u, es)]) • Row 64 1 v (gs.length + 1) (gs.map (·.1) ++ [u]) • F) := h1.ent (know_two (fun I h g => g.app (ElsI.one h)) _)
  refine Holds.deep (h3.swap.of_eq ?_)
  rw [List.length_append, List.map_append]
  rfl
theorem Holds.edL_ones (H : Holds w0 w (edsK es • F)) : ∀ x ∈ es.flatMap BEd.enc, x.oneCell' = true := by
  obtain ⟨I, h, hI⟩ := H.of_know
  intro x hx
  obtain ⟨e, he, hx⟩ := List.mem_flatMap.1 hx
  obtain ⟨k, hk, rfl⟩ := List.getElem_of_mem he
  have := h k hk
  rw [List.getD_eq_getElem?_getD, List.getElem?_eq_getElem hk] at this
  simp [BEd.enc] at hx
  rcases hx with rfl | rfl | rfl
  · rfl
  · exact this.1.cell1
  · exact this.2.cell1
end
end Go.Proofs.YtgmpclifphbjkaaGreatDoor
end
section
/- Lists of edits that are taken back: what stands in memory; methods. -/
set_option linter.unusedSimpArgs false
set_option linter.unusedVariables false
namespace Go.Proofs.YtgmpclifphbjkaaGreatDoor
open Go.RowKit
abbrev EdA := Int × List Int × List Int
def uTot (G : List (List EdA)) (N : List EdA) : Nat := (G.map List.length).sum + N.length
def EB (e : EdA) : Prop := e.2.1.length ≤ 35184372087808 ∧ e.2.2.length ≤ 35184372087808
theorem EB_snoc {N : List EdA} {x : EdA} (h : ∀ e ∈ N, EB e) (hx : EB x) : ∀ e ∈ N ++ [x], EB e := fun e he => by
  rcases List.mem_append.1 he with he | he
  · exact h e he
  · rw [List.mem_singleton.1 he]; exact hx
theorem EBs_snoc {G : List (List EdA)} {N : List EdA} (h : ∀ g ∈ G, ∀ e ∈ g, EB e) (hx : ∀ e ∈ N, EB e) : ∀ g ∈ G ++ [N], ∀ e ∈ g, EB e := fun g hg => by
  rcases List.mem_append.1 hg with hg | hg
  · exact h g hg
  · rw [List.mem_singleton.1 hg]; exact hx
theorem nn_snoc {G : List (List EdA)} {N : List EdA} (h : ∀ g ∈ G, g ≠ []) (hx : N ≠ []) : ∀ g ∈ G ++ [N], g ≠ [] := fun g hg => by
  rcases List.mem_append.1 hg with hg | hg
  · exact h g hg
  · rw [List.mem_singleton.1 hg]; exact hx
def UOk (G : List (List EdA)) (N : List EdA) (op : Int) : Prop := (∀ g ∈ G, g ≠ []) ∧ uTot G N ≤ 16384 ∧ 0 ≤ op ∧ op ≤ 4611686018427387904 ∧ (∀ g ∈ G, ∀ e ∈ g, EB e) ∧ ∀ e ∈ N, EB e
theorem len_le_sum {G : List (List EdA)} (h : ∀ g ∈ G, g ≠ []) : G.length ≤ (G.map List.length).sum := by
  induction G with
  | nil => simp
  | cons g G ih =>
    have h1 := ih fun x hx => h x (by simp [hx])
    have h2 : 0 < g.length := List.length_pos_iff.2 (h g (by simp))
    simp; omega
theorem UOk.len {G : List (List EdA)} {N : List EdA} {op : Int} (h : UOk G N op) : G.length + N.length ≤ 16384 := by
  have := len_le_sum h.1
  have := h.2.1
  unfold uTot at this
  omega
def UList (p : Nat) (G : List (List EdA)) (N : List EdA) (op : Int) : HP := exHP fun (x : Value × Value × List (Value × List BEd) × List BEd) =>
  fact (UOk G N op ∧ x.2.2.1.map (fun g => g.2.map BEd.says) = G ∧ x.2.2.2.map BEd.says = N) • blk p (.cells #[x.1, x.2.1, .int .i64 op, .int .i64 (uTot G N : Nat), .bool true] 171 (0, 0)) • EdLL x.1 x.2.2.1 • EdL x.2.1 x.2.2.2
section
variable {w0 w : World} {F : HP} {p : Nat} {G : List (List EdA)} {N : List EdA} {op : Int} {gv nv : Value} {gs : List (Value × List BEd)} {now : List BEd} {a : Int} {d z : Value} {dl il : List Int}
theorem Holds.ulist (H : Holds w0 w (UList p G N op • F)) : ∃ gv nv gs now, UOk G N op ∧ gs.map (fun g => g.2.map BEd.says) = G ∧ now.map BEd.says = N ∧ gs.length = G.length ∧ now.length = N.length ∧ G.length + N.length ≤ 16384 ∧
    Holds w0 w (blk p (.cells #[gv, nv, .int .i64 op, .int .i64 (uTot G N : Nat), .bool true] 171 (0, 0)) • Row 64 1 gv gs.length (gs.map (·.1)) • elsK gs • Row 120 3 nv now.length (now.flatMap BEd.enc) • edsK now • F) := by
  obtain ⟨⟨gv, nv, gs, now⟩, H⟩ := H.ex_sep
  obtain ⟨⟨h1, h2, h3⟩, H⟩ := H.flat.fact
  refine ⟨gv, nv, gs, now, h1, h2, h3, ?_, ?_, h1.len, ?_⟩
  · rw [← h2]; simp
  · rw [← h3]; simp
  · have := H.flat
    unfold EdLL EdL at this
    exact this.of_eq (by ac_rfl)
theorem Holds.mk_ulist (h1 : UOk G N op) (h2 : gs.map (fun g => g.2.map BEd.says) = G) (h3 : now.map BEd.says = N) {ed : Int} (he : ed = (uTot G N : Nat))
    (H : Holds w0 w (blk p (.cells #[gv, nv, .int .i64 op, .int .i64 ed, .bool true] 171 (0, 0)) • EdLL gv gs • EdL nv now • F)) : Holds w0 w (UList p G N op • F) := by
  subst he
  exact Holds.mk_ex_sep (gv, nv, gs, now) (Holds.deep (Holds.mk_fact ⟨h1, h2, h3⟩ (H.of_eq (by ac_rfl))))
theorem Holds.mk_ulistF (h1 : UOk G N op) (h2 : gs.map (fun g => g.2.map BEd.says) = G) (h3 : now.map BEd.says = N) {ed : Int} (he : ed = (uTot G N : Nat))
    (H : Holds w0 w (blk p (.cells #[gv, nv, .int .i64 op, .int .i64 ed, .bool true] 171 (0, 0)) • Row 64 1 gv gs.length (gs.map (·.1)) • elsK gs • Row 120 3 nv now.length (now.flatMap BEd.enc) • edsK now • F)) : Holds w0 w (UList p G N op • F) :=
  Holds.mk_ulist h1 h2 h3 he (H.of_eq (by unfold EdLL EdL; ac_rfl))
theorem undo_none_ret (H : Holds w0 w (UList p G N op • F)) : Ret Tryz.prog 127 #[.pointer (some ⟨p, 0, none⟩)] w fun v w' => v = .bool false ∧ w = w' := by
  refine ret_enter Tryz.func127 rfl Tryz.ntmps127 (Nat.le_of_ble_eq_true rfl) ?_
  dsimp only [slots0, Nat.reduceAdd]
  refine wc_seq ?_
  refine wc_region ?_
  refine wl_val (r_assign rfl) (ltn rfl) ?_
  refine wl_nil ?_
  refine wq_seq ?_
  refine wc_seq ?_
  obtain ⟨gv_p, nv_p, gs_p, now_p, k1_p, k2_p, k3_p, k4_p, k5_p, k6_p, HU_p⟩ := (H).ulist
  refine wc_region ?_
  refine wl_val (r_move rfl) (ltn rfl) ?_
  refine wl_val (r_ptr_nil Tryz.underlying116 rfl rfl) (ltn rfl) ?_
  refine wl_split rfl (ltn rfl) (fun h1 => ?_) (fun h1 => ?_)
  · (try simp only [cmpS] at h1)
    try (exfalso; first | contradiction | omega)
    all_goals
      refine wl_no rfl rfl rfl (ltn rfl) ?_
      refine wl_no rfl rfl rfl (ltn rfl) ?_
      refine wl_no rfl rfl rfl (ltn rfl) ?_
      refine wl_no rfl rfl rfl (ltn rfl) ?_
      refine wl_no rfl rfl rfl (ltn rfl) ?_
      refine wl_val (r_pick_t rfl rfl) (ltn rfl) ?_
      refine wl_val (r_assign rfl) (ltn rfl) ?_
      refine wl_nil ?_
      refine wq_seq ?_
      refine wc_ret ?_
      refine wq_end1 (.inl rfl) Tryz.results127 rfl ?_
      exact ⟨rfl, rfl⟩
  · (try simp only [cmpS] at h1)
    try (exfalso; first | contradiction | omega)
    all_goals
      refine wl_yes rfl rfl ?_
      refine wl_val (r_move rfl) (ltn rfl) ?_
      refine wl_yes rfl rfl ?_
      refine wl_val (r_nil rfl) (ltn rfl) ?_
      refine wl_yes rfl rfl ?_
      refine wl_val (r_fieldA 4 Tryz.underlying171 rfl rfl Tryz.sizeOf4 (by decide) rfl (by first | exact Nat.zero_add _ | rfl)) (ltn rfl) ?_
      refine wl_yes rfl rfl ?_
      refine wl_val (r_load (plain_of Tryz.underlying4 rfl) rfl (cell_of_blk (HU_p).get.2 rfl)) (ltn rfl) ?_
      refine wl_yes rfl rfl ?_
      refine wl_val (r_not rfl) (ltn rfl) ?_
      refine wl_val (r_pick_f rfl rfl) (ltn rfl) ?_
      refine wl_val (r_assign rfl) (ltn rfl) ?_
      refine wl_nil ?_
      refine wq_seq ?_
      refine wc_ret ?_
      refine wq_end1 (.inl rfl) Tryz.results127 rfl ?_
      exact ⟨rfl, rfl⟩
theorem undo_new_ret (H : Holds w0 w F) : Ret Tryz.prog 126 #[] w fun v w' => ∃ p, v = .pointer (some ⟨p, 0, none⟩) ∧ Holds w0 w' (UList p [] [] 0 • F) := by
  refine ret_enter Tryz.func126 rfl Tryz.ntmps126 (Nat.le_of_ble_eq_true rfl) ?_
  dsimp only [slots0, Nat.reduceAdd]
  refine wc_seq ?_
  refine wc_region ?_
  refine wl_val (r_assign rfl) (ltn rfl) ?_
  refine wl_nil ?_
  refine wq_seq ?_
  refine wc_seq ?_
  refine wc_region ?_
  refine wl_val (r_build (pl := #[(0, 4), (4, 1)]) (#[_, _, _, _, _]) Tryz.underlying171 Tryz.zeroValue171 (fun w => by kernel_rfl) rfl (rfl)) (ltn rfl) ?_
  refine wl_eff (e_boxL (l := [_, _, _, _, _]) H rfl rfl) (ltn rfl) ?_
  rintro _ w1 ⟨b1, rfl, H1⟩
  refine wl_val (r_assign rfl) (ltn rfl) ?_
  refine wl_nil ?_
  refine wq_seq ?_
  refine wc_ret ?_
  refine wq_end1 (.inl rfl) Tryz.results126 rfl ?_
  refine ⟨_, rfl, Holds.mk_ulist (gv := .slice none 0 0) (nv := .slice none 0 0) (gs := []) (now := []) ⟨by simp, by decide, by decide, by decide, by simp, by simp⟩ rfl rfl rfl ?_⟩
  exact (((H1).edL_nil none).edLL_nil none).of_eq (by ac_rfl)
theorem undo_len_ret (H : Holds w0 w (UList p G N op • F)) : Ret Tryz.prog 60 #[.pointer (some ⟨p, 0, none⟩)] w fun v w' => v = .int .i64 ((G.length : Int) + min 1 N.length) ∧ Holds w0 w' (UList p G N op • F) := by
  refine ret_enter Tryz.func60 rfl Tryz.ntmps60 (Nat.le_of_ble_eq_true rfl) ?_
  dsimp only [slots0, Nat.reduceAdd]
  refine wc_seq ?_
  refine wc_region ?_
  refine wl_val (r_assign rfl) (ltn rfl) ?_
  refine wl_nil ?_
  refine wq_seq ?_
  refine wc_seq ?_
  refine wc_seq ?_
  refine wc_region ?_
  refine wl_val (r_move rfl) (ltn rfl) ?_
  refine wl_eff (e_call (r_call rfl Tryz.func127 rfl rfl) (undo_none_ret H)) (ltn rfl) ?_
  rintro _ _ ⟨rfl, rfl⟩
  refine wl_nil ?_
  refine wq_seq ?_
  refine wc_cond_f rfl ?_
  refine wc_skip ?_
  refine wq_seq ?_
  refine wc_seq ?_
  obtain ⟨gv_p, nv_p, gs_p, now_p, k1_p, k2_p, k3_p, k4_p, k5_p, k6_p, HU_p⟩ := (H).ulist
  have H3d2 := HU_p.drew
  have hS3d2 := Holds.kp (H3d2.f5.f5.f5.f5.f5)
  refine wd_beginK [4, 10] hS3d2 (by kernel_rfl) (by kernel_rfl) rfl ?_
  refine wd_takeT 0 rfl (by kernel_rfl) (by kernel_rfl) hS3d2 (fun _ => r_move rfl) (ltn rfl) ?_
  refine wd_takeT 1 rfl (by kernel_rfl) (by kernel_rfl) hS3d2 (fun _ => r_nil rfl) (ltn rfl) ?_
  refine wd_takeT 2 rfl (by kernel_rfl) (by kernel_rfl) hS3d2 (fun _ => r_fieldA 0 Tryz.underlying171 rfl rfl Tryz.sizeOf169 (by decide) rfl (by first | exact Nat.zero_add _ | rfl)) (ltn rfl) ?_
  refine wd_takeT 3 rfl (by kernel_rfl) (by kernel_rfl) hS3d2 (fun _ => r_fieldA 0 Tryz.underlying169 rfl rfl Tryz.sizeOf167 (by decide) rfl (by first | exact Nat.zero_add _ | rfl)) (ltn rfl) ?_
  refine wd_take 4 rfl (by kernel_rfl) (by kernel_rfl) hS3d2 (by decide) (fun W hW => r_load (plain_of Tryz.underlying167 rfl) rfl (cell_of_blk ((Kp.h hW)).get.2 rfl)) (ltn rfl) ?_
  refine wd_takeT 5 rfl (by kernel_rfl) (by kernel_rfl) hS3d2 (fun _ => r_lenS ((H3d2.f2).row_rd) Tryz.underlying167 rfl) (ltn rfl) ?_
  refine wd_takeT 6 rfl (by kernel_rfl) (by kernel_rfl) hS3d2 (fun _ => r_move rfl) (ltn rfl) ?_
  refine wd_takeT 7 rfl (by kernel_rfl) (by kernel_rfl) hS3d2 (fun _ => r_nil rfl) (ltn rfl) ?_
  refine wd_takeT 8 rfl (by kernel_rfl) (by kernel_rfl) hS3d2 (fun _ => r_fieldA 0 Tryz.underlying171 rfl rfl Tryz.sizeOf169 (by decide) rfl (by first | exact Nat.zero_add _ | rfl)) (ltn rfl) ?_
  refine wd_takeT 9 rfl (by kernel_rfl) (by kernel_rfl) hS3d2 (fun _ => r_fieldA 1 Tryz.underlying169 rfl rfl Tryz.sizeOf64 (by decide) rfl (by first | exact Nat.zero_add _ | rfl)) (ltn rfl) ?_
  refine wd_take 10 rfl (by kernel_rfl) (by kernel_rfl) hS3d2 (by decide) (fun W hW => r_load (plain_of Tryz.underlying64 rfl) rfl (cell_of_blk ((Kp.h hW)).get.2 rfl)) (ltn rfl) ?_
  refine wd_takeT 11 rfl (by kernel_rfl) (by kernel_rfl) hS3d2 (fun _ => r_lenS ((H3d2.f4).row_rd) Tryz.underlying64 rfl) (ltn rfl) ?_
  refine wd_takeT 12 rfl (by kernel_rfl) (by kernel_rfl) hS3d2 (fun _ => r_min rfl rfl) (ltn rfl) ?_
  refine wd_takeT 13 rfl (by kernel_rfl) (by kernel_rfl) hS3d2 (fun _ => r_add rfl rfl (by omega)) (ltn rfl) ?_
  refine wd_takeT 14 rfl (by kernel_rfl) (by kernel_rfl) hS3d2 (fun _ => r_assign rfl) (ltn rfl) ?_
  refine wd_done (by kernel_rfl) ?_
  refine wq_seq ?_
  refine wc_ret ?_
  refine wq_end1 (.inl rfl) Tryz.results60 rfl ?_
  have Ho4 := H3d2.f5.f5.f5.f5.f5
  have Hc5 := Holds.mk_ulistF k1_p k2_p k3_p rfl Ho4
  exact ⟨by rw [k4_p, k5_p]; congr 1; omega, Hc5⟩
theorem undo_edits_ret (H : Holds w0 w (UList p G N op • F)) : Ret Tryz.prog 114 #[.pointer (some ⟨p, 0, none⟩)] w fun v w' => v = .int .i64 (uTot G N : Nat) ∧ Holds w0 w' (UList p G N op • F) := by
  refine ret_enter Tryz.func114 rfl Tryz.ntmps114 (Nat.le_of_ble_eq_true rfl) ?_
  dsimp only [slots0, Nat.reduceAdd]
  refine wc_seq ?_
  refine wc_region ?_
  refine wl_val (r_assign rfl) (ltn rfl) ?_
  refine wl_nil ?_
  refine wq_seq ?_
  refine wc_seq ?_
  refine wc_seq ?_
  refine wc_region ?_
  refine wl_val (r_move rfl) (ltn rfl) ?_
  refine wl_eff (e_call (r_call rfl Tryz.func127 rfl rfl) (undo_none_ret H)) (ltn rfl) ?_
  rintro _ _ ⟨rfl, rfl⟩
  refine wl_nil ?_
  refine wq_seq ?_
  refine wc_cond_f rfl ?_
  refine wc_skip ?_
  refine wq_seq ?_
  refine wc_seq ?_
  obtain ⟨gv_p, nv_p, gs_p, now_p, k1_p, k2_p, k3_p, k4_p, k5_p, k6_p, HU_p⟩ := (H).ulist
  refine wc_region ?_
  refine wl_val (r_move rfl) (ltn rfl) ?_
  refine wl_val (r_nil rfl) (ltn rfl) ?_
  refine wl_val (r_fieldA 0 Tryz.underlying171 rfl rfl Tryz.sizeOf169 (by decide) rfl (by first | exact Nat.zero_add _ | rfl)) (ltn rfl) ?_
  refine wl_val (r_fieldA 3 Tryz.underlying169 rfl rfl Tryz.sizeOf3 (by decide) rfl (by first | exact Nat.zero_add _ | rfl)) (ltn rfl) ?_
  refine wl_val (r_load (plain_of Tryz.underlying3 rfl) rfl (cell_of_blk (HU_p).get.2 rfl)) (ltn rfl) ?_
  refine wl_val (r_assign rfl) (ltn rfl) ?_
  refine wl_nil ?_
  refine wq_seq ?_
  refine wc_ret ?_
  refine wq_end1 (.inl rfl) Tryz.results114 rfl ?_
  have Ho4 := HU_p.f5.f5.f5.f5.f5
  have Hc5 := Holds.mk_ulistF k1_p k2_p k3_p rfl Ho4
  exact ⟨rfl, Hc5⟩
theorem undo_begin_ret (H : Holds w0 w (UList p G N op • F)) (hb : op < 4611686018427387904) : Ret Tryz.prog 121 #[.pointer (some ⟨p, 0, none⟩)] w fun v w' => v = .int .i64 0 ∧ Holds w0 w' (UList p G N (op + 1) • F) := by
  have hop : 0 ≤ op := by obtain ⟨gv, nv, gs, now, k1, _⟩ := H.ulist; exact k1.2.2.1
  refine ret_enter Tryz.func121 rfl Tryz.ntmps121 (Nat.le_of_ble_eq_true rfl) ?_
  dsimp only [slots0, Nat.reduceAdd]
  refine wc_seq ?_
  refine wc_region ?_
  refine wl_val (r_assign rfl) (ltn rfl) ?_
  refine wl_nil ?_
  refine wq_seq ?_
  refine wc_seq ?_
  refine wc_seq ?_
  refine wc_region ?_
  refine wl_val (r_move rfl) (ltn rfl) ?_
  refine wl_eff (e_call (r_call rfl Tryz.func127 rfl rfl) (undo_none_ret H)) (ltn rfl) ?_
  rintro _ _ ⟨rfl, rfl⟩
  refine wl_nil ?_
  refine wq_seq ?_
  refine wc_cond_f rfl ?_
  refine wc_skip ?_
  refine wq_seq ?_
  refine wc_seq ?_
  obtain ⟨gv_p, nv_p, gs_p, now_p, k1_p, k2_p, k3_p, k4_p, k5_p, k6_p, HU_p⟩ := (H).ulist
  refine wc_region ?_
  refine wl_val (r_move rfl) (ltn rfl) ?_
  refine wl_val (r_nil rfl) (ltn rfl) ?_
  refine wl_val (r_fieldA 0 Tryz.underlying171 rfl rfl Tryz.sizeOf169 (by decide) rfl (by first | exact Nat.zero_add _ | rfl)) (ltn rfl) ?_
  refine wl_val (r_fieldA 2 Tryz.underlying169 rfl rfl Tryz.sizeOf3 (by decide) rfl (by first | exact Nat.zero_add _ | rfl)) (ltn rfl) ?_
  refine wl_val (r_load (plain_of Tryz.underlying3 rfl) rfl (cell_of_blk (HU_p).get.2 rfl)) (ltn rfl) ?_
  refine wl_val (r_add rfl rfl (by omega)) (ltn rfl) ?_
  refine wl_val (r_nil rfl) (ltn rfl) ?_
  refine wl_val (r_fieldA 0 Tryz.underlying171 rfl rfl Tryz.sizeOf169 (by decide) rfl (by first | exact Nat.zero_add _ | rfl)) (ltn rfl) ?_
  refine wl_val (r_fieldA 2 Tryz.underlying169 rfl rfl Tryz.sizeOf3 (by decide) rfl (by first | exact Nat.zero_add _ | rfl)) (ltn rfl) ?_
  refine wl_eff0 (e_storeL 2 (l' := [_, _, _, _, _]) HU_p Tryz.sizeOf3 rfl rfl (by first | rfl | assumption) rfl rfl) ?_
  rintro _ w3 H3
  refine wl_nil ?_
  refine wq_seq ?_
  refine wc_seq ?_
  refine wc_region ?_
  refine wl_val (r_assign rfl) (ltn rfl) ?_
  refine wl_nil ?_
  refine wq_seq ?_
  refine wc_ret ?_
  refine wq_end1 (.inl rfl) Tryz.results121 rfl ?_
  exact ⟨rfl, Holds.mk_ulistF ⟨k1_p.1, k1_p.2.1, by omega, by omega, k1_p.2.2.2.2⟩ k2_p k3_p rfl H3.f5.f5.f5.f5.f5⟩
/-- Add: its answer; the groups, what was added in open ones. -/
def addE (G : List (List EdA)) (N : List EdA) (a : Int) (dl il : List Int) : Int := if dl.length + il.length = 0 ∨ a < 0 then 1 else if 16384 ≤ uTot G N then 3 else 0
def addG (G : List (List EdA)) (N : List EdA) (op a : Int) (dl il : List Int) : List (List EdA) := if addE G N a dl il = 0 then (if 0 < op then G else G ++ [[(a, dl, il)]]) else G
def addN (G : List (List EdA)) (N : List EdA) (op a : Int) (dl il : List Int) : List EdA := if addE G N a dl il = 0 then (if 0 < op then N ++ [(a, dl, il)] else N) else N
theorem uTot_in {x : EdA} : uTot G (N ++ [x]) = uTot G N + 1 := by simp [uTot]; omega
theorem uTot_out {x : EdA} : uTot (G ++ [[x]]) N = uTot G N + 1 := by simp [uTot]; omega
theorem addG_not (h : addE G N a dl il ≠ 0) : addG G N op a dl il = G := by unfold addG; rw [if_neg h]
theorem addN_not (h : addE G N a dl il ≠ 0) : addN G N op a dl il = N := by unfold addN; rw [if_neg h]
theorem addG_in (h : addE G N a dl il = 0) (ho : 0 < op) : addG G N op a dl il = G := by unfold addG; rw [if_pos h, if_pos ho]
theorem addN_in (h : addE G N a dl il = 0) (ho : 0 < op) : addN G N op a dl il = N ++ [(a, dl, il)] := by unfold addN; rw [if_pos h, if_pos ho]
theorem addG_out (h : addE G N a dl il = 0) (ho : ¬ 0 < op) : addG G N op a dl il = G ++ [[(a, dl, il)]] := by unfold addG; rw [if_pos h, if_neg ho]
theorem addN_out (h : addE G N a dl il = 0) (ho : ¬ 0 < op) : addN G N op a dl il = N := by unfold addN; rw [if_pos h, if_neg ho]
theorem undo_add_ret (H : Holds w0 w (UList p G N op • F)) (hd : FRdI w0 F .i32 d dl) (hi : FRdI w0 F .i32 z il) (b2 : dl.length ≤ 35184372087808) (b3 : il.length ≤ 35184372087808) :
    Ret Tryz.prog 122 #[.pointer (some ⟨p, 0, none⟩), edV a d z] w fun v w' => v = .int .i64 (addE G N a dl il) ∧ Holds w0 w' (UList p (addG G N op a dl il) (addN G N op a dl il) op • F) := by
  refine ret_enter Tryz.func122 rfl Tryz.ntmps122 (Nat.le_of_ble_eq_true rfl) ?_
  dsimp only [slots0, Nat.reduceAdd]
  refine wc_seq ?_
  refine wc_region ?_
  refine wl_eff (e_boxL (l := [_, _, _]) H rfl rfl) (ltn rfl) ?_
  rintro _ w1 ⟨b1, rfl, H1⟩
  refine wl_val (r_assign rfl) (ltn rfl) ?_
  refine wl_nil ?_
  refine wq_seq ?_
  refine wc_seq ?_
  refine wc_seq ?_
  refine wc_region ?_
  refine wl_val (r_move rfl) (ltn rfl) ?_
  refine wl_eff (e_call (r_call rfl Tryz.func127 rfl rfl) (undo_none_ret H1.f2)) (ltn rfl) ?_
  rintro _ _ ⟨rfl, rfl⟩
  refine wl_nil ?_
  refine wq_seq ?_
  refine wc_cond_f rfl ?_
  refine wc_skip ?_
  refine wq_seq ?_
  refine wc_seq ?_
  refine wc_seq ?_
  refine wc_region ?_
  refine wl_val (r_fieldA 1 Tryz.underlying120 rfl rfl Tryz.sizeOf22 (by decide) rfl (by first | exact Nat.zero_add _ | rfl)) (ltn rfl) ?_
  refine wl_val (r_load (plain_of Tryz.underlying22 rfl) rfl (cell_of_blk (H1).get.2 rfl)) (ltn rfl) ?_
  refine wl_val (r_lenR (hd _ (H1.right.right)) Tryz.underlying22 rfl) (ltn rfl) ?_
  refine wl_val (r_fieldA 2 Tryz.underlying120 rfl rfl Tryz.sizeOf22 (by decide) rfl (by first | exact Nat.zero_add _ | rfl)) (ltn rfl) ?_
  refine wl_val (r_load (plain_of Tryz.underlying22 rfl) rfl (cell_of_blk (H1).get.2 rfl)) (ltn rfl) ?_
  refine wl_val (r_lenR (hi _ (H1.right.right)) Tryz.underlying22 rfl) (ltn rfl) ?_
  refine wl_val (r_add rfl rfl (by omega)) (ltn rfl) ?_
  refine wl_val (r_eql rfl rfl) (ltn rfl) ?_
  refine wl_split rfl (ltn rfl) (fun h1 => ?_) (fun h1 => ?_)
  · (try simp only [cmpS] at h1)
    refine wl_no rfl rfl rfl (ltn rfl) ?_
    refine wl_no rfl rfl rfl (ltn rfl) ?_
    refine wl_no rfl rfl rfl (ltn rfl) ?_
    refine wl_val (r_pick_t rfl rfl) (ltn rfl) ?_
    refine wl_nil ?_
    refine wq_seq ?_
    refine wc_cond_t rfl ?_
    refine wc_seq ?_
    refine wc_region ?_
    refine wl_val (r_assign rfl) (ltn rfl) ?_
    refine wl_nil ?_
    refine wq_seq ?_
    refine wc_ret ?_
    refine wq_then_ret ?_
    refine wq_end1 (.inl rfl) Tryz.results122 rfl ?_
    have e : addE G N a dl il = 1 := by unfold addE; rw [if_pos (by omega)]
    rw [addG_not (by rw [e]; decide), addN_not (by rw [e]; decide), e]
    exact ⟨rfl, H1.right⟩
  · (try simp only [cmpS] at h1)
    refine wl_yes rfl rfl ?_
    refine wl_val (r_fieldA 0 Tryz.underlying120 rfl rfl Tryz.sizeOf3 (by decide) rfl (by first | exact Nat.zero_add _ | rfl)) (ltn rfl) ?_
    refine wl_yes rfl rfl ?_
    refine wl_val (r_load (plain_of Tryz.underlying3 rfl) rfl (cell_of_blk (H1).get.2 rfl)) (ltn rfl) ?_
    refine wl_yes rfl rfl ?_
    refine wl_val (r_lss rfl rfl) (ltn rfl) ?_
    refine wl_val (r_pick_f rfl rfl) (ltn rfl) ?_
    refine wl_nil ?_
    refine wq_seq ?_
    refine wc_cond rfl (fun h2 => ?_) (fun h2 => ?_)
    · (try simp only [cmpS] at h2)
      
      refine wc_seq ?_
      refine wc_region ?_
      refine wl_val (r_assign rfl) (ltn rfl) ?_
      refine wl_nil ?_
      refine wq_seq ?_
      refine wc_ret ?_
      refine wq_then_ret ?_
      refine wq_end1 (.inl rfl) Tryz.results122 rfl ?_
      have e : addE G N a dl il = 1 := by unfold addE; rw [if_pos (by omega)]
      rw [addG_not (by rw [e]; decide), addN_not (by rw [e]; decide), e]
      exact ⟨rfl, H1.right⟩
    · (try simp only [cmpS] at h2)
      
      refine wc_skip ?_
      refine wq_seq ?_
      refine wc_seq ?_
      refine wc_seq ?_
      obtain ⟨gv_p, nv_p, gs_p, now_p, k1_p, k2_p, k3_p, k4_p, k5_p, k6_p, HU_p⟩ := (H1.f2).ulist
      refine wc_region ?_
      refine wl_val (r_move rfl) (ltn rfl) ?_
      refine wl_val (r_nil rfl) (ltn rfl) ?_
      refine wl_val (r_fieldA 0 Tryz.underlying171 rfl rfl Tryz.sizeOf169 (by decide) rfl (by first | exact Nat.zero_add _ | rfl)) (ltn rfl) ?_
      refine wl_val (r_fieldA 3 Tryz.underlying169 rfl rfl Tryz.sizeOf3 (by decide) rfl (by first | exact Nat.zero_add _ | rfl)) (ltn rfl) ?_
      refine wl_val (r_load (plain_of Tryz.underlying3 rfl) rfl (cell_of_blk (HU_p).get.2 rfl)) (ltn rfl) ?_
      refine wl_val (r_geq rfl rfl) (ltn rfl) ?_
      refine wl_nil ?_
      refine wq_seq ?_
      refine wc_cond rfl (fun h3 => ?_) (fun h3 => ?_)
      · (try simp only [cmpS] at h3)
        
        refine wc_seq ?_
        refine wc_region ?_
        refine wl_val (r_assign rfl) (ltn rfl) ?_
        refine wl_nil ?_
        refine wq_seq ?_
        refine wc_ret ?_
        refine wq_then_ret ?_
        refine wq_end1 (.inl rfl) Tryz.results122 rfl ?_
        have e : addE G N a dl il = 3 := by unfold addE; rw [if_neg (by omega), if_pos (by omega)]
        have Ho5 := HU_p.f5.f5.f5.f5.f5
        have Hc6 := Holds.mk_ulistF k1_p k2_p k3_p rfl Ho5
        rw [addG_not (by rw [e]; decide), addN_not (by rw [e]; decide), e]
        exact ⟨rfl, Hc6.f2.right⟩
      · (try simp only [cmpS] at h3)
        
        refine wc_skip ?_
        refine wq_seq ?_
        refine wc_seq ?_
        refine wc_region ?_
        refine wl_val (r_move rfl) (ltn rfl) ?_
        refine wl_val (r_nil rfl) (ltn rfl) ?_
        refine wl_val (r_fieldA 0 Tryz.underlying171 rfl rfl Tryz.sizeOf169 (by decide) rfl (by first | exact Nat.zero_add _ | rfl)) (ltn rfl) ?_
        refine wl_val (r_fieldA 3 Tryz.underlying169 rfl rfl Tryz.sizeOf3 (by decide) rfl (by first | exact Nat.zero_add _ | rfl)) (ltn rfl) ?_
        refine wl_val (r_load (plain_of Tryz.underlying3 rfl) rfl (cell_of_blk (HU_p).get.2 rfl)) (ltn rfl) ?_
        refine wl_val (r_add rfl rfl (by omega)) (ltn rfl) ?_
        refine wl_val (r_nil rfl) (ltn rfl) ?_
        refine wl_val (r_fieldA 0 Tryz.underlying171 rfl rfl Tryz.sizeOf169 (by decide) rfl (by first | exact Nat.zero_add _ | rfl)) (ltn rfl) ?_
        refine wl_val (r_fieldA 3 Tryz.underlying169 rfl rfl Tryz.sizeOf3 (by decide) rfl (by first | exact Nat.zero_add _ | rfl)) (ltn rfl) ?_
        refine wl_eff0 (e_storeL 3 (l' := [_, _, _, _, _]) HU_p Tryz.sizeOf3 rfl rfl (by first | rfl | assumption) rfl rfl) ?_
        rintro _ w7 H7
        refine wl_nil ?_
        refine wq_seq ?_
        refine wc_seq ?_
        refine wc_seq ?_
        refine wc_region ?_
        refine wl_val (r_move rfl) (ltn rfl) ?_
        refine wl_val (r_nil rfl) (ltn rfl) ?_
        refine wl_val (r_fieldA 0 Tryz.underlying171 rfl rfl Tryz.sizeOf169 (by decide) rfl (by first | exact Nat.zero_add _ | rfl)) (ltn rfl) ?_
        refine wl_val (r_fieldA 2 Tryz.underlying169 rfl rfl Tryz.sizeOf3 (by decide) rfl (by first | exact Nat.zero_add _ | rfl)) (ltn rfl) ?_
        refine wl_val (r_load (plain_of Tryz.underlying3 rfl) rfl (cell_of_blk (H7).get.2 rfl)) (ltn rfl) ?_
        refine wl_val (r_gtr rfl rfl) (ltn rfl) ?_
        refine wl_nil ?_
        refine wq_seq ?_
        refine wc_cond rfl (fun h4 => ?_) (fun h4 => ?_)
        · (try simp only [cmpS] at h4)
          
          have H9d7 := H7.drew
          have hS9d7 := Holds.kp (H9d7.f6.f6.f6.f6.f6.f6)
          refine wd_beginK [5, 6] hS9d7 (by kernel_rfl) (by kernel_rfl) rfl ?_
          refine wd_takeT 0 rfl (by kernel_rfl) (by kernel_rfl) hS9d7 (fun _ => r_move rfl) (ltn rfl) ?_
          refine wd_takeT 1 rfl (by kernel_rfl) (by kernel_rfl) hS9d7 (fun _ => r_move rfl) (ltn rfl) ?_
          refine wd_takeT 2 rfl (by kernel_rfl) (by kernel_rfl) hS9d7 (fun _ => r_nil rfl) (ltn rfl) ?_
          refine wd_takeT 3 rfl (by kernel_rfl) (by kernel_rfl) hS9d7 (fun _ => r_fieldA 0 Tryz.underlying171 rfl rfl Tryz.sizeOf169 (by decide) rfl (by first | exact Nat.zero_add _ | rfl)) (ltn rfl) ?_
          refine wd_takeT 4 rfl (by kernel_rfl) (by kernel_rfl) hS9d7 (fun _ => r_fieldA 1 Tryz.underlying169 rfl rfl Tryz.sizeOf64 (by decide) rfl (by first | exact Nat.zero_add _ | rfl)) (ltn rfl) ?_
          refine wd_take 5 rfl (by kernel_rfl) (by kernel_rfl) hS9d7 (by decide) (fun W hW => r_load (plain_of Tryz.underlying64 rfl) rfl (cell_of_blk ((Kp.h hW)).get.2 rfl)) (ltn rfl) ?_
          refine wd_take 6 rfl (by kernel_rfl) (by kernel_rfl) hS9d7 (by decide) (fun W hW => r_load_whole Tryz.underlying120 rfl Tryz.sizeOf120 rfl rfl ((Kp.h hW).f6).get.2) (ltn rfl) ?_
          refine wd_eff 7 rfl (by kernel_rfl) (e_call (r_call rfl Tryz.func170 rfl rfl) (undo_own_ret H9d7 (fun W HW => hd _ (HW.right.right.right.right.right.right)) (fun W HW => hi _ (HW.right.right.right.right.right.right)) (by omega) (by omega))) (ltn rfl) ?_
          rintro _ w8 ⟨d8, s8, rfl, H8⟩
          have hS8n := Holds.kp (H8.f8.f8.f8.f8.f8.f8.f8.f8)
          refine keepK hS8n (fun W hW => (Kp.h hW).right.right.f6.f6.f6.f6.f6.f6) ?_
          refine wd_eff 8 rfl (by kernel_rfl) (e_lit_one H8 Tryz.underlying64 Tryz.sizeOf120 Tryz.zeroValue120 rfl rfl rfl (by decide) (by decide)) (ltn rfl) ?_
          rintro l9 w9 H9
          have hS9n := Holds.kp (H9.f9.f9.f9.f9.f9.f9.f9.f9.f9)
          refine keepK hS9n (fun W hW => (Kp.h hW).right.f8.f8.f8.f8.f8.f8.f8.f8) ?_
          refine wd_eff 9 rfl (by kernel_rfl) (e_append H9.f7 Tryz.underlying64 (show (Tryz.prog.info? 120).map (fun i => (i.zero, i.size, i.bytes)) = some (some (.agg #[.int .i64 0, .slice none 0 0, .slice none 0 0]), 3, 56) by kernel_rfl) rfl rfl rfl ((H9).row_rd) (ones_cons (by first | rfl | assumption) (ones_cons (by first | rfl | exact Rd.one ((H9.f2).row_rd)) (ones_cons (by first | rfl | exact Rd.one ((H9.f3).row_rd)) ones_nil))) (by omega) (by omega)) (ltn rfl) ?_
          rintro l10 w10 H10
          have Hd11 := H10.f2.right
          have hS11n := Holds.kp (Hd11.f8.f8.f8.f8.f8.f8.f8.f8)
          refine keepX hS11n (by kernel_rfl) ?_
          refine wd_takeT 10 rfl (by kernel_rfl) (by kernel_rfl) hS11n (fun _ => r_nil rfl) (ltn rfl) ?_
          refine wd_takeT 11 rfl (by kernel_rfl) (by kernel_rfl) hS11n (fun _ => r_fieldA 0 Tryz.underlying171 rfl rfl Tryz.sizeOf169 (by decide) rfl (by first | exact Nat.zero_add _ | rfl)) (ltn rfl) ?_
          refine wd_takeT 12 rfl (by kernel_rfl) (by kernel_rfl) hS11n (fun _ => r_fieldA 1 Tryz.underlying169 rfl rfl Tryz.sizeOf64 (by decide) rfl (by first | exact Nat.zero_add _ | rfl)) (ltn rfl) ?_
          refine wd_eff0 13 rfl (by kernel_rfl) (e_storeL 1 (l' := [_, _, _, _, _]) Hd11.f4 Tryz.sizeOf64 rfl rfl (by first | rfl | exact Rd.one ((Hd11).row_rd)) rfl rfl) ?_
          rintro _ w12 H12
          have hS12n := Holds.kp (H12.f8.f8.f8.f8.f8.f8.f8.f8)
          refine keepX hS12n (by kernel_rfl) ?_
          have hadd : 0 < op := by omega
          refine wd_done (by kernel_rfl) ?_
          refine wq_seq ?_
          refine wc_seq ?_
          refine wc_region ?_
          refine wl_val (r_assign rfl) (ltn rfl) ?_
          refine wl_nil ?_
          refine wq_seq ?_
          refine wc_ret ?_
          refine wq_end1 (.inl rfl) Tryz.results122 rfl ?_
          have e : addE G N a dl il = 0 := by unfold addE; rw [if_neg (by omega), if_neg (by omega)]
          rw [addG_in e hadd, addN_in e hadd, e]
          have X := (H12.f8.right.f6.f6.f3.f7.f5.f7.f7).freezeI.swap.freezeI.swap
          have X2 := Holds.edL_snoc X.f3
          refine ⟨rfl, Holds.mk_ulist (gv := gv_p) (nv := l10) (gs := gs_p) (now := now_p ++ [⟨a, d8, dl, s8, il⟩]) (ed := (uTot G N : Nat) + 1) ⟨k1_p.1, by rw [uTot_in]; omega, k1_p.2.2.1, k1_p.2.2.2.1, k1_p.2.2.2.2.1, EB_snoc k1_p.2.2.2.2.2 ⟨b2, b3⟩⟩ k2_p (by rw [List.map_append, k3_p]; rfl) (by rw [uTot_in]; rfl) (X2.of_eq (by unfold EdLL; ac_rfl))⟩
        · (try simp only [cmpS] at h4)
          
          have H10d12 := H7.drew
          have hS10d12 := Holds.kp (H10d12.f6.f6.f6.f6.f6.f6)
          refine wd_beginK [5, 6] hS10d12 (by kernel_rfl) (by kernel_rfl) rfl ?_
          refine wd_takeT 0 rfl (by kernel_rfl) (by kernel_rfl) hS10d12 (fun _ => r_move rfl) (ltn rfl) ?_
          refine wd_takeT 1 rfl (by kernel_rfl) (by kernel_rfl) hS10d12 (fun _ => r_move rfl) (ltn rfl) ?_
          refine wd_takeT 2 rfl (by kernel_rfl) (by kernel_rfl) hS10d12 (fun _ => r_nil rfl) (ltn rfl) ?_
          refine wd_takeT 3 rfl (by kernel_rfl) (by kernel_rfl) hS10d12 (fun _ => r_fieldA 0 Tryz.underlying171 rfl rfl Tryz.sizeOf169 (by decide) rfl (by first | exact Nat.zero_add _ | rfl)) (ltn rfl) ?_
          refine wd_takeT 4 rfl (by kernel_rfl) (by kernel_rfl) hS10d12 (fun _ => r_fieldA 0 Tryz.underlying169 rfl rfl Tryz.sizeOf167 (by decide) rfl (by first | exact Nat.zero_add _ | rfl)) (ltn rfl) ?_
          refine wd_take 5 rfl (by kernel_rfl) (by kernel_rfl) hS10d12 (by decide) (fun W hW => r_load (plain_of Tryz.underlying167 rfl) rfl (cell_of_blk ((Kp.h hW)).get.2 rfl)) (ltn rfl) ?_
          refine wd_take 6 rfl (by kernel_rfl) (by kernel_rfl) hS10d12 (by decide) (fun W hW => r_load_whole Tryz.underlying120 rfl Tryz.sizeOf120 rfl rfl ((Kp.h hW).f6).get.2) (ltn rfl) ?_
          refine wd_eff 7 rfl (by kernel_rfl) (e_call (r_call rfl Tryz.func170 rfl rfl) (undo_own_ret H10d12 (fun W HW => hd _ (HW.right.right.right.right.right.right)) (fun W HW => hi _ (HW.right.right.right.right.right.right)) (by omega) (by omega))) (ltn rfl) ?_
          rintro _ w13 ⟨d13, s13, rfl, H13⟩
          have hS13n := Holds.kp (H13.f8.f8.f8.f8.f8.f8.f8.f8)
          refine keepK hS13n (fun W hW => (Kp.h hW).right.right.f6.f6.f6.f6.f6.f6) ?_
          refine wd_eff 8 rfl (by kernel_rfl) (e_lit_one H13 Tryz.underlying64 Tryz.sizeOf120 Tryz.zeroValue120 rfl rfl rfl (by decide) (by decide)) (ltn rfl) ?_
          rintro l14 w14 H14
          have hS14n := Holds.kp (H14.f9.f9.f9.f9.f9.f9.f9.f9.f9)
          refine keepK hS14n (fun W hW => (Kp.h hW).right.f8.f8.f8.f8.f8.f8.f8.f8) ?_
          refine wd_eff 9 rfl (by kernel_rfl) (e_lit_row (vs := [_]) H14 Tryz.underlying167 Tryz.sizeOf64 Tryz.zeroValue64 rfl rfl rfl (by decide) (ones_cons (by first | rfl | exact Rd.one ((H14).row_rd)) ones_nil)) (ltn rfl) ?_
          rintro l15 w15 H15
          have hS15n := Holds.kp (H15.f10.f10.f10.f10.f10.f10.f10.f10.f10.f10)
          refine keepK hS15n (fun W hW => (Kp.h hW).right.f9.f9.f9.f9.f9.f9.f9.f9.f9) ?_
          refine wd_eff 10 rfl (by kernel_rfl) (e_append H15.f6 Tryz.underlying167 (show (Tryz.prog.info? 64).map (fun i => (i.zero, i.size, i.bytes)) = some (some (.slice none 0 0), 1, 24) by kernel_rfl) rfl rfl rfl ((H15).row_rd) (ones_cons (by first | rfl | exact Rd.one ((H15.f2).row_rd)) ones_nil) (by omega) (by omega)) (ltn rfl) ?_
          rintro l16 w16 H16
          have Hd17 := H16.f2.right
          have hS17n := Holds.kp (Hd17.f9.f9.f9.f9.f9.f9.f9.f9.f9)
          refine keepX hS17n (by kernel_rfl) ?_
          refine wd_takeT 11 rfl (by kernel_rfl) (by kernel_rfl) hS17n (fun _ => r_nil rfl) (ltn rfl) ?_
          refine wd_takeT 12 rfl (by kernel_rfl) (by kernel_rfl) hS17n (fun _ => r_fieldA 0 Tryz.underlying171 rfl rfl Tryz.sizeOf169 (by decide) rfl (by first | exact Nat.zero_add _ | rfl)) (ltn rfl) ?_
          refine wd_takeT 13 rfl (by kernel_rfl) (by kernel_rfl) hS17n (fun _ => r_fieldA 0 Tryz.underlying169 rfl rfl Tryz.sizeOf167 (by decide) rfl (by first | exact Nat.zero_add _ | rfl)) (ltn rfl) ?_
          refine wd_eff0 14 rfl (by kernel_rfl) (e_storeL 0 (l' := [_, _, _, _, _]) Hd17.f5 Tryz.sizeOf167 rfl rfl (by first | rfl | exact Rd.one ((Hd17).row_rd)) rfl rfl) ?_
          rintro _ w18 H18
          have hS18n := Holds.kp (H18.f9.f9.f9.f9.f9.f9.f9.f9.f9)
          refine keepX hS18n (by kernel_rfl) ?_
          have hadd : ¬ 0 < op := by omega
          refine wd_done (by kernel_rfl) ?_
          refine wq_seq ?_
          refine wc_seq ?_
          refine wc_region ?_
          refine wl_val (r_assign rfl) (ltn rfl) ?_
          refine wl_nil ?_
          refine wq_seq ?_
          refine wc_ret ?_
          refine wq_end1 (.inl rfl) Tryz.results122 rfl ?_
          have e : addE G N a dl il = 0 := by unfold addE; rw [if_neg (by omega), if_neg (by omega)]
          rw [addG_out e hadd, addN_out e hadd, e]
          have X := (H18.f9.right.f8.f8.f3.f8.f5.f6.f8.f8).freezeI.swap.freezeI.swap
          have X2 := Holds.edL_snoc (es := []) X.edsK_nil.f3.f3.f4
          have X4 := Holds.edLL_snoc X2.edL_freeze.swap
          refine ⟨rfl, Holds.mk_ulist (gv := l16) (nv := nv_p) (gs := gs_p ++ [(l14, [⟨a, d13, dl, s13, il⟩])]) (now := now_p) (ed := (uTot G N : Nat) + 1) ⟨nn_snoc k1_p.1 (List.cons_ne_nil _ _), by rw [uTot_out]; omega, k1_p.2.2.1, k1_p.2.2.2.1, EBs_snoc k1_p.2.2.2.2.1 (by intro e he; rw [List.mem_singleton.1 he]; exact ⟨b2, b3⟩), k1_p.2.2.2.2.2⟩ (by rw [List.map_append, k2_p]; rfl) k3_p (by rw [uTot_out]; rfl) (X4.of_eq (by unfold EdL; ac_rfl))⟩
end
end Go.Proofs.YtgmpclifphbjkaaGreatDoor
end
