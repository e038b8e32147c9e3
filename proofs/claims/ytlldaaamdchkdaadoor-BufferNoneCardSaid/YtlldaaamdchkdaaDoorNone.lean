/- A buffer that no call made: each method's answer. -/
import Derived.Test.YtlldaaamdchkdaaDoorRef7c
set_option linter.unusedSimpArgs false
set_option linter.unusedVariables false
namespace Go.Proofs.YtlldaaamdchkdaaDoor
open Go.RowKit
theorem r_field_val {P : Program} {L : List (Nat × Value)} {w : World} {ty t : TypeId} {fs : Array Field} {f : Field} {i : Nat} {x : Operand} {cs : Array Value} {u : Value} (off : Nat) (ht : P.underlying t = some (.struct fs)) (hf : fs[i]? = some f) (ho : f.offset = off) (hp : plainTy P f.type = true) (hx : ev L x = some (.agg cs)) (hc : cs[off]? = some u) :
    Val P L (.field t x i) ty w u w := fun ρ hρ _ _ _ _ => by
  simp [execOp, hρ _ _ hx, Instr.field, run_underlying ht, hf, part, asAgg, run_isAgg_no hp, ho, hc]
/-- No call made it. -/
def Unmade (w0 : World) (F : HP) (bv : Value) : Prop := ∀ (G : HP) (W : World), Holds w0 W (G • F) → Ret Tryd.prog 51 #[bv] W fun v w' => v = .bool true ∧ W = w'
section
variable {w0 w : World} {F G : HP} {bv v : Value} {x : Int}
theorem none_len (H : Holds w0 w (G • F)) (hu : Unmade w0 F bv) : Ret Tryd.prog 45 #[bv] w fun v w' => v = .int .i64 0 ∧ w = w' := by
  refine ret_enter Tryd.func45 rfl Tryd.ntmps45 (Nat.le_of_ble_eq_true rfl) ?_
  dsimp only [slots0, Nat.reduceAdd]
  refine wc_seq ?_
  refine wc_region ?_
  refine wl_val (r_assign rfl) (by decide) ?_
  refine wl_nil ?_
  refine wq_seq ?_
  refine wc_seq ?_
  refine wc_seq ?_
  refine wc_region ?_
  refine wl_val (r_move rfl) (by decide) ?_
  refine wl_eff (e_call (r_call rfl Tryd.func51 rfl rfl) (hu _ _ H)) (by decide) ?_
  rintro _ _ ⟨rfl, rfl⟩
  refine wl_nil ?_
  refine wq_seq ?_
  refine wc_cond_t rfl ?_
  refine wc_seq ?_
  refine wc_region ?_
  refine wl_val (r_assign rfl) (by decide) ?_
  refine wl_nil ?_
  refine wq_seq ?_
  refine wc_ret ?_
  refine wq_then_ret ?_
  refine wq_end1 (.inl rfl) Tryd.results45 rfl ?_
  exact ⟨rfl, rfl⟩
theorem none_point (H : Holds w0 w (G • F)) (hu : Unmade w0 F bv) : Ret Tryd.prog 23 #[bv] w fun v w' => v = .int .i64 0 ∧ w = w' := by
  refine ret_enter Tryd.func23 rfl Tryd.ntmps23 (Nat.le_of_ble_eq_true rfl) ?_
  dsimp only [slots0, Nat.reduceAdd]
  refine wc_seq ?_
  refine wc_region ?_
  refine wl_val (r_assign rfl) (by decide) ?_
  refine wl_nil ?_
  refine wq_seq ?_
  refine wc_seq ?_
  refine wc_seq ?_
  refine wc_region ?_
  refine wl_val (r_move rfl) (by decide) ?_
  refine wl_eff (e_call (r_call rfl Tryd.func51 rfl rfl) (hu _ _ H)) (by decide) ?_
  rintro _ _ ⟨rfl, rfl⟩
  refine wl_nil ?_
  refine wq_seq ?_
  refine wc_cond_t rfl ?_
  refine wc_seq ?_
  refine wc_region ?_
  refine wl_val (r_assign rfl) (by decide) ?_
  refine wl_nil ?_
  refine wq_seq ?_
  refine wc_ret ?_
  refine wq_then_ret ?_
  refine wq_end1 (.inl rfl) Tryd.results23 rfl ?_
  exact ⟨rfl, rfl⟩
theorem none_mark (H : Holds w0 w (G • F)) (hu : Unmade w0 F bv) : Ret Tryd.prog 46 #[bv] w fun v w' => v = .int .i64 0 ∧ w = w' := by
  refine ret_enter Tryd.func46 rfl Tryd.ntmps46 (Nat.le_of_ble_eq_true rfl) ?_
  dsimp only [slots0, Nat.reduceAdd]
  refine wc_seq ?_
  refine wc_region ?_
  refine wl_val (r_assign rfl) (by decide) ?_
  refine wl_nil ?_
  refine wq_seq ?_
  refine wc_seq ?_
  refine wc_seq ?_
  refine wc_region ?_
  refine wl_val (r_move rfl) (by decide) ?_
  refine wl_eff (e_call (r_call rfl Tryd.func51 rfl rfl) (hu _ _ H)) (by decide) ?_
  rintro _ _ ⟨rfl, rfl⟩
  refine wl_nil ?_
  refine wq_seq ?_
  refine wc_cond_t rfl ?_
  refine wc_seq ?_
  refine wc_region ?_
  refine wl_val (r_assign rfl) (by decide) ?_
  refine wl_nil ?_
  refine wq_seq ?_
  refine wc_ret ?_
  refine wq_then_ret ?_
  refine wq_end1 (.inl rfl) Tryd.results46 rfl ?_
  exact ⟨rfl, rfl⟩
theorem none_text (H : Holds w0 w (G • F)) (hu : Unmade w0 F bv) : Ret Tryd.prog 15 #[bv] w fun v w' => v = .slice none 0 0 ∧ w = w' := by
  refine ret_enter Tryd.func15 rfl Tryd.ntmps15 (Nat.le_of_ble_eq_true rfl) ?_
  dsimp only [slots0, Nat.reduceAdd]
  refine wc_seq ?_
  refine wc_region ?_
  refine wl_val (r_assign rfl) (by decide) ?_
  refine wl_nil ?_
  refine wq_seq ?_
  refine wc_seq ?_
  refine wc_seq ?_
  refine wc_region ?_
  refine wl_val (r_move rfl) (by decide) ?_
  refine wl_eff (e_call (r_call rfl Tryd.func51 rfl rfl) (hu _ _ H)) (by decide) ?_
  rintro _ _ ⟨rfl, rfl⟩
  refine wl_nil ?_
  refine wq_seq ?_
  refine wc_cond_t rfl ?_
  refine wc_seq ?_
  refine wc_region ?_
  refine wl_val (r_assign rfl) (by decide) ?_
  refine wl_nil ?_
  refine wq_seq ?_
  refine wc_ret ?_
  refine wq_then_ret ?_
  refine wq_end1 (.inl rfl) Tryd.results15 rfl ?_
  exact ⟨rfl, rfl⟩
theorem none_clone (H : Holds w0 w (G • F)) (hu : Unmade w0 F bv) : Ret Tryd.prog 47 #[bv] w fun v w' => v = .pointer none ∧ w = w' := by
  refine ret_enter Tryd.func47 rfl Tryd.ntmps47 (Nat.le_of_ble_eq_true rfl) ?_
  dsimp only [slots0, Nat.reduceAdd]
  refine wc_seq ?_
  refine wc_region ?_
  refine wl_val (r_assign rfl) (by decide) ?_
  refine wl_nil ?_
  refine wq_seq ?_
  refine wc_seq ?_
  refine wc_seq ?_
  refine wc_region ?_
  refine wl_val (r_move rfl) (by decide) ?_
  refine wl_eff (e_call (r_call rfl Tryd.func51 rfl rfl) (hu _ _ H)) (by decide) ?_
  rintro _ _ ⟨rfl, rfl⟩
  refine wl_nil ?_
  refine wq_seq ?_
  refine wc_cond_t rfl ?_
  refine wc_seq ?_
  refine wc_region ?_
  refine wl_val (r_assign rfl) (by decide) ?_
  refine wl_nil ?_
  refine wq_seq ?_
  refine wc_ret ?_
  refine wq_then_ret ?_
  refine wq_end1 (.inl rfl) Tryd.results47 rfl ?_
  exact ⟨rfl, rfl⟩
theorem none_move (H : Holds w0 w (G • F)) (hu : Unmade w0 F bv) : Ret Tryd.prog 17 #[bv, .int .i64 x] w fun v w' => v = .int .i64 2 ∧ w = w' := by
  refine ret_enter Tryd.func17 rfl Tryd.ntmps17 (Nat.le_of_ble_eq_true rfl) ?_
  dsimp only [slots0, Nat.reduceAdd]
  refine wc_seq ?_
  refine wc_region ?_
  refine wl_val (r_assign rfl) (by decide) ?_
  refine wl_nil ?_
  refine wq_seq ?_
  refine wc_seq ?_
  refine wc_block ?_
  refine wc_seq ?_
  refine wc_region ?_
  refine wl_val (r_move rfl) (by decide) ?_
  refine wl_eff (e_call (r_call rfl Tryd.func51 rfl rfl) (hu _ _ H)) (by decide) ?_
  rintro _ _ ⟨rfl, rfl⟩
  refine wl_val (r_assign rfl) (by decide) ?_
  refine wl_nil ?_
  refine wq_seq ?_
  refine wc_cond_t rfl ?_
  refine wc_seq ?_
  refine wc_region ?_
  refine wl_val (r_assign rfl) (by decide) ?_
  refine wl_nil ?_
  refine wq_seq ?_
  refine wc_ret ?_
  refine wq_block_ret ?_
  refine wq_then_ret ?_
  refine wq_end1 (.inl rfl) Tryd.results17 rfl ?_
  exact ⟨rfl, rfl⟩
theorem none_setmark (H : Holds w0 w (G • F)) (hu : Unmade w0 F bv) : Ret Tryd.prog 42 #[bv, .int .i64 x] w fun v w' => v = .int .i64 2 ∧ w = w' := by
  refine ret_enter Tryd.func42 rfl Tryd.ntmps42 (Nat.le_of_ble_eq_true rfl) ?_
  dsimp only [slots0, Nat.reduceAdd]
  refine wc_seq ?_
  refine wc_region ?_
  refine wl_val (r_assign rfl) (by decide) ?_
  refine wl_nil ?_
  refine wq_seq ?_
  refine wc_seq ?_
  refine wc_block ?_
  refine wc_seq ?_
  refine wc_region ?_
  refine wl_val (r_move rfl) (by decide) ?_
  refine wl_eff (e_call (r_call rfl Tryd.func51 rfl rfl) (hu _ _ H)) (by decide) ?_
  rintro _ _ ⟨rfl, rfl⟩
  refine wl_val (r_assign rfl) (by decide) ?_
  refine wl_nil ?_
  refine wq_seq ?_
  refine wc_cond_t rfl ?_
  refine wc_seq ?_
  refine wc_region ?_
  refine wl_val (r_assign rfl) (by decide) ?_
  refine wl_nil ?_
  refine wq_seq ?_
  refine wc_ret ?_
  refine wq_block_ret ?_
  refine wq_then_ret ?_
  refine wq_end1 (.inl rfl) Tryd.results42 rfl ?_
  exact ⟨rfl, rfl⟩
theorem none_swap (H : Holds w0 w (G • F)) (hu : Unmade w0 F bv) : Ret Tryd.prog 43 #[bv] w fun v w' => v = .int .i64 2 ∧ w = w' := by
  refine ret_enter Tryd.func43 rfl Tryd.ntmps43 (Nat.le_of_ble_eq_true rfl) ?_
  dsimp only [slots0, Nat.reduceAdd]
  refine wc_seq ?_
  refine wc_region ?_
  refine wl_val (r_assign rfl) (by decide) ?_
  refine wl_nil ?_
  refine wq_seq ?_
  refine wc_seq ?_
  refine wc_block ?_
  refine wc_seq ?_
  refine wc_region ?_
  refine wl_val (r_move rfl) (by decide) ?_
  refine wl_eff (e_call (r_call rfl Tryd.func51 rfl rfl) (hu _ _ H)) (by decide) ?_
  rintro _ _ ⟨rfl, rfl⟩
  refine wl_val (r_assign rfl) (by decide) ?_
  refine wl_nil ?_
  refine wq_seq ?_
  refine wc_cond_t rfl ?_
  refine wc_seq ?_
  refine wc_region ?_
  refine wl_val (r_assign rfl) (by decide) ?_
  refine wl_nil ?_
  refine wq_seq ?_
  refine wc_ret ?_
  refine wq_block_ret ?_
  refine wq_then_ret ?_
  refine wq_end1 (.inl rfl) Tryd.results43 rfl ?_
  exact ⟨rfl, rfl⟩
theorem none_apply {a : Int} {d i : Value} (H : Holds w0 w (G • F)) (hu : Unmade w0 F bv) : Ret Tryd.prog 24 #[bv, .agg (edCells a d i)] w fun v w' => v = .int .i64 2 ∧ Holds w0 w' (G • F) := by
  refine ret_enter Tryd.func24 rfl Tryd.ntmps24 (Nat.le_of_ble_eq_true rfl) ?_
  dsimp only [slots0, Nat.reduceAdd]
  refine wc_seq ?_
  refine wc_region ?_
  refine wl_eff (e_box H rfl) (by decide) ?_
  rintro _ w1 ⟨b1, rfl, H1⟩
  refine wl_val (r_assign rfl) (by decide) ?_
  refine wl_nil ?_
  refine wq_seq ?_
  refine wc_seq ?_
  refine wc_block ?_
  refine wc_seq ?_
  refine wc_region ?_
  refine wl_val (r_move rfl) (by decide) ?_
  refine wl_eff (e_call (r_call rfl Tryd.func51 rfl rfl) (hu _ _ H1.deep)) (by decide) ?_
  rintro _ _ ⟨rfl, rfl⟩
  refine wl_val (r_assign rfl) (by decide) ?_
  refine wl_nil ?_
  refine wq_seq ?_
  refine wc_cond_t rfl ?_
  refine wc_seq ?_
  refine wc_region ?_
  refine wl_val (r_assign rfl) (by decide) ?_
  refine wl_nil ?_
  refine wq_seq ?_
  refine wc_ret ?_
  refine wq_block_ret ?_
  refine wq_then_ret ?_
  refine wq_end1 (.inl rfl) Tryd.results24 rfl ?_
  exact ⟨rfl, H1.right⟩
theorem none_replace {i j : Int} (H : Holds w0 w (G • F)) (hu : Unmade w0 F bv) : Ret Tryd.prog 13 #[bv, .int .i64 i, .int .i64 j, v] w fun v' w' => v' = .tuple #[.agg (edCells 0 (.slice none 0 0) (.slice none 0 0)), .int .i64 2] ∧ Holds w0 w' (G • F) := by
  refine ret_enter Tryd.func13 rfl Tryd.ntmps13 (Nat.le_of_ble_eq_true rfl) ?_
  dsimp only [slots0, Nat.reduceAdd]
  refine wc_seq ?_
  refine wc_region ?_
  refine wl_eff (e_alloc H Tryd.zeroValue24) (by decide) ?_
  rintro _ w1 ⟨b1, rfl, H1⟩
  refine wl_val (r_assign rfl) (by decide) ?_
  refine wl_nil ?_
  refine wq_seq ?_
  refine wc_seq ?_
  refine wc_region ?_
  refine wl_val (r_move rfl) (by decide) ?_
  refine wl_eff (e_call (r_call rfl Tryd.func45 rfl rfl) (none_len H1.deep hu)) (by decide) ?_
  rintro _ _ ⟨rfl, rfl⟩
  refine wl_val (r_assign rfl) (by decide) ?_
  refine wl_nil ?_
  refine wq_seq ?_
  refine wc_seq ?_
  refine wc_block ?_
  refine wc_seq ?_
  refine wc_region ?_
  refine wl_val (r_move rfl) (by decide) ?_
  refine wl_eff (e_call (r_call rfl Tryd.func51 rfl rfl) (hu _ _ H1.deep)) (by decide) ?_
  rintro _ _ ⟨rfl, rfl⟩
  refine wl_val (r_assign rfl) (by decide) ?_
  refine wl_nil ?_
  refine wq_seq ?_
  refine wc_cond_t rfl ?_
  refine wc_seq ?_
  refine wc_region ?_
  refine wl_val (r_build (pl := #[(0, 1), (1, 1), (2, 1)]) (edCells 0 (.slice none 0 0) (.slice none 0 0)) Tryd.underlying24 Tryd.zeroValue24 (fun w => by kernel_rfl) rfl (by kernel_rfl)) (by decide) ?_
  refine wl_eff0 (e_store_whole (cs := edCells 0 (.slice none 0 0) (.slice none 0 0)) H1 Tryd.sizeOf24 rfl rfl rfl rfl (ed_ones rfl rfl)) ?_
  rintro _ w4 H4
  refine wl_val (r_assign rfl) (by decide) ?_
  refine wl_nil ?_
  refine wq_seq ?_
  refine wc_ret ?_
  refine wq_block_ret ?_
  refine wq_then_ret ?_
  refine wq_endCT (.inl rfl) Tryd.results13 rfl rfl Tryd.underlying24 rfl (by rw [show (Tryd.prog.info? 24).map (·.size) = some 3 from by kernel_rfl]; rfl) H4.get.2 ?_
  exact ⟨rfl, H4.right⟩
theorem none_insert (H : Holds w0 w (G • F)) (hu : Unmade w0 F bv) : Ret Tryd.prog 19 #[bv, v] w fun v' w' => v' = .tuple #[.agg (edCells 0 (.slice none 0 0) (.slice none 0 0)), .int .i64 2] ∧ Holds w0 w' (G • F) := by
  refine ret_enter Tryd.func19 rfl Tryd.ntmps19 (Nat.le_of_ble_eq_true rfl) ?_
  dsimp only [slots0, Nat.reduceAdd]
  refine wc_seq ?_
  refine wc_region ?_
  refine wl_eff (e_alloc H Tryd.zeroValue24) (by decide) ?_
  rintro _ w1 ⟨b1, rfl, H1⟩
  refine wl_val (r_assign rfl) (by decide) ?_
  refine wl_nil ?_
  refine wq_seq ?_
  refine wc_seq ?_
  refine wc_region ?_
  refine wl_val (r_move rfl) (by decide) ?_
  refine wl_val (r_move rfl) (by decide) ?_
  refine wl_eff (e_call (r_call rfl Tryd.func23 rfl rfl) (none_point H1.deep hu)) (by decide) ?_
  rintro _ _ ⟨rfl, rfl⟩
  refine wl_val (r_move rfl) (by decide) ?_
  refine wl_eff (e_call (r_call rfl Tryd.func23 rfl rfl) (none_point H1.deep hu)) (by decide) ?_
  rintro _ _ ⟨rfl, rfl⟩
  refine wl_val (r_move rfl) (by decide) ?_
  refine wl_eff (e_call (r_call rfl Tryd.func13 rfl rfl) (none_replace H1.deep hu)) (by decide) ?_
  rintro _ w4 ⟨rfl, H4⟩
  refine wl_val (r_extract rfl rfl) (by decide) ?_
  refine wl_val (r_extract rfl rfl) (by decide) ?_
  refine wl_eff0 (e_store_whole (cs := edCells 0 (.slice none 0 0) (.slice none 0 0)) H4.flat Tryd.sizeOf24 rfl rfl rfl rfl (ed_ones rfl rfl)) ?_
  rintro _ w5 H5
  refine wl_val (r_assign rfl) (by decide) ?_
  refine wl_nil ?_
  refine wq_seq ?_
  refine wc_ret ?_
  refine wq_endCT (.inl rfl) Tryd.results19 rfl rfl Tryd.underlying24 rfl (by rw [show (Tryd.prog.info? 24).map (·.size) = some 3 from by kernel_rfl]; rfl) H5.get.2 ?_
  exact ⟨rfl, H5.right⟩
theorem none_delete {i j : Int} (H : Holds w0 w (G • F)) (hu : Unmade w0 F bv) : Ret Tryd.prog 41 #[bv, .int .i64 i, .int .i64 j] w fun v' w' => v' = .tuple #[.agg (edCells 0 (.slice none 0 0) (.slice none 0 0)), .int .i64 2] ∧ Holds w0 w' (G • F) := by
  refine ret_enter Tryd.func41 rfl Tryd.ntmps41 (Nat.le_of_ble_eq_true rfl) ?_
  dsimp only [slots0, Nat.reduceAdd]
  refine wc_seq ?_
  refine wc_region ?_
  refine wl_eff (e_alloc H Tryd.zeroValue24) (by decide) ?_
  rintro _ w1 ⟨b1, rfl, H1⟩
  refine wl_val (r_assign rfl) (by decide) ?_
  refine wl_nil ?_
  refine wq_seq ?_
  refine wc_seq ?_
  refine wc_region ?_
  refine wl_val (r_move rfl) (by decide) ?_
  refine wl_val (r_move rfl) (by decide) ?_
  refine wl_val (r_move rfl) (by decide) ?_
  refine wl_eff (e_call (r_call rfl Tryd.func13 rfl rfl) (none_replace H1.deep hu)) (by decide) ?_
  rintro _ w2 ⟨rfl, H2⟩
  refine wl_val (r_extract rfl rfl) (by decide) ?_
  refine wl_val (r_extract rfl rfl) (by decide) ?_
  refine wl_eff0 (e_store_whole (cs := edCells 0 (.slice none 0 0) (.slice none 0 0)) H2.flat Tryd.sizeOf24 rfl rfl rfl rfl (ed_ones rfl rfl)) ?_
  rintro _ w3 H3
  refine wl_val (r_assign rfl) (by decide) ?_
  refine wl_nil ?_
  refine wq_seq ?_
  refine wc_ret ?_
  refine wq_endCT (.inl rfl) Tryd.results41 rfl rfl Tryd.underlying24 rfl (by rw [show (Tryd.prog.info? 24).map (·.size) = some 3 from by kernel_rfl]; rfl) H3.get.2 ?_
  exact ⟨rfl, H3.right⟩
theorem none_line (H : Holds w0 w (G • F)) (hu : Unmade w0 F bv) : Ret Tryd.prog 21 #[bv] w fun v' w' => v' = .agg (lineCells (.slice none 0 0) 0 0) ∧ Holds w0 w' (G • F) := by
  refine ret_enter Tryd.func21 rfl Tryd.ntmps21 (Nat.le_of_ble_eq_true rfl) ?_
  dsimp only [slots0, Nat.reduceAdd]
  refine wc_seq ?_
  refine wc_region ?_
  refine wl_eff (e_alloc H Tryd.zeroValue46) (by decide) ?_
  rintro _ w1 ⟨b1, rfl, H1⟩
  refine wl_nil ?_
  refine wq_seq ?_
  refine wc_seq ?_
  refine wc_region ?_
  refine wl_val (r_move rfl) (by decide) ?_
  refine wl_eff (e_call (r_call rfl Tryd.func15 rfl rfl) (none_text H1.deep hu)) (by decide) ?_
  rintro _ _ ⟨rfl, rfl⟩
  refine wl_val (r_move rfl) (by decide) ?_
  refine wl_eff (e_call (r_call rfl Tryd.func23 rfl rfl) (none_point H1.deep hu)) (by decide) ?_
  rintro _ _ ⟨rfl, rfl⟩
  refine wl_val (r_move rfl) (by decide) ?_
  refine wl_eff (e_call (r_call rfl Tryd.func46 rfl rfl) (none_mark H1.deep hu)) (by decide) ?_
  rintro _ _ ⟨rfl, rfl⟩
  refine wl_val (r_build (pl := #[(0, 1), (1, 1), (2, 1)]) (lineCells (.slice none 0 0) 0 0) Tryd.underlying46 Tryd.zeroValue46 (fun w => by kernel_rfl) rfl (by kernel_rfl)) (by decide) ?_
  refine wl_eff0 (e_store_whole (cs := lineCells (.slice none 0 0) 0 0) H1 Tryd.sizeOf46 rfl rfl rfl rfl (line_ones rfl)) ?_
  rintro _ w5 H5
  refine wl_nil ?_
  refine wq_seq ?_
  refine wc_ret ?_
  refine wq_endC (.inl rfl) Tryd.results21 rfl Tryd.underlying46 rfl (by rw [show (Tryd.prog.info? 46).map (·.size) = some 3 from by kernel_rfl]; rfl) H5.get.2 ?_
  exact ⟨rfl, H5.right⟩
end
end Go.Proofs.YtlldaaamdchkdaaDoor
