/- BufferNone, walked. -/
import Derived.Test.YtlldaaamdchkdaaDoorNone
import Derived.Test.YtlldaaamdchkdaaDoorLawSplices
set_option linter.unusedSimpArgs false
set_option linter.unusedVariables false
namespace Go.Proofs.YtlldaaamdchkdaaDoor
open Go.RowKit
theorem three_cells {w : World} {b o : Nat} {u v x : Value} (h : w.cell? ⟨b, o, none⟩ = some u) (k : w.cell? ⟨b, o + 1, none⟩ = some v) (m : w.cell? ⟨b, o + 2, none⟩ = some x) : ∀ (j : Nat) y, ([u, v, x] : List Value)[j]? = some y → w.cell? ⟨b, o + j, none⟩ = some y := by
  intro j y hj
  match j, hj with
  | 0, hj => cases hj; exact h
  | 1, hj => cases hj; exact k
  | 2, hj => cases hj; exact m
  | j + 3, hj => simp at hj
theorem unmade_nil (w0 : World) (F : HP) : Unmade w0 F (.pointer none) := fun _ _ _ => buf_none_nil
def zeroBuf : Array Value := #[.bool false, .slice none 0 0, .int .i64 0, .int .i64 0, .int .i64 0, .int .i64 0]
theorem unmade_zero (w0 : World) (F : HP) (b : Nat) : Unmade w0 (blk b (.cells zeroBuf 67 (0, 0)) • F) (.pointer (some ⟨b, 0, none⟩)) := fun _ _ HW => buf_none_ret _ HW.swap.get.2 rfl
theorem buffer_none {w : World} {k0 f t a : Int} {tx d i : Value} (hT : Tabs w) :
    Ret Tryd.prog 10 #[.agg (opCells k0 f t tx a d i)] w fun v w' => v = .bool true ∧ Below w.heap.size w w' := by
  have H := Holds.start w
  refine ret_enter Tryd.func10 rfl Tryd.ntmps10 (Nat.le_of_ble_eq_true rfl) ?_
  dsimp only [slots0, Nat.reduceAdd]
  refine wc_seq ?_
  refine wc_region ?_
  refine wl_eff (e_box H rfl) (by decide) ?_
  rintro _ w1 ⟨b1, rfl, H1⟩
  refine wl_val (r_assign rfl) (by decide) ?_
  refine wl_nil ?_
  refine wq_seq ?_
  refine wc_seq ?_
  refine wc_seq ?_
  refine wc_region ?_
  refine wl_eff (e_call (r_call rfl Tryd.func12 rfl rfl) (live_ret H1 hT)) (by decide) ?_
  rintro _ w2 ⟨rfl, H2⟩
  refine wl_val (r_not rfl) (by decide) ?_
  refine wl_nil ?_
  refine wq_seq ?_
  refine wc_cond rfl (fun h1 => ?_) (fun h1 => ?_)
  · (try simp only [beq_iff_eq, bne_iff_ne, ne_eq, decide_eq_true_eq, decide_eq_false_iff_not, beq_eq_false_iff_ne, bne_eq_false_iff_eq, Bool.not_eq_true', Bool.not_eq_false', Bool.not_eq_eq_eq_not, Bool.not_true, Bool.not_false, gt_iff_lt, ge_iff_le, Int.not_lt, Int.not_le] at h1)
    try (exfalso; first | contradiction | omega)
    all_goals
      
      refine wc_seq ?_
      refine wc_region ?_
      refine wl_val (r_assign rfl) (by decide) ?_
      refine wl_nil ?_
      refine wq_seq ?_
      refine wc_ret ?_
      refine wq_then_ret ?_
      refine wq_end1 (.inl rfl) Tryd.results10 rfl ?_
      exact ⟨rfl, HL.base⟩
  · (try simp only [beq_iff_eq, bne_iff_ne, ne_eq, decide_eq_true_eq, decide_eq_false_iff_not, beq_eq_false_iff_ne, bne_eq_false_iff_eq, Bool.not_eq_true', Bool.not_eq_false', Bool.not_eq_eq_eq_not, Bool.not_true, Bool.not_false, gt_iff_lt, ge_iff_le, Int.not_lt, Int.not_le] at h1)
    try (exfalso; first | contradiction | omega)
    all_goals
      
      refine wc_skip ?_
      refine wq_seq ?_
      refine wc_seq ?_
      refine wc_seq ?_
      refine wc_region ?_
      refine wl_val (r_build (pl := #[(0, 1), (1, 1), (2, 1), (3, 1), (4, 1), (5, 1)]) (zeroBuf) Tryd.underlying67 Tryd.zeroValue67 (fun w => by kernel_rfl) rfl (by kernel_rfl)) (by decide) ?_
      refine wl_eff (e_box H2 rfl) (by decide) ?_
      rintro _ w3 ⟨b3, rfl, H3⟩
      refine wl_eff (e_lit (vs := [.pointer none, .pointer (some ⟨b3, 0, none⟩)]) H3 Tryd.underlying68 Tryd.sizeOf27 Tryd.zeroValue27 rfl rfl rfl (by decide) (by simp [Value.oneCell'])) (by decide) ?_
      rintro _ w4 ⟨b4, rfl, H4⟩
      refine wl_val (r_len Tryd.underlying68 rfl) (by decide) ?_
      refine wl_val (r_move rfl) (by decide) ?_
      refine wl_nil ?_
      refine wq_seq ?_
      refine wc_block ?_
      refine wc_loop [(1, _), (15, _), (16, _)] (fun (k : Nat) => [(17, .int .i64 (k : Int))]) (fun (k : Nat) W => k ≤ 2 ∧ Holds w W (blk b4 (.cells #[.pointer none, .pointer (some ⟨b3, 0, none⟩)] 27 (0, 0)) • blk b3 (.cells zeroBuf 67 (0, 0)) • blk b1 (.cells (opCells k0 f t tx a d i) 26 (0, 0)) • emp)) (fun (k : Nat) => 2 - k) (0) (Sub.cons rfl (Sub.cons rfl (Sub.cons rfl (Sub.nil _)))) (Sub.cons rfl (Sub.nil _)) ⟨by omega, H4⟩ ?_
      rintro k w5 ⟨hk, HL⟩
      dsimp only [List.cons_append, List.nil_append]
      refine wc_seq ?_
      refine wc_region ?_
      refine wl_val (r_lss rfl rfl) (by decide) ?_
      refine wl_nil ?_
      refine wq_seq ?_
      refine wc_seq ?_
      refine wc_cond rfl (fun h2 => ?_) (fun h2 => ?_)
      · (try simp only [beq_iff_eq, bne_iff_ne, ne_eq, decide_eq_true_eq, decide_eq_false_iff_not, beq_eq_false_iff_ne, bne_eq_false_iff_eq, Bool.not_eq_true', Bool.not_eq_false', Bool.not_eq_eq_eq_not, Bool.not_true, Bool.not_false, gt_iff_lt, ge_iff_le, Int.not_lt, Int.not_le] at h2)
        try (exfalso; first | contradiction | omega)
        all_goals
          
          refine wc_skip ?_
          refine wq_seq ?_
          refine wc_seq ?_
          refine wc_block ?_
          refine wc_seq ?_
          obtain ⟨bv, hbv, hu⟩ : ∃ bv, (#[Value.pointer none, .pointer (some ⟨b3, 0, none⟩)] : Array Value)[k]? = some bv ∧ Unmade w (blk b3 (.cells zeroBuf 67 (0, 0)) • blk b1 (.cells (opCells k0 f t tx a d i) 26 (0, 0)) • emp) bv := by
            have hk2 : k < 2 := by omega
            match k, hk2 with
            | 0, _ => exact ⟨_, rfl, unmade_nil _ _⟩
            | 1, _ => exact ⟨_, rfl, unmade_zero _ _ _⟩
          refine wc_region ?_
          refine wl_val (r_index Tryd.underlying68 Tryd.sizeOf27 rfl rfl (by omega)) (by decide) ?_
          refine wl_val (r_load (plain_of Tryd.underlying27 rfl) rfl (cell_of_blk HL.get.2 (by rw [show 0 + (k : Int).toNat * 1 = k from by omega]; exact hbv))) (by decide) ?_
          refine wl_val (r_assign rfl) (by decide) ?_
          refine wl_nil ?_
          refine wq_seq ?_
          refine wc_seq ?_
          refine wc_region ?_
          refine wl_val (r_move rfl) (by decide) ?_
          refine wl_val ((by first | exact r_field0 3 Tryd.underlying26 rfl rfl Tryd.sizeOf22 (by decide) rfl | exact r_field 3 Tryd.underlying26 rfl rfl Tryd.sizeOf22 (by decide) rfl)) (by decide) ?_
          refine wl_val (r_load (plain_of Tryd.underlying22 rfl) rfl (cell_of_blk HL.rot.get.2 rfl)) (by decide) ?_
          refine wl_eff (e_call (r_call rfl Tryd.func19 rfl rfl) (none_insert HL hu)) (by decide) ?_
          rintro _ w6 ⟨rfl, H6⟩
          refine wl_val (r_move rfl) (by decide) ?_
          refine wl_val (r_extract rfl rfl) (by decide) ?_
          refine wl_val (r_extract rfl rfl) (by decide) ?_
          refine wl_eff (e_alloc H6 Tryd.zeroValue24) (by decide) ?_
          rintro _ w7 ⟨b7, rfl, H7⟩
          refine wl_eff0 (e_store_whole (cs := edCells 0 (.slice none 0 0) (.slice none 0 0)) H7 Tryd.sizeOf24 rfl rfl rfl rfl (ed_ones rfl rfl)) ?_
          rintro _ w8 H8
          have HA := H8.right
          refine wl_val (r_assign rfl) (by decide) ?_
          refine wl_nil ?_
          refine wq_seq ?_
          refine wc_seq ?_
          refine wc_region ?_
          refine wl_val (r_move rfl) (by decide) ?_
          refine wl_val ((by first | exact r_field0 1 Tryd.underlying26 rfl rfl Tryd.sizeOf3 (by decide) rfl | exact r_field 1 Tryd.underlying26 rfl rfl Tryd.sizeOf3 (by decide) rfl)) (by decide) ?_
          refine wl_val (r_load (plain_of Tryd.underlying3 rfl) rfl (cell_of_blk HA.rot.get.2 rfl)) (by decide) ?_
          refine wl_val ((by first | exact r_field0 2 Tryd.underlying26 rfl rfl Tryd.sizeOf3 (by decide) rfl | exact r_field 2 Tryd.underlying26 rfl rfl Tryd.sizeOf3 (by decide) rfl)) (by decide) ?_
          refine wl_val (r_load (plain_of Tryd.underlying3 rfl) rfl (cell_of_blk HA.rot.get.2 rfl)) (by decide) ?_
          refine wl_eff (e_call (r_call rfl Tryd.func41 rfl rfl) (none_delete HA hu)) (by decide) ?_
          rintro _ w9 ⟨rfl, H9⟩
          refine wl_val (r_move rfl) (by decide) ?_
          refine wl_val (r_extract rfl rfl) (by decide) ?_
          refine wl_val (r_extract rfl rfl) (by decide) ?_
          refine wl_eff (e_alloc H9 Tryd.zeroValue24) (by decide) ?_
          rintro _ w10 ⟨b10, rfl, H10⟩
          refine wl_eff0 (e_store_whole (cs := edCells 0 (.slice none 0 0) (.slice none 0 0)) H10 Tryd.sizeOf24 rfl rfl rfl rfl (ed_ones rfl rfl)) ?_
          rintro _ w11 H11
          have HC := H11.right
          refine wl_val (r_assign rfl) (by decide) ?_
          refine wl_nil ?_
          refine wq_seq ?_
          refine wc_seq ?_
          refine wc_region ?_
          refine wl_val (r_move rfl) (by decide) ?_
          refine wl_val ((by first | exact r_field0 1 Tryd.underlying26 rfl rfl Tryd.sizeOf3 (by decide) rfl | exact r_field 1 Tryd.underlying26 rfl rfl Tryd.sizeOf3 (by decide) rfl)) (by decide) ?_
          refine wl_val (r_load (plain_of Tryd.underlying3 rfl) rfl (cell_of_blk HC.rot.get.2 rfl)) (by decide) ?_
          refine wl_val ((by first | exact r_field0 2 Tryd.underlying26 rfl rfl Tryd.sizeOf3 (by decide) rfl | exact r_field 2 Tryd.underlying26 rfl rfl Tryd.sizeOf3 (by decide) rfl)) (by decide) ?_
          refine wl_val (r_load (plain_of Tryd.underlying3 rfl) rfl (cell_of_blk HC.rot.get.2 rfl)) (by decide) ?_
          refine wl_val ((by first | exact r_field0 3 Tryd.underlying26 rfl rfl Tryd.sizeOf22 (by decide) rfl | exact r_field 3 Tryd.underlying26 rfl rfl Tryd.sizeOf22 (by decide) rfl)) (by decide) ?_
          refine wl_val (r_load (plain_of Tryd.underlying22 rfl) rfl (cell_of_blk HC.rot.get.2 rfl)) (by decide) ?_
          refine wl_eff (e_call (r_call rfl Tryd.func13 rfl rfl) (none_replace HC hu)) (by decide) ?_
          rintro _ w12 ⟨rfl, H12⟩
          refine wl_val (r_move rfl) (by decide) ?_
          refine wl_val (r_extract rfl rfl) (by decide) ?_
          refine wl_val (r_extract rfl rfl) (by decide) ?_
          refine wl_eff (e_alloc H12 Tryd.zeroValue24) (by decide) ?_
          rintro _ w13 ⟨b13, rfl, H13⟩
          refine wl_eff0 (e_store_whole (cs := edCells 0 (.slice none 0 0) (.slice none 0 0)) H13 Tryd.sizeOf24 rfl rfl rfl rfl (ed_ones rfl rfl)) ?_
          rintro _ w14 H14
          have HE := H14.right
          refine wl_val (r_assign rfl) (by decide) ?_
          refine wl_nil ?_
          refine wq_seq ?_
          refine wc_seq ?_
          refine wc_seq ?_
          refine wc_region ?_
          refine wl_val (r_move rfl) (by decide) ?_
          refine wl_val (r_neq rfl rfl) (by decide) ?_
          refine wl_split rfl (by decide) (fun h => by exfalso; (try simp only [beq_iff_eq, bne_iff_ne, ne_eq, decide_eq_true_eq, decide_eq_false_iff_not, beq_eq_false_iff_ne, bne_eq_false_iff_eq, Bool.not_eq_true', Bool.not_eq_false', Bool.not_eq_eq_eq_not, Bool.not_true, Bool.not_false, gt_iff_lt, ge_iff_le, Int.not_lt, Int.not_le] at h); simp at h) (fun h3 => ?_)
          (try simp only [beq_iff_eq, bne_iff_ne, ne_eq, decide_eq_true_eq, decide_eq_false_iff_not, beq_eq_false_iff_ne, bne_eq_false_iff_eq, Bool.not_eq_true', Bool.not_eq_false', Bool.not_eq_eq_eq_not, Bool.not_true, Bool.not_false, gt_iff_lt, ge_iff_le, Int.not_lt, Int.not_le] at h3)
          refine wl_yes rfl rfl ?_
          refine wl_val (r_move rfl) (by decide) ?_
          refine wl_yes rfl rfl ?_
          refine wl_val (r_known_f (r_neq rfl rfl) (by decide)) (by decide) ?_
          refine wl_val (r_pick_f rfl rfl) (by decide) ?_
          refine wl_val (r_move rfl) (by decide) ?_
          refine wl_yes rfl rfl ?_
          refine wl_val (r_move rfl) (by decide) ?_
          refine wl_yes rfl rfl ?_
          refine wl_val (r_known_f (r_neq rfl rfl) (by decide)) (by decide) ?_
          refine wl_val (r_pick_f rfl rfl) (by decide) ?_
          refine wl_val (r_move rfl) (by decide) ?_
          refine wl_yes rfl rfl ?_
          refine wl_val (r_move rfl) (by decide) ?_
          refine wl_yes rfl rfl ?_
          refine wl_val ((by first | exact r_field0 4 Tryd.underlying26 rfl rfl Tryd.sizeOf24 (by decide) rfl | exact r_field 4 Tryd.underlying26 rfl rfl Tryd.sizeOf24 (by decide) rfl)) (by decide) ?_
          refine wl_yes rfl rfl ?_
          refine wl_val (r_load_agg (cs := [.int .i64 a, d, i]) (by rw [Tryd.underlying24]; rfl) (plain_no Tryd.underlying24 rfl) Tryd.sizeOf24 rfl rfl (three_cells (cell_of_blk HE.rot.get.2 rfl) (cell_of_blk HE.rot.get.2 rfl) (cell_of_blk HE.rot.get.2 rfl))) (by decide) ?_
          refine wl_yes rfl rfl ?_
          refine wl_eff (e_call (r_call rfl Tryd.func24 rfl rfl) (none_apply HE hu)) (by decide) ?_
          rintro _ w15 ⟨rfl, H15⟩
          refine wl_yes rfl rfl ?_
          refine wl_val (r_known_f (r_neq rfl rfl) (by decide)) (by decide) ?_
          refine wl_val (r_pick_f rfl rfl) (by decide) ?_
          refine wl_val (r_move rfl) (by decide) ?_
          refine wl_yes rfl rfl ?_
          refine wl_val (r_move rfl) (by decide) ?_
          refine wl_yes rfl rfl ?_
          refine wl_eff (e_call (r_call rfl Tryd.func17 rfl rfl) (none_move H15 hu)) (by decide) ?_
          rintro _ _ ⟨rfl, rfl⟩
          refine wl_yes rfl rfl ?_
          refine wl_val (r_known_f (r_neq rfl rfl) (by decide)) (by decide) ?_
          refine wl_val (r_pick_f rfl rfl) (by decide) ?_
          refine wl_val (r_move rfl) (by decide) ?_
          refine wl_yes rfl rfl ?_
          refine wl_val (r_move rfl) (by decide) ?_
          refine wl_yes rfl rfl ?_
          refine wl_eff (e_call (r_call rfl Tryd.func42 rfl rfl) (none_setmark H15 hu)) (by decide) ?_
          rintro _ _ ⟨rfl, rfl⟩
          refine wl_yes rfl rfl ?_
          refine wl_val (r_known_f (r_neq rfl rfl) (by decide)) (by decide) ?_
          refine wl_val (r_pick_f rfl rfl) (by decide) ?_
          refine wl_val (r_move rfl) (by decide) ?_
          refine wl_yes rfl rfl ?_
          refine wl_val (r_move rfl) (by decide) ?_
          refine wl_yes rfl rfl ?_
          refine wl_eff (e_call (r_call rfl Tryd.func43 rfl rfl) (none_swap H15 hu)) (by decide) ?_
          rintro _ _ ⟨rfl, rfl⟩
          refine wl_yes rfl rfl ?_
          refine wl_val (r_known_f (r_neq rfl rfl) (by decide)) (by decide) ?_
          refine wl_val (r_pick_f rfl rfl) (by decide) ?_
          refine wl_nil ?_
          refine wq_seq ?_
          refine wc_cond_f rfl ?_
          refine wc_skip ?_
          refine wq_seq ?_
          refine wc_seq ?_
          refine wc_region ?_
          refine wl_val (r_move rfl) (by decide) ?_
          refine wl_eff (e_call (r_call rfl Tryd.func15 rfl rfl) (none_text H15 hu)) (by decide) ?_
          rintro _ _ ⟨rfl, rfl⟩
          refine wl_val (r_len Tryd.underlying22 rfl) (by decide) ?_
          refine wl_val (r_neq rfl rfl) (by decide) ?_
          refine wl_split rfl (by decide) (fun h => by exfalso; (try simp only [beq_iff_eq, bne_iff_ne, ne_eq, decide_eq_true_eq, decide_eq_false_iff_not, beq_eq_false_iff_ne, bne_eq_false_iff_eq, Bool.not_eq_true', Bool.not_eq_false', Bool.not_eq_eq_eq_not, Bool.not_true, Bool.not_false, gt_iff_lt, ge_iff_le, Int.not_lt, Int.not_le] at h); simp at h) (fun h4 => ?_)
          (try simp only [beq_iff_eq, bne_iff_ne, ne_eq, decide_eq_true_eq, decide_eq_false_iff_not, beq_eq_false_iff_ne, bne_eq_false_iff_eq, Bool.not_eq_true', Bool.not_eq_false', Bool.not_eq_eq_eq_not, Bool.not_true, Bool.not_false, gt_iff_lt, ge_iff_le, Int.not_lt, Int.not_le] at h4)
          refine wl_yes rfl rfl ?_
          refine wl_val (r_move rfl) (by decide) ?_
          refine wl_yes rfl rfl ?_
          refine wl_eff (e_call (r_call rfl Tryd.func45 rfl rfl) (none_len H15 hu)) (by decide) ?_
          rintro _ _ ⟨rfl, rfl⟩
          refine wl_yes rfl rfl ?_
          refine wl_val (r_known_f (r_neq rfl rfl) (by decide)) (by decide) ?_
          refine wl_val (r_pick_f rfl rfl) (by decide) ?_
          refine wl_val (r_move rfl) (by decide) ?_
          refine wl_yes rfl rfl ?_
          refine wl_val (r_move rfl) (by decide) ?_
          refine wl_yes rfl rfl ?_
          refine wl_eff (e_call (r_call rfl Tryd.func23 rfl rfl) (none_point H15 hu)) (by decide) ?_
          rintro _ _ ⟨rfl, rfl⟩
          refine wl_yes rfl rfl ?_
          refine wl_val (r_known_f (r_neq rfl rfl) (by decide)) (by decide) ?_
          refine wl_val (r_pick_f rfl rfl) (by decide) ?_
          refine wl_val (r_move rfl) (by decide) ?_
          refine wl_yes rfl rfl ?_
          refine wl_val (r_move rfl) (by decide) ?_
          refine wl_yes rfl rfl ?_
          refine wl_eff (e_call (r_call rfl Tryd.func46 rfl rfl) (none_mark H15 hu)) (by decide) ?_
          rintro _ _ ⟨rfl, rfl⟩
          refine wl_yes rfl rfl ?_
          refine wl_val (r_known_f (r_neq rfl rfl) (by decide)) (by decide) ?_
          refine wl_val (r_pick_f rfl rfl) (by decide) ?_
          refine wl_val (r_move rfl) (by decide) ?_
          refine wl_yes rfl rfl ?_
          refine wl_val (r_move rfl) (by decide) ?_
          refine wl_yes rfl rfl ?_
          refine wl_eff (e_call (r_call rfl Tryd.func47 rfl rfl) (none_clone H15 hu)) (by decide) ?_
          rintro _ _ ⟨rfl, rfl⟩
          refine wl_yes rfl rfl ?_
          refine wl_val (r_known_f (r_ptr_nnil Tryd.underlying27 rfl rfl) (by decide)) (by decide) ?_
          refine wl_val (r_pick_f rfl rfl) (by decide) ?_
          refine wl_val (r_move rfl) (by decide) ?_
          refine wl_yes rfl rfl ?_
          refine wl_val (r_move rfl) (by decide) ?_
          refine wl_yes rfl rfl ?_
          refine wl_eff (e_call (r_call rfl Tryd.func21 rfl rfl) (none_line H15 hu)) (by decide) ?_
          rintro _ w24 ⟨rfl, H24⟩
          have HN := H24
          refine wl_yes rfl rfl ?_
          refine wl_val (r_field_val 0 Tryd.underlying46 rfl rfl (plain_of Tryd.underlying22 rfl) rfl rfl) (by decide) ?_
          refine wl_yes rfl rfl ?_
          refine wl_val (r_len Tryd.underlying22 rfl) (by decide) ?_
          refine wl_yes rfl rfl ?_
          refine wl_val (r_known_f (r_neq rfl rfl) (by decide)) (by decide) ?_
          refine wl_val (r_pick_f rfl rfl) (by decide) ?_
          refine wl_nil ?_
          refine wq_seq ?_
          refine wc_cond_f rfl ?_
          refine wc_skip ?_
          refine wq_block_normal ?_
          refine wq_seq ?_
          refine wc_region ?_
          refine wl_val (r_add rfl rfl (by omega)) (by decide) ?_
          refine wl_val (r_move rfl) (by decide) ?_
          refine wl_nil ?_
          refine wq_round (k + 1) ?_ ?_ ?_ ?_
          · exact (Sub.cons rfl (Sub.nil _))
          · exact (Sub.cons rfl (Sub.cons rfl (Sub.cons rfl (Sub.nil _))))
          · exact ⟨by omega, HN⟩
          · (try dsimp only); omega
      · (try simp only [beq_iff_eq, bne_iff_ne, ne_eq, decide_eq_true_eq, decide_eq_false_iff_not, beq_eq_false_iff_ne, bne_eq_false_iff_eq, Bool.not_eq_true', Bool.not_eq_false', Bool.not_eq_eq_eq_not, Bool.not_true, Bool.not_false, gt_iff_lt, ge_iff_le, Int.not_lt, Int.not_le] at h2)
        try (exfalso; first | contradiction | omega)
        all_goals
          
          refine wc_exit ?_
          refine wq_then_exit ?_
          refine wq_then_exit ?_
          refine wq_block_hit ?_
          refine wq_seq ?_
          refine wc_seq ?_
          refine wc_region ?_
          refine wl_val (r_assign rfl) (by decide) ?_
          refine wl_nil ?_
          refine wq_seq ?_
          refine wc_ret ?_
          refine wq_end1 (.inl rfl) Tryd.results10 rfl ?_
          exact ⟨rfl, HL.base⟩
end Go.Proofs.YtlldaaamdchkdaaDoor
