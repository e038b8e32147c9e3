/- Reverse, SameEdit, Apply where it changes the line. -/
import Derived.Test.YtlldaaamdchkdaaDoorSame
set_option linter.unusedSimpArgs false
set_option linter.unusedVariables false
namespace Go.Proofs.YtlldaaamdchkdaaDoor
open Go.RowKit
section
variable {w0 w : World} {F : HP} {p : Nat} {L : List Int} {pt mk a : Int} {d i : Value} {dl il : List Int}
theorem equal_eq_ret (w : World) (v1 v2 : Value) (l : List Int) (h1 : RdI w .i32 v1 l) (h2 : RdI w .i32 v2 l) :
    Ret Tryd.prog 57 #[v1, v2] w fun v w' => v = .bool true ∧ Drew w w' := by
  have := equal_ret w v1 v2 l l h1 h2
  simpa using this
theorem reverse_ret (H : Holds w0 w F) (hd : FRdI w0 F .i32 d dl) (hi : FRdI w0 F .i32 i il) (hb : dl.length * 4 ≤ 140737488355328) (hb2 : il.length * 4 ≤ 140737488355328) :
    Ret Tryd.prog 25 #[.agg (edCells a d i)] w fun v w' => ∃ d' i', v = .agg (edCells a d' i') ∧ Holds w0 w' (RowI 21 .i32 d' il • RowI 21 .i32 i' dl • F) := by
  refine ret_enter Tryd.func25 rfl Tryd.ntmps25 (Nat.le_of_ble_eq_true rfl) ?_
  dsimp only [slots0, Nat.reduceAdd]
  refine wc_seq ?_
  refine wc_region ?_
  refine wl_eff (e_box H rfl) (ltn rfl) ?_
  rintro _ w1 ⟨b1, rfl, H1⟩
  refine wl_eff (e_alloc H1 Tryd.zeroValue24) (ltn rfl) ?_
  rintro _ w2 ⟨b2, rfl, H2⟩
  refine wl_nil ?_
  refine wq_seq ?_
  refine wc_seq ?_
  have HB : Holds w0 w2 (blk b2 (.cells (edCells 0 (.slice none 0 0) (.slice none 0 0)) 24 (0, 0)) • blk b1 (.cells (edCells a d i) 24 (0, 0)) • F) := H2
  refine wd_begin (n := 10) [0, 1, 2, 3, 4, 5, 6, 7, 8, 9] (fun W => W.heap[b1]? = some (.cells (edCells a d i) 24 (0, 0))) (by kernel_rfl) (by kernel_rfl) rfl ?_
  have hS0 : (fun W => W.heap[b1]? = some (.cells (edCells a d i) 24 (0, 0))) (w2.drew) := HB.swap.get.2
  have H1d := HB.drew
  refine wd_takeT 0 rfl (by kernel_rfl) (by kernel_rfl) hS0 (fun _ => (by first | exact r_field0 0 Tryd.underlying24 rfl rfl Tryd.sizeOf3 (by decide) rfl | exact r_field 0 Tryd.underlying24 rfl rfl Tryd.sizeOf3 (by decide) rfl)) (ltn rfl) ?_
  refine wd_take 1 rfl (by kernel_rfl) (by kernel_rfl) hS0 (by decide) (fun W hW => r_load (plain_of Tryd.underlying3 rfl) rfl (cell_of_blk hW rfl)) (ltn rfl) ?_
  refine wd_takeT 2 rfl (by kernel_rfl) (by kernel_rfl) hS0 (fun _ => (by first | exact r_field0 2 Tryd.underlying24 rfl rfl Tryd.sizeOf22 (by decide) rfl | exact r_field 2 Tryd.underlying24 rfl rfl Tryd.sizeOf22 (by decide) rfl)) (ltn rfl) ?_
  refine wd_take 3 rfl (by kernel_rfl) (by kernel_rfl) hS0 (by decide) (fun W hW => r_load (plain_of Tryd.underlying22 rfl) rfl (cell_of_blk hW rfl)) (ltn rfl) ?_
  refine wd_takeT 5 rfl (by kernel_rfl) (by kernel_rfl) hS0 (fun _ => (by first | exact r_field0 1 Tryd.underlying24 rfl rfl Tryd.sizeOf22 (by decide) rfl | exact r_field 1 Tryd.underlying24 rfl rfl Tryd.sizeOf22 (by decide) rfl)) (ltn rfl) ?_
  refine wd_take 6 rfl (by kernel_rfl) (by kernel_rfl) hS0 (by decide) (fun W hW => r_load (plain_of Tryd.underlying22 rfl) rfl (cell_of_blk hW rfl)) (ltn rfl) ?_
  refine wd_eff 4 rfl (by kernel_rfl) (e_call (r_call rfl Tryd.func49 rfl rfl) (clone_ret H1d hi.under.under hb2)) (ltn rfl) ?_
  rintro d' w3 H3
  obtain ⟨ad, cd, hd', _⟩ := (H3.row_rd).form
  subst hd'
  have hS3 : (fun W => W.heap[b1]? = some (.cells (edCells a d i) 24 (0, 0))) w3 := H3.rot.get.2
  refine keepS hS3 ?_
  refine wd_eff 7 rfl (by kernel_rfl) (e_call (r_call rfl Tryd.func49 rfl rfl) (clone_ret H3 hd.under.under.under hb)) (ltn rfl) ?_
  rintro i' w4 H4
  obtain ⟨ai, ci, hi', _⟩ := (H4.row_rd).form
  subst hi'
  have hS4 : (fun W => W.heap[b1]? = some (.cells (edCells a d i) 24 (0, 0))) w4 := H4.r4.get.2
  refine keepS hS4 ?_
  refine wd_takeT 8 rfl (by kernel_rfl) (by kernel_rfl) hS4 (fun _ => r_build (pl := #[(0, 1), (1, 1), (2, 1)]) (edCells a (.slice ad il.length cd) (.slice ai dl.length ci)) Tryd.underlying24 Tryd.zeroValue24 (fun w => by kernel_rfl) rfl (by kernel_rfl)) (ltn rfl) ?_
  refine wd_eff0 9 rfl (by kernel_rfl) (e_store_whole (cs := edCells a (.slice ad il.length cd) (.slice ai dl.length ci)) H4.rot Tryd.sizeOf24 rfl rfl rfl rfl (ed_ones rfl rfl)) ?_
  rintro _ w5 H5
  refine keepE (by kernel_rfl) ?_
  refine wd_done (by kernel_rfl) ?_
  refine wq_seq ?_
  refine wc_ret ?_
  refine wq_endC (.inl rfl) Tryd.results25 rfl Tryd.underlying24 rfl (by rw [show (Tryd.prog.info? 24).map (·.size) = some 3 from by kernel_rfl]; rfl) H5.get.2 ?_
  exact ⟨_, _, rfl, H5.right.rot.right.swap⟩
theorem same_edit_ret {d' i' : Value} (H : Holds w0 w F) (hd : FRdI w0 F .i32 d dl) (hi : FRdI w0 F .i32 i il) (hd' : FRdI w0 F .i32 d' dl) (hi' : FRdI w0 F .i32 i' il) :
    Ret Tryd.prog 26 #[.agg (edCells a d i), .agg (edCells a d' i')] w fun v w' => v = .bool true ∧ Holds w0 w' F := by
  refine ret_enter Tryd.func26 rfl Tryd.ntmps26 (Nat.le_of_ble_eq_true rfl) ?_
  dsimp only [slots0, Nat.reduceAdd]
  refine wc_seq ?_
  refine wc_region ?_
  refine wl_eff (e_box H rfl) (ltn rfl) ?_
  rintro _ w1 ⟨b1, rfl, H1⟩
  refine wl_eff (e_box H1 rfl) (ltn rfl) ?_
  rintro _ w2 ⟨b2, rfl, H2⟩
  refine wl_val (r_assign rfl) (ltn rfl) ?_
  refine wl_nil ?_
  refine wq_seq ?_
  refine wc_seq ?_
  have HB : Holds w0 w2 (blk b2 (.cells (edCells a d' i') 24 (0, 0)) • blk b1 (.cells (edCells a d i) 24 (0, 0)) • F) := H2
  refine wc_region ?_
  refine wl_val ((by first | exact r_field0 0 Tryd.underlying24 rfl rfl Tryd.sizeOf3 (by decide) rfl | exact r_field 0 Tryd.underlying24 rfl rfl Tryd.sizeOf3 (by decide) rfl)) (ltn rfl) ?_
  refine wl_val (r_load (plain_of Tryd.underlying3 rfl) rfl (cell_of_blk HB.swap.get.2 rfl)) (ltn rfl) ?_
  refine wl_val ((by first | exact r_field0 0 Tryd.underlying24 rfl rfl Tryd.sizeOf3 (by decide) rfl | exact r_field 0 Tryd.underlying24 rfl rfl Tryd.sizeOf3 (by decide) rfl)) (ltn rfl) ?_
  refine wl_val (r_load (plain_of Tryd.underlying3 rfl) rfl (cell_of_blk HB.get.2 rfl)) (ltn rfl) ?_
  refine wl_val (r_eql rfl rfl) (ltn rfl) ?_
  refine wl_split rfl (ltn rfl) (fun h1 => ?_) (fun h => by exfalso; (try simp only [beq_iff_eq, bne_iff_ne, ne_eq, decide_eq_true_eq, decide_eq_false_iff_not, beq_eq_false_iff_ne, bne_eq_false_iff_eq, Bool.not_eq_true', Bool.not_eq_false', Bool.not_eq_eq_eq_not, Bool.not_true, Bool.not_false, gt_iff_lt, ge_iff_le, Int.not_lt, Int.not_le] at h); simp at h)
  (try simp only [beq_iff_eq, bne_iff_ne, ne_eq, decide_eq_true_eq, decide_eq_false_iff_not, beq_eq_false_iff_ne, bne_eq_false_iff_eq, Bool.not_eq_true', Bool.not_eq_false', Bool.not_eq_eq_eq_not, Bool.not_true, Bool.not_false, gt_iff_lt, ge_iff_le, Int.not_lt, Int.not_le] at h1)
  refine wl_yes rfl rfl ?_
  refine wl_val ((by first | exact r_field0 1 Tryd.underlying24 rfl rfl Tryd.sizeOf22 (by decide) rfl | exact r_field 1 Tryd.underlying24 rfl rfl Tryd.sizeOf22 (by decide) rfl)) (ltn rfl) ?_
  refine wl_yes rfl rfl ?_
  refine wl_val (r_load (plain_of Tryd.underlying22 rfl) rfl (cell_of_blk HB.swap.get.2 rfl)) (ltn rfl) ?_
  refine wl_yes rfl rfl ?_
  refine wl_val ((by first | exact r_field0 1 Tryd.underlying24 rfl rfl Tryd.sizeOf22 (by decide) rfl | exact r_field 1 Tryd.underlying24 rfl rfl Tryd.sizeOf22 (by decide) rfl)) (ltn rfl) ?_
  refine wl_yes rfl rfl ?_
  refine wl_val (r_load (plain_of Tryd.underlying22 rfl) rfl (cell_of_blk HB.get.2 rfl)) (ltn rfl) ?_
  refine wl_yes rfl rfl ?_
  refine wl_eff (e_call (r_call rfl Tryd.func14 rfl rfl) (same_eq_ret _ _ _ dl (hd _ HB.right.right) (hd' _ HB.right.right))) (ltn rfl) ?_
  rintro _ w3 ⟨rfl, hD1⟩
  have HE1 := HB.drewn hD1
  refine wl_val (r_pick_t rfl rfl) (ltn rfl) ?_
  refine wl_val (r_move rfl) (ltn rfl) ?_
  refine wl_yes rfl rfl ?_
  refine wl_val ((by first | exact r_field0 2 Tryd.underlying24 rfl rfl Tryd.sizeOf22 (by decide) rfl | exact r_field 2 Tryd.underlying24 rfl rfl Tryd.sizeOf22 (by decide) rfl)) (ltn rfl) ?_
  refine wl_yes rfl rfl ?_
  refine wl_val (r_load (plain_of Tryd.underlying22 rfl) rfl (cell_of_blk HE1.swap.get.2 rfl)) (ltn rfl) ?_
  refine wl_yes rfl rfl ?_
  refine wl_val ((by first | exact r_field0 2 Tryd.underlying24 rfl rfl Tryd.sizeOf22 (by decide) rfl | exact r_field 2 Tryd.underlying24 rfl rfl Tryd.sizeOf22 (by decide) rfl)) (ltn rfl) ?_
  refine wl_yes rfl rfl ?_
  refine wl_val (r_load (plain_of Tryd.underlying22 rfl) rfl (cell_of_blk HE1.get.2 rfl)) (ltn rfl) ?_
  refine wl_yes rfl rfl ?_
  refine wl_eff (e_call (r_call rfl Tryd.func14 rfl rfl) (same_eq_ret _ _ _ il (hi _ HE1.right.right) (hi' _ HE1.right.right))) (ltn rfl) ?_
  rintro _ w4 ⟨rfl, hD2⟩
  have HE2 := HE1.drewn hD2
  refine wl_val (r_pick_t rfl rfl) (ltn rfl) ?_
  refine wl_val (r_assign rfl) (ltn rfl) ?_
  refine wl_nil ?_
  refine wq_seq ?_
  refine wc_ret ?_
  refine wq_end1 (.inl rfl) Tryd.results26 rfl ?_
  exact ⟨rfl, HE2.right.right⟩
theorem apply_ok {k : Nat} (H : Holds w0 w (BufRep p L pt mk • F)) (hd : FRdI w0 F .i32 d dl) (hi : FRdI w0 F .i32 i il) (hk : k + dl.length ≤ L.length) (hdl : (L.drop k).take dl.length = dl) (hl : (L.length : Int) - dl.length + il.length ≤ 1024) :
    Ret Tryd.prog 24 #[.pointer (some ⟨p, 0, none⟩), .agg (edCells k d i)] w fun v w' => v = .int .i64 0 ∧
      Holds w0 w' (BufRep p (L.take k ++ il ++ L.drop (k + dl.length)) (movedP pt k (k + dl.length : Nat) il.length) (movedM mk k (k + dl.length : Nat) il.length) • F) := by
  have hL4 : L.length ≤ 1024 := by obtain ⟨a, c, xs, f, t, h1, h2, h3, h4, h5, h6, h7, hc1, hc2, hl, H1⟩ := H.buf; exact h4
  obtain ⟨ad, cd, hdv, hcd1, hcd2, _⟩ := (hd w H.right).open
  subst hdv
  refine ret_enter Tryd.func24 rfl Tryd.ntmps24 (Nat.le_of_ble_eq_true rfl) ?_
  dsimp only [slots0, Nat.reduceAdd]
  refine wc_seq ?_
  refine wc_region ?_
  refine wl_eff (e_box H rfl) (ltn rfl) ?_
  rintro _ w1 ⟨b1, rfl, H1⟩
  refine wl_val (r_assign rfl) (ltn rfl) ?_
  refine wl_nil ?_
  refine wq_seq ?_
  refine wc_seq ?_
  refine wc_block ?_
  refine wc_seq ?_
  have HB : Holds w0 w1 (blk b1 (.cells (edCells k (.slice ad dl.length cd) i) 24 (0, 0)) • BufRep p L pt mk • F) := H1
  refine wc_region ?_
  refine wl_val (r_move rfl) (ltn rfl) ?_
  refine wl_eff (e_call (r_call rfl Tryd.func51 rfl rfl) (buf_none_rep HB.swap)) (ltn rfl) ?_
  rintro _ _ ⟨rfl, rfl⟩
  refine wl_val (r_assign rfl) (ltn rfl) ?_
  refine wl_nil ?_
  refine wq_seq ?_
  refine wc_cond rfl (fun h1 => ?_) (fun h1 => ?_)
  · (try simp only [beq_iff_eq, bne_iff_ne, ne_eq, decide_eq_true_eq, decide_eq_false_iff_not, beq_eq_false_iff_ne, bne_eq_false_iff_eq, Bool.not_eq_true', Bool.not_eq_false', Bool.not_eq_eq_eq_not, Bool.not_true, Bool.not_false, gt_iff_lt, ge_iff_le, Int.not_lt, Int.not_le] at h1)
    try (exfalso; first | contradiction | omega)
    all_goals
      
      refine wc_seq ?_
      refine wc_region ?_
      refine wl_val (r_assign rfl) (ltn rfl) ?_
      refine wl_nil ?_
      refine wq_seq ?_
      refine wc_ret ?_
      refine wq_block_ret ?_
      refine wq_then_ret ?_
      refine wq_end1 (.inl rfl) Tryd.results24 rfl ?_
      exact ⟨rfl, HB.right.right.right.swap.right⟩
  · (try simp only [beq_iff_eq, bne_iff_ne, ne_eq, decide_eq_true_eq, decide_eq_false_iff_not, beq_eq_false_iff_ne, bne_eq_false_iff_eq, Bool.not_eq_true', Bool.not_eq_false', Bool.not_eq_eq_eq_not, Bool.not_true, Bool.not_false, gt_iff_lt, ge_iff_le, Int.not_lt, Int.not_le] at h1)
    try (exfalso; first | contradiction | omega)
    all_goals
      
      refine wc_seq ?_
      refine wd_begin (n := 11) [0, 1, 2, 3, 4, 5, 6, 7, 8, 9, 10] (fun W => W.heap[b1]? = some (.cells (edCells k (.slice ad dl.length cd) i) 24 (0, 0))) (by kernel_rfl) (by kernel_rfl) rfl ?_
      have hS0 : (fun W => W.heap[b1]? = some (.cells (edCells k (.slice ad dl.length cd) i) 24 (0, 0))) (w1.drew) := HB.get.2
      have H3d := HB.drew
      refine wd_takeT 0 rfl (by kernel_rfl) (by kernel_rfl) hS0 (fun _ => (by first | exact r_field0 0 Tryd.underlying24 rfl rfl Tryd.sizeOf3 (by decide) rfl | exact r_field 0 Tryd.underlying24 rfl rfl Tryd.sizeOf3 (by decide) rfl)) (ltn rfl) ?_
      refine wd_take 1 rfl (by kernel_rfl) (by kernel_rfl) hS0 (by decide) (fun W hW => r_load (plain_of Tryd.underlying3 rfl) rfl (cell_of_blk hW rfl)) (ltn rfl) ?_
      refine wd_takeT 2 rfl (by kernel_rfl) (by kernel_rfl) hS0 (fun _ => r_lss rfl rfl) (ltn rfl) ?_
      refine wd_split 3 rfl rfl (by kernel_rfl) (by kernel_rfl) hS0 (ltn rfl) (fun h => by exfalso; (try simp only [beq_iff_eq, bne_iff_ne, ne_eq, decide_eq_true_eq, decide_eq_false_iff_not, beq_eq_false_iff_ne, bne_eq_false_iff_eq, Bool.not_eq_true', Bool.not_eq_false', Bool.not_eq_eq_eq_not, Bool.not_true, Bool.not_false, gt_iff_lt, ge_iff_le, Int.not_lt, Int.not_le] at h); first | contradiction | omega | (simp at h <;> omega)) (fun h2 => ?_)
      (try simp only [beq_iff_eq, bne_iff_ne, ne_eq, decide_eq_true_eq, decide_eq_false_iff_not, beq_eq_false_iff_ne, bne_eq_false_iff_eq, Bool.not_eq_true', Bool.not_eq_false', Bool.not_eq_eq_eq_not, Bool.not_true, Bool.not_false, gt_iff_lt, ge_iff_le, Int.not_lt, Int.not_le] at h2)
      refine wd_takeT_yes 4 rfl rfl rfl (by kernel_rfl) (by kernel_rfl) hS0 (fun _ => (by first | exact r_field0 0 Tryd.underlying24 rfl rfl Tryd.sizeOf3 (by decide) rfl | exact r_field 0 Tryd.underlying24 rfl rfl Tryd.sizeOf3 (by decide) rfl)) (ltn rfl) ?_
      refine wd_take_yes 5 rfl rfl rfl (by kernel_rfl) (by kernel_rfl) hS0 (by decide) (fun W hW => r_load (plain_of Tryd.underlying3 rfl) rfl (cell_of_blk hW rfl)) (ltn rfl) ?_
      refine wd_takeT_yes 6 rfl rfl rfl (by kernel_rfl) (by kernel_rfl) hS0 (fun _ => r_move rfl) (ltn rfl) ?_
      refine wd_eff_yes 7 rfl rfl rfl (by kernel_rfl) (e_call (r_call rfl Tryd.func45 rfl rfl) (buf_len_ret H3d.swap)) (ltn rfl) ?_
      rintro _ w3 ⟨rfl, hD1⟩
      have HE1 := H3d.drewn hD1
      have hS3 : (fun W => W.heap[b1]? = some (.cells (edCells k (.slice ad dl.length cd) i) 24 (0, 0))) w3 := HE1.get.2
      refine keepS hS3 ?_
      refine wd_takeT_yes 8 rfl rfl rfl (by kernel_rfl) (by kernel_rfl) hS3 (fun _ => r_gtr rfl rfl) (ltn rfl) ?_
      refine wd_takeT 9 rfl (by kernel_rfl) (by kernel_rfl) hS3 (fun _ => r_pick_f rfl rfl) (ltn rfl) ?_
      refine wd_takeT 10 rfl (by kernel_rfl) (by kernel_rfl) hS3 (fun _ => r_assign rfl) (ltn rfl) ?_
      refine wd_done (by kernel_rfl) ?_
      refine wq_seq ?_
      refine wc_cond rfl (fun h => by exfalso; (try simp only [beq_iff_eq, bne_iff_ne, ne_eq, decide_eq_true_eq, decide_eq_false_iff_not, beq_eq_false_iff_ne, bne_eq_false_iff_eq, Bool.not_eq_true', Bool.not_eq_false', Bool.not_eq_eq_eq_not, Bool.not_true, Bool.not_false, gt_iff_lt, ge_iff_le, Int.not_lt, Int.not_le] at h); first | contradiction | omega | (simp at h <;> omega)) (fun h3 => ?_)
      (try simp only [beq_iff_eq, bne_iff_ne, ne_eq, decide_eq_true_eq, decide_eq_false_iff_not, beq_eq_false_iff_ne, bne_eq_false_iff_eq, Bool.not_eq_true', Bool.not_eq_false', Bool.not_eq_eq_eq_not, Bool.not_true, Bool.not_false, gt_iff_lt, ge_iff_le, Int.not_lt, Int.not_le] at h3)
      refine wc_seq ?_
      refine wd_begin (n := 27) [0, 1, 2, 3, 4, 5, 6, 7, 8, 9, 10, 11, 12, 13, 14, 15, 16, 17, 18, 19, 20, 21, 22, 23, 24, 25, 26] (fun W => W.heap[b1]? = some (.cells (edCells k (.slice ad dl.length cd) i) 24 (0, 0))) (by kernel_rfl) (by kernel_rfl) rfl ?_
      have hS0 : (fun W => W.heap[b1]? = some (.cells (edCells k (.slice ad dl.length cd) i) 24 (0, 0))) (w3.drew) := HE1.get.2
      have H5d := HE1.drew
      refine wd_takeT 0 rfl (by kernel_rfl) (by kernel_rfl) hS0 (fun _ => (by first | exact r_field0 1 Tryd.underlying24 rfl rfl Tryd.sizeOf22 (by decide) rfl | exact r_field 1 Tryd.underlying24 rfl rfl Tryd.sizeOf22 (by decide) rfl)) (ltn rfl) ?_
      refine wd_take 1 rfl (by kernel_rfl) (by kernel_rfl) hS0 (by decide) (fun W hW => r_load (plain_of Tryd.underlying22 rfl) rfl (cell_of_blk hW rfl)) (ltn rfl) ?_
      refine wd_takeT 2 rfl (by kernel_rfl) (by kernel_rfl) hS0 (fun _ => r_len Tryd.underlying22 rfl) (ltn rfl) ?_
      refine wd_takeT 3 rfl (by kernel_rfl) (by kernel_rfl) hS0 (fun _ => r_move rfl) (ltn rfl) ?_
      refine wd_takeT 5 rfl (by kernel_rfl) (by kernel_rfl) hS0 (fun _ => (by first | exact r_field0 0 Tryd.underlying24 rfl rfl Tryd.sizeOf3 (by decide) rfl | exact r_field 0 Tryd.underlying24 rfl rfl Tryd.sizeOf3 (by decide) rfl)) (ltn rfl) ?_
      refine wd_take 6 rfl (by kernel_rfl) (by kernel_rfl) hS0 (by decide) (fun W hW => r_load (plain_of Tryd.underlying3 rfl) rfl (cell_of_blk hW rfl)) (ltn rfl) ?_
      refine wd_eff 4 rfl (by kernel_rfl) (e_call (r_call rfl Tryd.func45 rfl rfl) (buf_len_ret H5d.swap)) (ltn rfl) ?_
      rintro _ w4 ⟨rfl, hD2⟩
      have HE2 := H5d.drewn hD2
      have hS4 : (fun W => W.heap[b1]? = some (.cells (edCells k (.slice ad dl.length cd) i) 24 (0, 0))) w4 := HE2.get.2
      refine keepS hS4 ?_
      refine wd_takeT 7 rfl (by kernel_rfl) (by kernel_rfl) hS4 (fun _ => r_sub rfl rfl (by omega)) (ltn rfl) ?_
      refine wd_takeT 8 rfl (by kernel_rfl) (by kernel_rfl) hS4 (fun _ => r_gtr rfl rfl) (ltn rfl) ?_
      refine wd_split 9 rfl rfl (by kernel_rfl) (by kernel_rfl) hS4 (ltn rfl) (fun h => by exfalso; (try simp only [beq_iff_eq, bne_iff_ne, ne_eq, decide_eq_true_eq, decide_eq_false_iff_not, beq_eq_false_iff_ne, bne_eq_false_iff_eq, Bool.not_eq_true', Bool.not_eq_false', Bool.not_eq_eq_eq_not, Bool.not_true, Bool.not_false, gt_iff_lt, ge_iff_le, Int.not_lt, Int.not_le] at h); first | contradiction | omega | (simp at h <;> omega)) (fun h4 => ?_)
      (try simp only [beq_iff_eq, bne_iff_ne, ne_eq, decide_eq_true_eq, decide_eq_false_iff_not, beq_eq_false_iff_ne, bne_eq_false_iff_eq, Bool.not_eq_true', Bool.not_eq_false', Bool.not_eq_eq_eq_not, Bool.not_true, Bool.not_false, gt_iff_lt, ge_iff_le, Int.not_lt, Int.not_le] at h4)
      refine wd_takeT_yes 10 rfl rfl rfl (by kernel_rfl) (by kernel_rfl) hS4 (fun _ => r_move rfl) (ltn rfl) ?_
      refine wd_takeT_yes 12 rfl rfl rfl (by kernel_rfl) (by kernel_rfl) hS4 (fun _ => (by first | exact r_field0 0 Tryd.underlying24 rfl rfl Tryd.sizeOf3 (by decide) rfl | exact r_field 0 Tryd.underlying24 rfl rfl Tryd.sizeOf3 (by decide) rfl)) (ltn rfl) ?_
      refine wd_take_yes 13 rfl rfl rfl (by kernel_rfl) (by kernel_rfl) hS4 (by decide) (fun W hW => r_load (plain_of Tryd.underlying3 rfl) rfl (cell_of_blk hW rfl)) (ltn rfl) ?_
      refine wd_takeT_yes 14 rfl rfl rfl (by kernel_rfl) (by kernel_rfl) hS4 (fun _ => (by first | exact r_field0 0 Tryd.underlying24 rfl rfl Tryd.sizeOf3 (by decide) rfl | exact r_field 0 Tryd.underlying24 rfl rfl Tryd.sizeOf3 (by decide) rfl)) (ltn rfl) ?_
      refine wd_take_yes 15 rfl rfl rfl (by kernel_rfl) (by kernel_rfl) hS4 (by decide) (fun W hW => r_load (plain_of Tryd.underlying3 rfl) rfl (cell_of_blk hW rfl)) (ltn rfl) ?_
      refine wd_takeT_yes 16 rfl rfl rfl (by kernel_rfl) (by kernel_rfl) hS4 (fun _ => (by first | exact r_field0 1 Tryd.underlying24 rfl rfl Tryd.sizeOf22 (by decide) rfl | exact r_field 1 Tryd.underlying24 rfl rfl Tryd.sizeOf22 (by decide) rfl)) (ltn rfl) ?_
      refine wd_take_yes 17 rfl rfl rfl (by kernel_rfl) (by kernel_rfl) hS4 (by decide) (fun W hW => r_load (plain_of Tryd.underlying22 rfl) rfl (cell_of_blk hW rfl)) (ltn rfl) ?_
      refine wd_takeT_yes 18 rfl rfl rfl (by kernel_rfl) (by kernel_rfl) hS4 (fun _ => r_len Tryd.underlying22 rfl) (ltn rfl) ?_
      refine wd_takeT_yes 19 rfl rfl rfl (by kernel_rfl) (by kernel_rfl) hS4 (fun _ => r_add rfl rfl (by omega)) (ltn rfl) ?_
      refine wd_takeT_yes 21 rfl rfl rfl (by kernel_rfl) (by kernel_rfl) hS4 (fun _ => (by first | exact r_field0 1 Tryd.underlying24 rfl rfl Tryd.sizeOf22 (by decide) rfl | exact r_field 1 Tryd.underlying24 rfl rfl Tryd.sizeOf22 (by decide) rfl)) (ltn rfl) ?_
      refine wd_take_yes 22 rfl rfl rfl (by kernel_rfl) (by kernel_rfl) hS4 (by decide) (fun W hW => r_load (plain_of Tryd.underlying22 rfl) rfl (cell_of_blk hW rfl)) (ltn rfl) ?_
      refine wd_eff_yes 11 rfl rfl rfl (by kernel_rfl) (e_call (r_call rfl Tryd.func15 rfl rfl) (buf_text_ret HE2.swap)) (ltn rfl) ?_
      rintro u w5 H5
      obtain ⟨au, cu, hu, hcu1, hcu2, _⟩ := (H5.row_rd).form
      subst hu
      have hS5 : (fun W => W.heap[b1]? = some (.cells (edCells k (.slice ad dl.length cd) i) 24 (0, 0))) w5 := H5.rot.get.2
      refine keepS hS5 ?_
      refine wd_takeT_yes 20 rfl rfl rfl (by kernel_rfl) (by kernel_rfl) hS5 (fun _ => r_slice Tryd.underlying22 Tryd.sizeOf21 rfl rfl rfl (by omega)) (ltn rfl) ?_
      refine wd_eff_yes 23 rfl rfl rfl (by kernel_rfl) (e_call (r_call rfl Tryd.func57 rfl rfl) (equal_eq_ret _ _ _ dl (by have q := RdI.cut H5.row_rd (i := k) (j := k + dl.length) (by omega) hk; rw [Nat.add_sub_cancel_left, hdl] at q; exact q) (hd _ H5.right.right.right))) (ltn rfl) ?_
      rintro _ w6 ⟨rfl, hD3⟩
      have HE3 := (H5.drewn hD3).right
      have hS6 : (fun W => W.heap[b1]? = some (.cells (edCells k (.slice ad dl.length cd) i) 24 (0, 0))) w6 := HE3.swap.get.2
      refine keepS hS6 ?_
      refine wd_takeT_yes 24 rfl rfl rfl (by kernel_rfl) (by kernel_rfl) hS6 (fun _ => r_not rfl) (ltn rfl) ?_
      refine wd_takeT 25 rfl (by kernel_rfl) (by kernel_rfl) hS6 (fun _ => r_pick_f rfl rfl) (ltn rfl) ?_
      refine wd_takeT 26 rfl (by kernel_rfl) (by kernel_rfl) hS6 (fun _ => r_assign rfl) (ltn rfl) ?_
      refine wd_done (by kernel_rfl) ?_
      refine wq_seq ?_
      refine wc_cond rfl (fun h => by exfalso; (try simp only [beq_iff_eq, bne_iff_ne, ne_eq, decide_eq_true_eq, decide_eq_false_iff_not, beq_eq_false_iff_ne, bne_eq_false_iff_eq, Bool.not_eq_true', Bool.not_eq_false', Bool.not_eq_eq_eq_not, Bool.not_true, Bool.not_false, gt_iff_lt, ge_iff_le, Int.not_lt, Int.not_le] at h); first | contradiction | omega | (simp at h <;> omega)) (fun h5 => ?_)
      (try simp only [beq_iff_eq, bne_iff_ne, ne_eq, decide_eq_true_eq, decide_eq_false_iff_not, beq_eq_false_iff_ne, bne_eq_false_iff_eq, Bool.not_eq_true', Bool.not_eq_false', Bool.not_eq_eq_eq_not, Bool.not_true, Bool.not_false, gt_iff_lt, ge_iff_le, Int.not_lt, Int.not_le] at h5)
      refine wc_skip ?_
      refine wq_block_normal ?_
      refine wq_seq ?_
      refine wc_seq ?_
      refine wc_region ?_
      refine wl_val (r_move rfl) (ltn rfl) ?_
      refine wl_val ((by first | exact r_field0 0 Tryd.underlying24 rfl rfl Tryd.sizeOf3 (by decide) rfl | exact r_field 0 Tryd.underlying24 rfl rfl Tryd.sizeOf3 (by decide) rfl)) (ltn rfl) ?_
      refine wl_val (r_load (plain_of Tryd.underlying3 rfl) rfl (cell_of_blk HE3.swap.get.2 rfl)) (ltn rfl) ?_
      refine wl_val ((by first | exact r_field0 0 Tryd.underlying24 rfl rfl Tryd.sizeOf3 (by decide) rfl | exact r_field 0 Tryd.underlying24 rfl rfl Tryd.sizeOf3 (by decide) rfl)) (ltn rfl) ?_
      refine wl_val (r_load (plain_of Tryd.underlying3 rfl) rfl (cell_of_blk HE3.swap.get.2 rfl)) (ltn rfl) ?_
      refine wl_val ((by first | exact r_field0 1 Tryd.underlying24 rfl rfl Tryd.sizeOf22 (by decide) rfl | exact r_field 1 Tryd.underlying24 rfl rfl Tryd.sizeOf22 (by decide) rfl)) (ltn rfl) ?_
      refine wl_val (r_load (plain_of Tryd.underlying22 rfl) rfl (cell_of_blk HE3.swap.get.2 rfl)) (ltn rfl) ?_
      refine wl_val (r_len Tryd.underlying22 rfl) (ltn rfl) ?_
      refine wl_val (r_add rfl rfl (by omega)) (ltn rfl) ?_
      refine wl_val ((by first | exact r_field0 2 Tryd.underlying24 rfl rfl Tryd.sizeOf22 (by decide) rfl | exact r_field 2 Tryd.underlying24 rfl rfl Tryd.sizeOf22 (by decide) rfl)) (ltn rfl) ?_
      refine wl_val (r_load (plain_of Tryd.underlying22 rfl) rfl (cell_of_blk HE3.swap.get.2 rfl)) (ltn rfl) ?_
      refine wl_eff (e_call (r_call rfl Tryd.func13 rfl rfl) (buf_replace_ok (i := k) (j := k + dl.length) HE3 hi.under ⟨by omega, hk⟩ (by omega))) (ltn rfl) ?_
      rintro _ w7 ⟨d2, s2, rfl, H7⟩
      refine wl_val (r_move rfl) (ltn rfl) ?_
      refine wl_val (r_extract rfl rfl) (ltn rfl) ?_
      refine wl_val (r_extract rfl rfl) (ltn rfl) ?_
      refine wl_eff (e_alloc H7 Tryd.zeroValue24) (ltn rfl) ?_
      rintro _ w8 ⟨b8, rfl, H8⟩
      refine wl_eff0 (e_store_whole (cs := edCells k d2 s2) H8 Tryd.sizeOf24 rfl rfl rfl rfl (ed_ones H8.swap.row_rd.one H8.rot.row_rd.one)) ?_
      rintro _ w9 H9
      refine wl_val (r_assign rfl) (ltn rfl) ?_
      refine wl_nil ?_
      refine wq_seq ?_
      refine wc_seq ?_
      refine wc_region ?_
      refine wl_val (r_move rfl) (ltn rfl) ?_
      refine wl_val (r_assign rfl) (ltn rfl) ?_
      refine wl_nil ?_
      refine wq_seq ?_
      refine wc_ret ?_
      refine wq_end1 (.inl rfl) Tryd.results24 rfl ?_
      exact ⟨rfl, H9.right.right.right.swap.right⟩
end
end Go.Proofs.YtlldaaamdchkdaaDoor
