/- BufferSplices, walked. -/
import Derived.Test.YtlldaaamdchkdaaDoorSame
set_option linter.unusedSimpArgs false
set_option linter.unusedVariables false
namespace Go.Proofs.YtlldaaamdchkdaaDoor
open Go.RowKit
/-- An operation's cells. -/
def opCells (k f t : Int) (tx : Value) (a : Int) (d i : Value) : Array Value := #[.int .i64 k, .int .i64 f, .int .i64 t, tx, .int .i64 a, d, i]

section
variable {w : World} {v tx d0 i0 : Value} {l text : List Int} {k f t a : Int}
theorem splices_long (hT : Tabs w) (g : RdI w .i32 v l) (gx : RdI w .i32 tx text) (hl : 1024 < l.length) :
    Ret Tryd.prog 3 #[v, .agg (opCells k f t tx a d0 i0)] w fun v w' => v = .bool true ∧ Below w.heap.size w w' := by
  have H := Holds.start w
  obtain ⟨a1, c1, hv1, _, _, _⟩ := g.open
  subst hv1
  refine ret_enter Tryd.func3 rfl Tryd.ntmps3 (Nat.le_of_ble_eq_true rfl) ?_
  dsimp only [slots0, Nat.reduceAdd]
  refine wc_seq ?_
  refine wc_region ?_
  refine wl_eff (e_box H rfl) (ltn rfl) ?_
  rintro _ w1 ⟨b1, rfl, H1⟩
  refine wl_val (r_assign rfl) (ltn rfl) ?_
  refine wl_nil ?_
  refine wq_seq ?_
  refine wc_seq ?_
  refine wc_region ?_
  refine wl_val (r_move rfl) (ltn rfl) ?_
  refine wl_eff (e_call (r_call rfl Tryd.func11 rfl rfl) (buf_new_long H1 (FRdI.of_start g _) hl)) (ltn rfl) ?_
  rintro _ _ ⟨rfl, rfl⟩
  refine wl_val (r_move rfl) (ltn rfl) ?_
  refine wl_val (r_extract rfl rfl) (ltn rfl) ?_
  refine wl_val (r_extract rfl rfl) (ltn rfl) ?_
  refine wl_val (r_assign rfl) (ltn rfl) ?_
  refine wl_val (r_assign rfl) (ltn rfl) ?_
  refine wl_nil ?_
  refine wq_seq ?_
  refine wc_seq ?_
  refine wc_seq ?_
  refine wc_region ?_
  refine wl_val (r_move rfl) (ltn rfl) ?_
  refine wl_val (r_neq rfl rfl) (ltn rfl) ?_
  refine wl_split rfl (ltn rfl) (fun h1 => ?_) (fun h1 => ?_)
  · (try simp only [beq_iff_eq, bne_iff_ne, ne_eq, decide_eq_true_eq, decide_eq_false_iff_not, beq_eq_false_iff_ne, bne_eq_false_iff_eq, Bool.not_eq_true', Bool.not_eq_false', Bool.not_eq_eq_eq_not, Bool.not_true, Bool.not_false, gt_iff_lt, ge_iff_le, Int.not_lt, Int.not_le] at h1)
    try (exfalso; first | contradiction | omega)
    all_goals
      refine wl_no rfl rfl rfl (ltn rfl) ?_
      refine wl_no rfl rfl rfl (ltn rfl) ?_
      refine wl_val (r_pick_t rfl rfl) (ltn rfl) ?_
      refine wl_nil ?_
      refine wq_seq ?_
      refine wc_cond_t rfl ?_
      refine wc_seq ?_
      refine wc_region ?_
      refine wl_eff (e_call (r_call rfl Tryd.func12 rfl rfl) (live_ret H1 hT)) (ltn rfl) ?_
      rintro _ w3 ⟨rfl, H3⟩
      refine wl_split rfl (ltn rfl) (fun h2 => ?_) (fun h2 => ?_)
      · (try simp only [beq_iff_eq, bne_iff_ne, ne_eq, decide_eq_true_eq, decide_eq_false_iff_not, beq_eq_false_iff_ne, bne_eq_false_iff_eq, Bool.not_eq_true', Bool.not_eq_false', Bool.not_eq_eq_eq_not, Bool.not_true, Bool.not_false, gt_iff_lt, ge_iff_le, Int.not_lt, Int.not_le] at h2)
        try (exfalso; first | contradiction | omega)
        all_goals
          refine wl_yes rfl rfl ?_
          refine wl_val (r_move rfl) (ltn rfl) ?_
          refine wl_yes rfl rfl ?_
          refine wl_val (r_eql rfl rfl) (ltn rfl) ?_
          refine wl_val (r_pick_t rfl rfl) (ltn rfl) ?_
          refine wl_split rfl (ltn rfl) (fun h3 => ?_) (fun h3 => ?_)
          · (try simp only [beq_iff_eq, bne_iff_ne, ne_eq, decide_eq_true_eq, decide_eq_false_iff_not, beq_eq_false_iff_ne, bne_eq_false_iff_eq, Bool.not_eq_true', Bool.not_eq_false', Bool.not_eq_eq_eq_not, Bool.not_true, Bool.not_false, gt_iff_lt, ge_iff_le, Int.not_lt, Int.not_le] at h3)
            try (exfalso; first | contradiction | omega)
            all_goals
              refine wl_yes rfl rfl ?_
              refine wl_val (r_move rfl) (ltn rfl) ?_
              refine wl_yes rfl rfl ?_
              refine wl_val (r_len Tryd.underlying22 rfl) (ltn rfl) ?_
              refine wl_yes rfl rfl ?_
              refine wl_val (r_gtr rfl rfl) (ltn rfl) ?_
              refine wl_val (r_pick_t rfl rfl) (ltn rfl) ?_
              refine wl_val (r_assign rfl) (ltn rfl) ?_
              refine wl_nil ?_
              refine wq_seq ?_
              refine wc_ret ?_
              refine wq_then_ret ?_
              refine wq_end1 (.inl rfl) Tryd.results3 rfl ?_
              exact ⟨by simp; omega, H3.base⟩
          · (try simp only [beq_iff_eq, bne_iff_ne, ne_eq, decide_eq_true_eq, decide_eq_false_iff_not, beq_eq_false_iff_ne, bne_eq_false_iff_eq, Bool.not_eq_true', Bool.not_eq_false', Bool.not_eq_eq_eq_not, Bool.not_true, Bool.not_false, gt_iff_lt, ge_iff_le, Int.not_lt, Int.not_le] at h3)
            try (exfalso; first | contradiction | omega)
            all_goals
              refine wl_no rfl rfl rfl (ltn rfl) ?_
              refine wl_no rfl rfl rfl (ltn rfl) ?_
              refine wl_no rfl rfl rfl (ltn rfl) ?_
              refine wl_val (r_pick_f rfl rfl) (ltn rfl) ?_
              refine wl_val (r_assign rfl) (ltn rfl) ?_
              refine wl_nil ?_
              refine wq_seq ?_
              refine wc_ret ?_
              refine wq_then_ret ?_
              refine wq_end1 (.inl rfl) Tryd.results3 rfl ?_
              exact ⟨by simp; omega, H3.base⟩
      · (try simp only [beq_iff_eq, bne_iff_ne, ne_eq, decide_eq_true_eq, decide_eq_false_iff_not, beq_eq_false_iff_ne, bne_eq_false_iff_eq, Bool.not_eq_true', Bool.not_eq_false', Bool.not_eq_eq_eq_not, Bool.not_true, Bool.not_false, gt_iff_lt, ge_iff_le, Int.not_lt, Int.not_le] at h2)
        try (exfalso; first | contradiction | omega)
        all_goals
          refine wl_no rfl rfl rfl (ltn rfl) ?_
          refine wl_no rfl rfl rfl (ltn rfl) ?_
          refine wl_val (r_pick_f rfl rfl) (ltn rfl) ?_
          refine wl_val (r_move rfl) (ltn rfl) ?_
          refine wl_no rfl rfl rfl (ltn rfl) ?_
          refine wl_no rfl rfl rfl (ltn rfl) ?_
          refine wl_no rfl rfl rfl (ltn rfl) ?_
          refine wl_val (r_pick_f rfl rfl) (ltn rfl) ?_
          refine wl_val (r_assign rfl) (ltn rfl) ?_
          refine wl_nil ?_
          refine wq_seq ?_
          refine wc_ret ?_
          refine wq_then_ret ?_
          refine wq_end1 (.inl rfl) Tryd.results3 rfl ?_
          exact ⟨by simp; omega, H3.base⟩
  · (try simp only [beq_iff_eq, bne_iff_ne, ne_eq, decide_eq_true_eq, decide_eq_false_iff_not, beq_eq_false_iff_ne, bne_eq_false_iff_eq, Bool.not_eq_true', Bool.not_eq_false', Bool.not_eq_eq_eq_not, Bool.not_true, Bool.not_false, gt_iff_lt, ge_iff_le, Int.not_lt, Int.not_le] at h1)
    try (exfalso; first | contradiction | omega)
    all_goals
      refine wl_yes rfl rfl ?_
      refine wl_eff (e_call (r_call rfl Tryd.func12 rfl rfl) (live_ret H1 hT)) (ltn rfl) ?_
      rintro _ w4 ⟨rfl, H4⟩
      refine wl_yes rfl rfl ?_
      refine wl_val (r_not rfl) (ltn rfl) ?_
      refine wl_val (r_pick_f rfl rfl) (ltn rfl) ?_
      refine wl_nil ?_
      refine wq_seq ?_
      refine wc_cond rfl (fun h4 => ?_) (fun h => by exfalso; (try simp only [beq_iff_eq, bne_iff_ne, ne_eq, decide_eq_true_eq, decide_eq_false_iff_not, beq_eq_false_iff_ne, bne_eq_false_iff_eq, Bool.not_eq_true', Bool.not_eq_false', Bool.not_eq_eq_eq_not, Bool.not_true, Bool.not_false, gt_iff_lt, ge_iff_le, Int.not_lt, Int.not_le] at h); first | contradiction | omega | (simp at h <;> omega))
      (try simp only [beq_iff_eq, bne_iff_ne, ne_eq, decide_eq_true_eq, decide_eq_false_iff_not, beq_eq_false_iff_ne, bne_eq_false_iff_eq, Bool.not_eq_true', Bool.not_eq_false', Bool.not_eq_eq_eq_not, Bool.not_true, Bool.not_false, gt_iff_lt, ge_iff_le, Int.not_lt, Int.not_le] at h4)
      refine wc_seq ?_
      refine wc_region ?_
      refine wl_eff (e_call (r_call rfl Tryd.func12 rfl rfl) (live_ret H4 hT)) (ltn rfl) ?_
      rintro _ w5 ⟨rfl, H5⟩
      refine wl_split rfl (ltn rfl) (fun h5 => ?_) (fun h5 => ?_)
      · (try simp only [beq_iff_eq, bne_iff_ne, ne_eq, decide_eq_true_eq, decide_eq_false_iff_not, beq_eq_false_iff_ne, bne_eq_false_iff_eq, Bool.not_eq_true', Bool.not_eq_false', Bool.not_eq_eq_eq_not, Bool.not_true, Bool.not_false, gt_iff_lt, ge_iff_le, Int.not_lt, Int.not_le] at h5)
        try (exfalso; first | contradiction | omega)
        all_goals
          refine wl_yes rfl rfl ?_
          refine wl_val (r_move rfl) (ltn rfl) ?_
          refine wl_yes rfl rfl ?_
          refine wl_val (r_eql rfl rfl) (ltn rfl) ?_
          refine wl_val (r_pick_t rfl rfl) (ltn rfl) ?_
          refine wl_split rfl (ltn rfl) (fun h6 => ?_) (fun h6 => ?_)
          · (try simp only [beq_iff_eq, bne_iff_ne, ne_eq, decide_eq_true_eq, decide_eq_false_iff_not, beq_eq_false_iff_ne, bne_eq_false_iff_eq, Bool.not_eq_true', Bool.not_eq_false', Bool.not_eq_eq_eq_not, Bool.not_true, Bool.not_false, gt_iff_lt, ge_iff_le, Int.not_lt, Int.not_le] at h6)
            try (exfalso; first | contradiction | omega)
            all_goals
              refine wl_yes rfl rfl ?_
              refine wl_val (r_move rfl) (ltn rfl) ?_
              refine wl_yes rfl rfl ?_
              refine wl_val (r_len Tryd.underlying22 rfl) (ltn rfl) ?_
              refine wl_yes rfl rfl ?_
              refine wl_val (r_gtr rfl rfl) (ltn rfl) ?_
              refine wl_val (r_pick_t rfl rfl) (ltn rfl) ?_
              refine wl_val (r_assign rfl) (ltn rfl) ?_
              refine wl_nil ?_
              refine wq_seq ?_
              refine wc_ret ?_
              refine wq_then_ret ?_
              refine wq_end1 (.inl rfl) Tryd.results3 rfl ?_
              exact ⟨by simp; omega, H5.base⟩
          · (try simp only [beq_iff_eq, bne_iff_ne, ne_eq, decide_eq_true_eq, decide_eq_false_iff_not, beq_eq_false_iff_ne, bne_eq_false_iff_eq, Bool.not_eq_true', Bool.not_eq_false', Bool.not_eq_eq_eq_not, Bool.not_true, Bool.not_false, gt_iff_lt, ge_iff_le, Int.not_lt, Int.not_le] at h6)
            try (exfalso; first | contradiction | omega)
            all_goals
              refine wl_no rfl rfl rfl (ltn rfl) ?_
              refine wl_no rfl rfl rfl (ltn rfl) ?_
              refine wl_no rfl rfl rfl (ltn rfl) ?_
              refine wl_val (r_pick_f rfl rfl) (ltn rfl) ?_
              refine wl_val (r_assign rfl) (ltn rfl) ?_
              refine wl_nil ?_
              refine wq_seq ?_
              refine wc_ret ?_
              refine wq_then_ret ?_
              refine wq_end1 (.inl rfl) Tryd.results3 rfl ?_
              exact ⟨by simp; omega, H5.base⟩
      · (try simp only [beq_iff_eq, bne_iff_ne, ne_eq, decide_eq_true_eq, decide_eq_false_iff_not, beq_eq_false_iff_ne, bne_eq_false_iff_eq, Bool.not_eq_true', Bool.not_eq_false', Bool.not_eq_eq_eq_not, Bool.not_true, Bool.not_false, gt_iff_lt, ge_iff_le, Int.not_lt, Int.not_le] at h5)
        try (exfalso; first | contradiction | omega)
        all_goals
          refine wl_no rfl rfl rfl (ltn rfl) ?_
          refine wl_no rfl rfl rfl (ltn rfl) ?_
          refine wl_val (r_pick_f rfl rfl) (ltn rfl) ?_
          refine wl_val (r_move rfl) (ltn rfl) ?_
          refine wl_no rfl rfl rfl (ltn rfl) ?_
          refine wl_no rfl rfl rfl (ltn rfl) ?_
          refine wl_no rfl rfl rfl (ltn rfl) ?_
          refine wl_val (r_pick_f rfl rfl) (ltn rfl) ?_
          refine wl_val (r_assign rfl) (ltn rfl) ?_
          refine wl_nil ?_
          refine wq_seq ?_
          refine wc_ret ?_
          refine wq_then_ret ?_
          refine wq_end1 (.inl rfl) Tryd.results3 rfl ?_
          exact ⟨by simp; omega, H5.base⟩
theorem splices_bad (hT : Tabs w) (g : RdI w .i32 v l) (gx : RdI w .i32 tx text) (hl : l.length ≤ 1024) (hb : f < 0 ∨ l.length < f ∨ t < f ∨ l.length < t) :
    Ret Tryd.prog 3 #[v, .agg (opCells k f t tx a d0 i0)] w fun v w' => v = .bool true ∧ Below w.heap.size w w' := by
  have H := Holds.start w
  obtain ⟨a1, c1, hv1, _, _, _⟩ := g.open
  subst hv1
  refine ret_enter Tryd.func3 rfl Tryd.ntmps3 (Nat.le_of_ble_eq_true rfl) ?_
  dsimp only [slots0, Nat.reduceAdd]
  refine wc_seq ?_
  refine wc_region ?_
  refine wl_eff (e_box H rfl) (ltn rfl) ?_
  rintro _ w1 ⟨b1, rfl, H1⟩
  refine wl_val (r_assign rfl) (ltn rfl) ?_
  refine wl_nil ?_
  refine wq_seq ?_
  refine wc_seq ?_
  refine wc_region ?_
  refine wl_val (r_move rfl) (ltn rfl) ?_
  refine wl_eff (e_call (r_call rfl Tryd.func11 rfl rfl) (buf_new_ret H1 (FRdI.of_start g _) hl)) (ltn rfl) ?_
  rintro _ w2 ⟨p, rfl, H2⟩
  refine wl_val (r_move rfl) (ltn rfl) ?_
  refine wl_val (r_extract rfl rfl) (ltn rfl) ?_
  refine wl_val (r_extract rfl rfl) (ltn rfl) ?_
  refine wl_val (r_assign rfl) (ltn rfl) ?_
  refine wl_val (r_assign rfl) (ltn rfl) ?_
  refine wl_nil ?_
  refine wq_seq ?_
  refine wc_seq ?_
  refine wc_seq ?_
  refine wc_region ?_
  refine wl_val (r_move rfl) (ltn rfl) ?_
  refine wl_val (r_neq rfl rfl) (ltn rfl) ?_
  refine wl_split rfl (ltn rfl) (fun h => by exfalso; (try simp only [beq_iff_eq, bne_iff_ne, ne_eq, decide_eq_true_eq, decide_eq_false_iff_not, beq_eq_false_iff_ne, bne_eq_false_iff_eq, Bool.not_eq_true', Bool.not_eq_false', Bool.not_eq_eq_eq_not, Bool.not_true, Bool.not_false, gt_iff_lt, ge_iff_le, Int.not_lt, Int.not_le] at h); first | contradiction | omega | (simp at h <;> omega)) (fun h1 => ?_)
  (try simp only [beq_iff_eq, bne_iff_ne, ne_eq, decide_eq_true_eq, decide_eq_false_iff_not, beq_eq_false_iff_ne, bne_eq_false_iff_eq, Bool.not_eq_true', Bool.not_eq_false', Bool.not_eq_eq_eq_not, Bool.not_true, Bool.not_false, gt_iff_lt, ge_iff_le, Int.not_lt, Int.not_le] at h1)
  refine wl_yes rfl rfl ?_
  refine wl_eff (e_call (r_call rfl Tryd.func12 rfl rfl) (live_ret H2 hT)) (ltn rfl) ?_
  rintro _ w3 ⟨rfl, H3⟩
  refine wl_yes rfl rfl ?_
  refine wl_val (r_not rfl) (ltn rfl) ?_
  refine wl_val (r_pick_f rfl rfl) (ltn rfl) ?_
  refine wl_nil ?_
  refine wq_seq ?_
  refine wc_cond rfl (fun h => by exfalso; (try simp only [beq_iff_eq, bne_iff_ne, ne_eq, decide_eq_true_eq, decide_eq_false_iff_not, beq_eq_false_iff_ne, bne_eq_false_iff_eq, Bool.not_eq_true', Bool.not_eq_false', Bool.not_eq_eq_eq_not, Bool.not_true, Bool.not_false, gt_iff_lt, ge_iff_le, Int.not_lt, Int.not_le] at h); first | contradiction | omega | (simp at h <;> omega)) (fun h2 => ?_)
  (try simp only [beq_iff_eq, bne_iff_ne, ne_eq, decide_eq_true_eq, decide_eq_false_iff_not, beq_eq_false_iff_ne, bne_eq_false_iff_eq, Bool.not_eq_true', Bool.not_eq_false', Bool.not_eq_eq_eq_not, Bool.not_true, Bool.not_false, gt_iff_lt, ge_iff_le, Int.not_lt, Int.not_le] at h2)
  refine wc_skip ?_
  refine wq_seq ?_
  refine wc_seq ?_
  refine wc_region ?_
  refine wl_val (r_move rfl) (ltn rfl) ?_
  refine wl_val ((by first | exact r_field0 1 Tryd.underlying26 rfl rfl Tryd.sizeOf3 (by decide) rfl | exact r_field 1 Tryd.underlying26 rfl rfl Tryd.sizeOf3 (by decide) rfl)) (ltn rfl) ?_
  refine wl_val (r_load (plain_of Tryd.underlying3 rfl) rfl (cell_of_blk H3.swap.get.2 rfl)) (ltn rfl) ?_
  refine wl_val ((by first | exact r_field0 2 Tryd.underlying26 rfl rfl Tryd.sizeOf3 (by decide) rfl | exact r_field 2 Tryd.underlying26 rfl rfl Tryd.sizeOf3 (by decide) rfl)) (ltn rfl) ?_
  refine wl_val (r_load (plain_of Tryd.underlying3 rfl) rfl (cell_of_blk H3.swap.get.2 rfl)) (ltn rfl) ?_
  refine wl_val ((by first | exact r_field0 3 Tryd.underlying26 rfl rfl Tryd.sizeOf22 (by decide) rfl | exact r_field 3 Tryd.underlying26 rfl rfl Tryd.sizeOf22 (by decide) rfl)) (ltn rfl) ?_
  refine wl_val (r_load (plain_of Tryd.underlying22 rfl) rfl (cell_of_blk H3.swap.get.2 rfl)) (ltn rfl) ?_
  refine wl_eff (e_call (r_call rfl Tryd.func13 rfl rfl) (buf_replace_bad H3 (FRdI.of_start gx _) hb)) (ltn rfl) ?_
  rintro _ w4 ⟨rfl, H4⟩
  refine wl_val (r_move rfl) (ltn rfl) ?_
  refine wl_val (r_extract rfl rfl) (ltn rfl) ?_
  refine wl_val (r_extract rfl rfl) (ltn rfl) ?_
  refine wl_eff (e_alloc H4 Tryd.zeroValue24) (ltn rfl) ?_
  rintro _ w5 ⟨b5, rfl, H5⟩
  refine wl_eff0 (e_store_whole (cs := edCells 0 (.slice none 0 0) (.slice none 0 0)) H5 Tryd.sizeOf24 rfl rfl rfl rfl (ed_ones rfl rfl)) ?_
  rintro _ w6 H6
  refine wl_val (r_assign rfl) (ltn rfl) ?_
  refine wl_nil ?_
  refine wq_seq ?_
  refine wc_seq ?_
  refine wc_seq ?_
  refine wc_region ?_
  refine wl_val ((by first | exact r_field0 1 Tryd.underlying26 rfl rfl Tryd.sizeOf3 (by decide) rfl | exact r_field 1 Tryd.underlying26 rfl rfl Tryd.sizeOf3 (by decide) rfl)) (ltn rfl) ?_
  refine wl_val (r_load (plain_of Tryd.underlying3 rfl) rfl (cell_of_blk H6.rot.get.2 rfl)) (ltn rfl) ?_
  refine wl_val (r_lss rfl rfl) (ltn rfl) ?_
  refine wl_split rfl (ltn rfl) (fun h3 => ?_) (fun h3 => ?_)
  · (try simp only [beq_iff_eq, bne_iff_ne, ne_eq, decide_eq_true_eq, decide_eq_false_iff_not, beq_eq_false_iff_ne, bne_eq_false_iff_eq, Bool.not_eq_true', Bool.not_eq_false', Bool.not_eq_eq_eq_not, Bool.not_true, Bool.not_false, gt_iff_lt, ge_iff_le, Int.not_lt, Int.not_le] at h3)
    try (exfalso; first | contradiction | omega)
    all_goals
      refine wl_no rfl rfl rfl (ltn rfl) ?_
      refine wl_no rfl rfl rfl (ltn rfl) ?_
      refine wl_no rfl rfl rfl (ltn rfl) ?_
      refine wl_no rfl rfl rfl (ltn rfl) ?_
      refine wl_no rfl rfl rfl (ltn rfl) ?_
      refine wl_val (r_pick_t rfl rfl) (ltn rfl) ?_
      refine wl_val (r_move rfl) (ltn rfl) ?_
      refine wl_no rfl rfl rfl (ltn rfl) ?_
      refine wl_no rfl rfl rfl (ltn rfl) ?_
      refine wl_no rfl rfl rfl (ltn rfl) ?_
      refine wl_no rfl rfl rfl (ltn rfl) ?_
      refine wl_no rfl rfl rfl (ltn rfl) ?_
      refine wl_val (r_pick_t rfl rfl) (ltn rfl) ?_
      refine wl_nil ?_
      refine wq_seq ?_
      refine wc_cond_t rfl ?_
      refine wc_seq ?_
      refine wc_region ?_
      refine wl_val (r_move rfl) (ltn rfl) ?_
      refine wl_val (r_eql rfl rfl) (ltn rfl) ?_
      refine wl_val (r_assign rfl) (ltn rfl) ?_
      refine wl_nil ?_
      refine wq_seq ?_
      refine wc_ret ?_
      refine wq_then_ret ?_
      refine wq_end1 (.inl rfl) Tryd.results3 rfl ?_
      exact ⟨rfl, H6.base⟩
  · (try simp only [beq_iff_eq, bne_iff_ne, ne_eq, decide_eq_true_eq, decide_eq_false_iff_not, beq_eq_false_iff_ne, bne_eq_false_iff_eq, Bool.not_eq_true', Bool.not_eq_false', Bool.not_eq_eq_eq_not, Bool.not_true, Bool.not_false, gt_iff_lt, ge_iff_le, Int.not_lt, Int.not_le] at h3)
    try (exfalso; first | contradiction | omega)
    all_goals
      refine wl_yes rfl rfl ?_
      refine wl_val ((by first | exact r_field0 2 Tryd.underlying26 rfl rfl Tryd.sizeOf3 (by decide) rfl | exact r_field 2 Tryd.underlying26 rfl rfl Tryd.sizeOf3 (by decide) rfl)) (ltn rfl) ?_
      refine wl_yes rfl rfl ?_
      refine wl_val (r_load (plain_of Tryd.underlying3 rfl) rfl (cell_of_blk H6.rot.get.2 rfl)) (ltn rfl) ?_
      refine wl_yes rfl rfl ?_
      refine wl_val ((by first | exact r_field0 1 Tryd.underlying26 rfl rfl Tryd.sizeOf3 (by decide) rfl | exact r_field 1 Tryd.underlying26 rfl rfl Tryd.sizeOf3 (by decide) rfl)) (ltn rfl) ?_
      refine wl_yes rfl rfl ?_
      refine wl_val (r_load (plain_of Tryd.underlying3 rfl) rfl (cell_of_blk H6.rot.get.2 rfl)) (ltn rfl) ?_
      refine wl_yes rfl rfl ?_
      refine wl_val (r_lss rfl rfl) (ltn rfl) ?_
      refine wl_val (r_pick_f rfl rfl) (ltn rfl) ?_
      refine wl_split rfl (ltn rfl) (fun h4 => ?_) (fun h4 => ?_)
      · (try simp only [beq_iff_eq, bne_iff_ne, ne_eq, decide_eq_true_eq, decide_eq_false_iff_not, beq_eq_false_iff_ne, bne_eq_false_iff_eq, Bool.not_eq_true', Bool.not_eq_false', Bool.not_eq_eq_eq_not, Bool.not_true, Bool.not_false, gt_iff_lt, ge_iff_le, Int.not_lt, Int.not_le] at h4)
        try (exfalso; first | contradiction | omega)
        all_goals
          refine wl_no rfl rfl rfl (ltn rfl) ?_
          refine wl_no rfl rfl rfl (ltn rfl) ?_
          refine wl_no rfl rfl rfl (ltn rfl) ?_
          refine wl_no rfl rfl rfl (ltn rfl) ?_
          refine wl_no rfl rfl rfl (ltn rfl) ?_
          refine wl_val (r_pick_t rfl rfl) (ltn rfl) ?_
          refine wl_nil ?_
          refine wq_seq ?_
          refine wc_cond_t rfl ?_
          refine wc_seq ?_
          refine wc_region ?_
          refine wl_val (r_move rfl) (ltn rfl) ?_
          refine wl_val (r_eql rfl rfl) (ltn rfl) ?_
          refine wl_val (r_assign rfl) (ltn rfl) ?_
          refine wl_nil ?_
          refine wq_seq ?_
          refine wc_ret ?_
          refine wq_then_ret ?_
          refine wq_end1 (.inl rfl) Tryd.results3 rfl ?_
          exact ⟨rfl, H6.base⟩
      · (try simp only [beq_iff_eq, bne_iff_ne, ne_eq, decide_eq_true_eq, decide_eq_false_iff_not, beq_eq_false_iff_ne, bne_eq_false_iff_eq, Bool.not_eq_true', Bool.not_eq_false', Bool.not_eq_eq_eq_not, Bool.not_true, Bool.not_false, gt_iff_lt, ge_iff_le, Int.not_lt, Int.not_le] at h4)
        try (exfalso; first | contradiction | omega)
        all_goals
          refine wl_yes rfl rfl ?_
          refine wl_val ((by first | exact r_field0 2 Tryd.underlying26 rfl rfl Tryd.sizeOf3 (by decide) rfl | exact r_field 2 Tryd.underlying26 rfl rfl Tryd.sizeOf3 (by decide) rfl)) (ltn rfl) ?_
          refine wl_yes rfl rfl ?_
          refine wl_val (r_load (plain_of Tryd.underlying3 rfl) rfl (cell_of_blk H6.rot.get.2 rfl)) (ltn rfl) ?_
          refine wl_yes rfl rfl ?_
          refine wl_val (r_move rfl) (ltn rfl) ?_
          refine wl_yes rfl rfl ?_
          refine wl_val (r_len Tryd.underlying22 rfl) (ltn rfl) ?_
          refine wl_yes rfl rfl ?_
          refine wl_val (r_gtr rfl rfl) (ltn rfl) ?_
          refine wl_val (r_pick_f rfl rfl) (ltn rfl) ?_
          refine wl_nil ?_
          refine wq_seq ?_
          refine wc_cond rfl (fun h5 => ?_) (fun h => by exfalso; (try simp only [beq_iff_eq, bne_iff_ne, ne_eq, decide_eq_true_eq, decide_eq_false_iff_not, beq_eq_false_iff_ne, bne_eq_false_iff_eq, Bool.not_eq_true', Bool.not_eq_false', Bool.not_eq_eq_eq_not, Bool.not_true, Bool.not_false, gt_iff_lt, ge_iff_le, Int.not_lt, Int.not_le] at h); first | contradiction | omega | (simp at h <;> omega))
          (try simp only [beq_iff_eq, bne_iff_ne, ne_eq, decide_eq_true_eq, decide_eq_false_iff_not, beq_eq_false_iff_ne, bne_eq_false_iff_eq, Bool.not_eq_true', Bool.not_eq_false', Bool.not_eq_eq_eq_not, Bool.not_true, Bool.not_false, gt_iff_lt, ge_iff_le, Int.not_lt, Int.not_le] at h5)
          refine wc_seq ?_
          refine wc_region ?_
          refine wl_val (r_move rfl) (ltn rfl) ?_
          refine wl_val (r_eql rfl rfl) (ltn rfl) ?_
          refine wl_val (r_assign rfl) (ltn rfl) ?_
          refine wl_nil ?_
          refine wq_seq ?_
          refine wc_ret ?_
          refine wq_then_ret ?_
          refine wq_end1 (.inl rfl) Tryd.results3 rfl ?_
          exact ⟨rfl, H6.base⟩
theorem splices_much (hT : Tabs w) (g : RdI w .i32 v l) (gx : RdI w .i32 tx text) (hl : l.length ≤ 1024) (hb : 0 ≤ f ∧ f ≤ t ∧ t ≤ l.length) (hm : 1024 < l.length - (t - f) + text.length) (hbx : text.length ≤ 140737488355328) :
    Ret Tryd.prog 3 #[v, .agg (opCells k f t tx a d0 i0)] w fun v w' => v = .bool true ∧ Below w.heap.size w w' := by
  have H := Holds.start w
  obtain ⟨a1, c1, hv1, _, _, _⟩ := g.open
  subst hv1
  obtain ⟨a2, c2, hv2, hc2, hc3, _⟩ := gx.open
  subst hv2
  refine ret_enter Tryd.func3 rfl Tryd.ntmps3 (Nat.le_of_ble_eq_true rfl) ?_
  dsimp only [slots0, Nat.reduceAdd]
  refine wc_seq ?_
  refine wc_region ?_
  refine wl_eff (e_box H rfl) (ltn rfl) ?_
  rintro _ w1 ⟨b1, rfl, H1⟩
  refine wl_val (r_assign rfl) (ltn rfl) ?_
  refine wl_nil ?_
  refine wq_seq ?_
  refine wc_seq ?_
  refine wc_region ?_
  refine wl_val (r_move rfl) (ltn rfl) ?_
  refine wl_eff (e_call (r_call rfl Tryd.func11 rfl rfl) (buf_new_ret H1 (FRdI.of_start g _) hl)) (ltn rfl) ?_
  rintro _ w2 ⟨p, rfl, H2⟩
  refine wl_val (r_move rfl) (ltn rfl) ?_
  refine wl_val (r_extract rfl rfl) (ltn rfl) ?_
  refine wl_val (r_extract rfl rfl) (ltn rfl) ?_
  refine wl_val (r_assign rfl) (ltn rfl) ?_
  refine wl_val (r_assign rfl) (ltn rfl) ?_
  refine wl_nil ?_
  refine wq_seq ?_
  refine wc_seq ?_
  refine wc_seq ?_
  refine wc_region ?_
  refine wl_val (r_move rfl) (ltn rfl) ?_
  refine wl_val (r_neq rfl rfl) (ltn rfl) ?_
  refine wl_split rfl (ltn rfl) (fun h => by exfalso; (try simp only [beq_iff_eq, bne_iff_ne, ne_eq, decide_eq_true_eq, decide_eq_false_iff_not, beq_eq_false_iff_ne, bne_eq_false_iff_eq, Bool.not_eq_true', Bool.not_eq_false', Bool.not_eq_eq_eq_not, Bool.not_true, Bool.not_false, gt_iff_lt, ge_iff_le, Int.not_lt, Int.not_le] at h); first | contradiction | omega | (simp at h <;> omega)) (fun h1 => ?_)
  (try simp only [beq_iff_eq, bne_iff_ne, ne_eq, decide_eq_true_eq, decide_eq_false_iff_not, beq_eq_false_iff_ne, bne_eq_false_iff_eq, Bool.not_eq_true', Bool.not_eq_false', Bool.not_eq_eq_eq_not, Bool.not_true, Bool.not_false, gt_iff_lt, ge_iff_le, Int.not_lt, Int.not_le] at h1)
  refine wl_yes rfl rfl ?_
  refine wl_eff (e_call (r_call rfl Tryd.func12 rfl rfl) (live_ret H2 hT)) (ltn rfl) ?_
  rintro _ w3 ⟨rfl, H3⟩
  refine wl_yes rfl rfl ?_
  refine wl_val (r_not rfl) (ltn rfl) ?_
  refine wl_val (r_pick_f rfl rfl) (ltn rfl) ?_
  refine wl_nil ?_
  refine wq_seq ?_
  refine wc_cond rfl (fun h => by exfalso; (try simp only [beq_iff_eq, bne_iff_ne, ne_eq, decide_eq_true_eq, decide_eq_false_iff_not, beq_eq_false_iff_ne, bne_eq_false_iff_eq, Bool.not_eq_true', Bool.not_eq_false', Bool.not_eq_eq_eq_not, Bool.not_true, Bool.not_false, gt_iff_lt, ge_iff_le, Int.not_lt, Int.not_le] at h); first | contradiction | omega | (simp at h <;> omega)) (fun h2 => ?_)
  (try simp only [beq_iff_eq, bne_iff_ne, ne_eq, decide_eq_true_eq, decide_eq_false_iff_not, beq_eq_false_iff_ne, bne_eq_false_iff_eq, Bool.not_eq_true', Bool.not_eq_false', Bool.not_eq_eq_eq_not, Bool.not_true, Bool.not_false, gt_iff_lt, ge_iff_le, Int.not_lt, Int.not_le] at h2)
  refine wc_skip ?_
  refine wq_seq ?_
  refine wc_seq ?_
  refine wc_region ?_
  refine wl_val (r_move rfl) (ltn rfl) ?_
  refine wl_val ((by first | exact r_field0 1 Tryd.underlying26 rfl rfl Tryd.sizeOf3 (by decide) rfl | exact r_field 1 Tryd.underlying26 rfl rfl Tryd.sizeOf3 (by decide) rfl)) (ltn rfl) ?_
  refine wl_val (r_load (plain_of Tryd.underlying3 rfl) rfl (cell_of_blk H3.swap.get.2 rfl)) (ltn rfl) ?_
  refine wl_val ((by first | exact r_field0 2 Tryd.underlying26 rfl rfl Tryd.sizeOf3 (by decide) rfl | exact r_field 2 Tryd.underlying26 rfl rfl Tryd.sizeOf3 (by decide) rfl)) (ltn rfl) ?_
  refine wl_val (r_load (plain_of Tryd.underlying3 rfl) rfl (cell_of_blk H3.swap.get.2 rfl)) (ltn rfl) ?_
  refine wl_val ((by first | exact r_field0 3 Tryd.underlying26 rfl rfl Tryd.sizeOf22 (by decide) rfl | exact r_field 3 Tryd.underlying26 rfl rfl Tryd.sizeOf22 (by decide) rfl)) (ltn rfl) ?_
  refine wl_val (r_load (plain_of Tryd.underlying22 rfl) rfl (cell_of_blk H3.swap.get.2 rfl)) (ltn rfl) ?_
  refine wl_eff (e_call (r_call rfl Tryd.func13 rfl rfl) (buf_replace_long H3 (FRdI.of_start gx _) hb hm)) (ltn rfl) ?_
  rintro _ w4 ⟨rfl, H4⟩
  refine wl_val (r_move rfl) (ltn rfl) ?_
  refine wl_val (r_extract rfl rfl) (ltn rfl) ?_
  refine wl_val (r_extract rfl rfl) (ltn rfl) ?_
  refine wl_eff (e_alloc H4 Tryd.zeroValue24) (ltn rfl) ?_
  rintro _ w5 ⟨b5, rfl, H5⟩
  refine wl_eff0 (e_store_whole (cs := edCells 0 (.slice none 0 0) (.slice none 0 0)) H5 Tryd.sizeOf24 rfl rfl rfl rfl (ed_ones rfl rfl)) ?_
  rintro _ w6 H6
  refine wl_val (r_assign rfl) (ltn rfl) ?_
  refine wl_nil ?_
  refine wq_seq ?_
  refine wc_seq ?_
  refine wc_seq ?_
  refine wc_region ?_
  refine wl_val ((by first | exact r_field0 1 Tryd.underlying26 rfl rfl Tryd.sizeOf3 (by decide) rfl | exact r_field 1 Tryd.underlying26 rfl rfl Tryd.sizeOf3 (by decide) rfl)) (ltn rfl) ?_
  refine wl_val (r_load (plain_of Tryd.underlying3 rfl) rfl (cell_of_blk H6.rot.get.2 rfl)) (ltn rfl) ?_
  refine wl_val (r_lss rfl rfl) (ltn rfl) ?_
  refine wl_split rfl (ltn rfl) (fun h3 => ?_) (fun h3 => ?_)
  · (try simp only [beq_iff_eq, bne_iff_ne, ne_eq, decide_eq_true_eq, decide_eq_false_iff_not, beq_eq_false_iff_ne, bne_eq_false_iff_eq, Bool.not_eq_true', Bool.not_eq_false', Bool.not_eq_eq_eq_not, Bool.not_true, Bool.not_false, gt_iff_lt, ge_iff_le, Int.not_lt, Int.not_le] at h3)
    try (exfalso; first | contradiction | omega)
    all_goals
      refine wl_no rfl rfl rfl (ltn rfl) ?_
      refine wl_no rfl rfl rfl (ltn rfl) ?_
      refine wl_no rfl rfl rfl (ltn rfl) ?_
      refine wl_no rfl rfl rfl (ltn rfl) ?_
      refine wl_no rfl rfl rfl (ltn rfl) ?_
      refine wl_val (r_pick_t rfl rfl) (ltn rfl) ?_
      refine wl_val (r_move rfl) (ltn rfl) ?_
      refine wl_no rfl rfl rfl (ltn rfl) ?_
      refine wl_no rfl rfl rfl (ltn rfl) ?_
      refine wl_no rfl rfl rfl (ltn rfl) ?_
      refine wl_no rfl rfl rfl (ltn rfl) ?_
      refine wl_no rfl rfl rfl (ltn rfl) ?_
      refine wl_val (r_pick_t rfl rfl) (ltn rfl) ?_
      refine wl_nil ?_
      refine wq_seq ?_
      refine wc_cond_t rfl ?_
      refine wc_seq ?_
      refine wc_region ?_
      refine wl_val (r_move rfl) (ltn rfl) ?_
      refine wl_val (r_eql rfl rfl) (ltn rfl) ?_
      refine wl_val (r_assign rfl) (ltn rfl) ?_
      refine wl_nil ?_
      refine wq_seq ?_
      refine wc_ret ?_
      refine wq_then_ret ?_
      refine wq_end1 (.inl rfl) Tryd.results3 rfl ?_
      exact ⟨rfl, H6.base⟩
  · (try simp only [beq_iff_eq, bne_iff_ne, ne_eq, decide_eq_true_eq, decide_eq_false_iff_not, beq_eq_false_iff_ne, bne_eq_false_iff_eq, Bool.not_eq_true', Bool.not_eq_false', Bool.not_eq_eq_eq_not, Bool.not_true, Bool.not_false, gt_iff_lt, ge_iff_le, Int.not_lt, Int.not_le] at h3)
    try (exfalso; first | contradiction | omega)
    all_goals
      refine wl_yes rfl rfl ?_
      refine wl_val ((by first | exact r_field0 2 Tryd.underlying26 rfl rfl Tryd.sizeOf3 (by decide) rfl | exact r_field 2 Tryd.underlying26 rfl rfl Tryd.sizeOf3 (by decide) rfl)) (ltn rfl) ?_
      refine wl_yes rfl rfl ?_
      refine wl_val (r_load (plain_of Tryd.underlying3 rfl) rfl (cell_of_blk H6.rot.get.2 rfl)) (ltn rfl) ?_
      refine wl_yes rfl rfl ?_
      refine wl_val ((by first | exact r_field0 1 Tryd.underlying26 rfl rfl Tryd.sizeOf3 (by decide) rfl | exact r_field 1 Tryd.underlying26 rfl rfl Tryd.sizeOf3 (by decide) rfl)) (ltn rfl) ?_
      refine wl_yes rfl rfl ?_
      refine wl_val (r_load (plain_of Tryd.underlying3 rfl) rfl (cell_of_blk H6.rot.get.2 rfl)) (ltn rfl) ?_
      refine wl_yes rfl rfl ?_
      refine wl_val (r_lss rfl rfl) (ltn rfl) ?_
      refine wl_val (r_pick_f rfl rfl) (ltn rfl) ?_
      refine wl_split rfl (ltn rfl) (fun h4 => ?_) (fun h4 => ?_)
      · (try simp only [beq_iff_eq, bne_iff_ne, ne_eq, decide_eq_true_eq, decide_eq_false_iff_not, beq_eq_false_iff_ne, bne_eq_false_iff_eq, Bool.not_eq_true', Bool.not_eq_false', Bool.not_eq_eq_eq_not, Bool.not_true, Bool.not_false, gt_iff_lt, ge_iff_le, Int.not_lt, Int.not_le] at h4)
        try (exfalso; first | contradiction | omega)
        all_goals
          refine wl_no rfl rfl rfl (ltn rfl) ?_
          refine wl_no rfl rfl rfl (ltn rfl) ?_
          refine wl_no rfl rfl rfl (ltn rfl) ?_
          refine wl_no rfl rfl rfl (ltn rfl) ?_
          refine wl_no rfl rfl rfl (ltn rfl) ?_
          refine wl_val (r_pick_t rfl rfl) (ltn rfl) ?_
          refine wl_nil ?_
          refine wq_seq ?_
          refine wc_cond_t rfl ?_
          refine wc_seq ?_
          refine wc_region ?_
          refine wl_val (r_move rfl) (ltn rfl) ?_
          refine wl_val (r_eql rfl rfl) (ltn rfl) ?_
          refine wl_val (r_assign rfl) (ltn rfl) ?_
          refine wl_nil ?_
          refine wq_seq ?_
          refine wc_ret ?_
          refine wq_then_ret ?_
          refine wq_end1 (.inl rfl) Tryd.results3 rfl ?_
          exact ⟨rfl, H6.base⟩
      · (try simp only [beq_iff_eq, bne_iff_ne, ne_eq, decide_eq_true_eq, decide_eq_false_iff_not, beq_eq_false_iff_ne, bne_eq_false_iff_eq, Bool.not_eq_true', Bool.not_eq_false', Bool.not_eq_eq_eq_not, Bool.not_true, Bool.not_false, gt_iff_lt, ge_iff_le, Int.not_lt, Int.not_le] at h4)
        try (exfalso; first | contradiction | omega)
        all_goals
          refine wl_yes rfl rfl ?_
          refine wl_val ((by first | exact r_field0 2 Tryd.underlying26 rfl rfl Tryd.sizeOf3 (by decide) rfl | exact r_field 2 Tryd.underlying26 rfl rfl Tryd.sizeOf3 (by decide) rfl)) (ltn rfl) ?_
          refine wl_yes rfl rfl ?_
          refine wl_val (r_load (plain_of Tryd.underlying3 rfl) rfl (cell_of_blk H6.rot.get.2 rfl)) (ltn rfl) ?_
          refine wl_yes rfl rfl ?_
          refine wl_val (r_move rfl) (ltn rfl) ?_
          refine wl_yes rfl rfl ?_
          refine wl_val (r_len Tryd.underlying22 rfl) (ltn rfl) ?_
          refine wl_yes rfl rfl ?_
          refine wl_val (r_gtr rfl rfl) (ltn rfl) ?_
          refine wl_val (r_pick_f rfl rfl) (ltn rfl) ?_
          refine wl_nil ?_
          refine wq_seq ?_
          refine wc_cond rfl (fun h => by exfalso; (try simp only [beq_iff_eq, bne_iff_ne, ne_eq, decide_eq_true_eq, decide_eq_false_iff_not, beq_eq_false_iff_ne, bne_eq_false_iff_eq, Bool.not_eq_true', Bool.not_eq_false', Bool.not_eq_eq_eq_not, Bool.not_true, Bool.not_false, gt_iff_lt, ge_iff_le, Int.not_lt, Int.not_le] at h); first | contradiction | omega | (simp at h <;> omega)) (fun h5 => ?_)
          (try simp only [beq_iff_eq, bne_iff_ne, ne_eq, decide_eq_true_eq, decide_eq_false_iff_not, beq_eq_false_iff_ne, bne_eq_false_iff_eq, Bool.not_eq_true', Bool.not_eq_false', Bool.not_eq_eq_eq_not, Bool.not_true, Bool.not_false, gt_iff_lt, ge_iff_le, Int.not_lt, Int.not_le] at h5)
          refine wc_skip ?_
          refine wq_seq ?_
          refine wc_seq ?_
          refine wc_seq ?_
          refine wc_region ?_
          refine wl_val (r_move rfl) (ltn rfl) ?_
          refine wl_val (r_len Tryd.underlying22 rfl) (ltn rfl) ?_
          refine wl_val ((by first | exact r_field0 2 Tryd.underlying26 rfl rfl Tryd.sizeOf3 (by decide) rfl | exact r_field 2 Tryd.underlying26 rfl rfl Tryd.sizeOf3 (by decide) rfl)) (ltn rfl) ?_
          refine wl_val (r_load (plain_of Tryd.underlying3 rfl) rfl (cell_of_blk H6.rot.get.2 rfl)) (ltn rfl) ?_
          refine wl_val ((by first | exact r_field0 1 Tryd.underlying26 rfl rfl Tryd.sizeOf3 (by decide) rfl | exact r_field 1 Tryd.underlying26 rfl rfl Tryd.sizeOf3 (by decide) rfl)) (ltn rfl) ?_
          refine wl_val (r_load (plain_of Tryd.underlying3 rfl) rfl (cell_of_blk H6.rot.get.2 rfl)) (ltn rfl) ?_
          refine wl_val (r_sub rfl rfl (by omega)) (ltn rfl) ?_
          refine wl_val (r_sub rfl rfl (by omega)) (ltn rfl) ?_
          refine wl_val ((by first | exact r_field0 3 Tryd.underlying26 rfl rfl Tryd.sizeOf22 (by decide) rfl | exact r_field 3 Tryd.underlying26 rfl rfl Tryd.sizeOf22 (by decide) rfl)) (ltn rfl) ?_
          refine wl_val (r_load (plain_of Tryd.underlying22 rfl) rfl (cell_of_blk H6.rot.get.2 rfl)) (ltn rfl) ?_
          refine wl_val (r_len Tryd.underlying22 rfl) (ltn rfl) ?_
          refine wl_val (r_add rfl rfl (by omega)) (ltn rfl) ?_
          refine wl_val (r_gtr rfl rfl) (ltn rfl) ?_
          refine wl_nil ?_
          refine wq_seq ?_
          refine wc_cond rfl (fun h6 => ?_) (fun h => by exfalso; (try simp only [beq_iff_eq, bne_iff_ne, ne_eq, decide_eq_true_eq, decide_eq_false_iff_not, beq_eq_false_iff_ne, bne_eq_false_iff_eq, Bool.not_eq_true', Bool.not_eq_false', Bool.not_eq_eq_eq_not, Bool.not_true, Bool.not_false, gt_iff_lt, ge_iff_le, Int.not_lt, Int.not_le] at h); first | contradiction | omega | (simp at h <;> omega))
          (try simp only [beq_iff_eq, bne_iff_ne, ne_eq, decide_eq_true_eq, decide_eq_false_iff_not, beq_eq_false_iff_ne, bne_eq_false_iff_eq, Bool.not_eq_true', Bool.not_eq_false', Bool.not_eq_eq_eq_not, Bool.not_true, Bool.not_false, gt_iff_lt, ge_iff_le, Int.not_lt, Int.not_le] at h6)
          refine wc_seq ?_
          refine wc_region ?_
          refine wl_val (r_move rfl) (ltn rfl) ?_
          refine wl_val (r_eql rfl rfl) (ltn rfl) ?_
          refine wl_val (r_assign rfl) (ltn rfl) ?_
          refine wl_nil ?_
          refine wq_seq ?_
          refine wc_ret ?_
          refine wq_then_ret ?_
          refine wq_end1 (.inl rfl) Tryd.results3 rfl ?_
          exact ⟨rfl, H6.base⟩
theorem splices_ok {i j : Nat} (hT : Tabs w) (g : RdI w .i32 v l) (gx : RdI w .i32 tx text) (hl : l.length ≤ 1024) (hb : i ≤ j ∧ j ≤ l.length) (hm : (l.length : Int) - ((j : Int) - i) + text.length ≤ 1024) :
    Ret Tryd.prog 3 #[v, .agg (opCells k i j tx a d0 i0)] w fun v w' => v = .bool true ∧ Below w.heap.size w w' := by
  have H := Holds.start w
  obtain ⟨a1, c1, hv1, hc1, hc1', _⟩ := g.open
  subst hv1
  obtain ⟨a2, c2, hv2, hc2, hc3, _⟩ := gx.open
  subst hv2
  refine ret_enter Tryd.func3 rfl Tryd.ntmps3 (Nat.le_of_ble_eq_true rfl) ?_
  dsimp only [slots0, Nat.reduceAdd]
  refine wc_seq ?_
  refine wc_region ?_
  refine wl_eff (e_box H rfl) (ltn rfl) ?_
  rintro _ w1 ⟨b1, rfl, H1⟩
  refine wl_val (r_assign rfl) (ltn rfl) ?_
  refine wl_nil ?_
  refine wq_seq ?_
  refine wc_seq ?_
  refine wc_region ?_
  refine wl_val (r_move rfl) (ltn rfl) ?_
  refine wl_eff (e_call (r_call rfl Tryd.func11 rfl rfl) (buf_new_ret H1 (FRdI.of_start g _) hl)) (ltn rfl) ?_
  rintro _ w2 ⟨p, rfl, H2⟩
  refine wl_val (r_move rfl) (ltn rfl) ?_
  refine wl_val (r_extract rfl rfl) (ltn rfl) ?_
  refine wl_val (r_extract rfl rfl) (ltn rfl) ?_
  refine wl_val (r_assign rfl) (ltn rfl) ?_
  refine wl_val (r_assign rfl) (ltn rfl) ?_
  refine wl_nil ?_
  refine wq_seq ?_
  refine wc_seq ?_
  refine wc_seq ?_
  refine wc_region ?_
  refine wl_val (r_move rfl) (ltn rfl) ?_
  refine wl_val (r_neq rfl rfl) (ltn rfl) ?_
  refine wl_split rfl (ltn rfl) (fun h => by exfalso; (try simp only [beq_iff_eq, bne_iff_ne, ne_eq, decide_eq_true_eq, decide_eq_false_iff_not, beq_eq_false_iff_ne, bne_eq_false_iff_eq, Bool.not_eq_true', Bool.not_eq_false', Bool.not_eq_eq_eq_not, Bool.not_true, Bool.not_false, gt_iff_lt, ge_iff_le, Int.not_lt, Int.not_le] at h); first | contradiction | omega | (simp at h <;> omega)) (fun h1 => ?_)
  (try simp only [beq_iff_eq, bne_iff_ne, ne_eq, decide_eq_true_eq, decide_eq_false_iff_not, beq_eq_false_iff_ne, bne_eq_false_iff_eq, Bool.not_eq_true', Bool.not_eq_false', Bool.not_eq_eq_eq_not, Bool.not_true, Bool.not_false, gt_iff_lt, ge_iff_le, Int.not_lt, Int.not_le] at h1)
  refine wl_yes rfl rfl ?_
  refine wl_eff (e_call (r_call rfl Tryd.func12 rfl rfl) (live_ret H2 hT)) (ltn rfl) ?_
  rintro _ w3 ⟨rfl, H3⟩
  refine wl_yes rfl rfl ?_
  refine wl_val (r_not rfl) (ltn rfl) ?_
  refine wl_val (r_pick_f rfl rfl) (ltn rfl) ?_
  refine wl_nil ?_
  refine wq_seq ?_
  refine wc_cond rfl (fun h => by exfalso; (try simp only [beq_iff_eq, bne_iff_ne, ne_eq, decide_eq_true_eq, decide_eq_false_iff_not, beq_eq_false_iff_ne, bne_eq_false_iff_eq, Bool.not_eq_true', Bool.not_eq_false', Bool.not_eq_eq_eq_not, Bool.not_true, Bool.not_false, gt_iff_lt, ge_iff_le, Int.not_lt, Int.not_le] at h); first | contradiction | omega | (simp at h <;> omega)) (fun h2 => ?_)
  (try simp only [beq_iff_eq, bne_iff_ne, ne_eq, decide_eq_true_eq, decide_eq_false_iff_not, beq_eq_false_iff_ne, bne_eq_false_iff_eq, Bool.not_eq_true', Bool.not_eq_false', Bool.not_eq_eq_eq_not, Bool.not_true, Bool.not_false, gt_iff_lt, ge_iff_le, Int.not_lt, Int.not_le] at h2)
  refine wc_skip ?_
  refine wq_seq ?_
  refine wc_seq ?_
  refine wc_region ?_
  refine wl_val (r_move rfl) (ltn rfl) ?_
  refine wl_val ((by first | exact r_field0 1 Tryd.underlying26 rfl rfl Tryd.sizeOf3 (by decide) rfl | exact r_field 1 Tryd.underlying26 rfl rfl Tryd.sizeOf3 (by decide) rfl)) (ltn rfl) ?_
  refine wl_val (r_load (plain_of Tryd.underlying3 rfl) rfl (cell_of_blk H3.swap.get.2 rfl)) (ltn rfl) ?_
  refine wl_val ((by first | exact r_field0 2 Tryd.underlying26 rfl rfl Tryd.sizeOf3 (by decide) rfl | exact r_field 2 Tryd.underlying26 rfl rfl Tryd.sizeOf3 (by decide) rfl)) (ltn rfl) ?_
  refine wl_val (r_load (plain_of Tryd.underlying3 rfl) rfl (cell_of_blk H3.swap.get.2 rfl)) (ltn rfl) ?_
  refine wl_val ((by first | exact r_field0 3 Tryd.underlying26 rfl rfl Tryd.sizeOf22 (by decide) rfl | exact r_field 3 Tryd.underlying26 rfl rfl Tryd.sizeOf22 (by decide) rfl)) (ltn rfl) ?_
  refine wl_val (r_load (plain_of Tryd.underlying22 rfl) rfl (cell_of_blk H3.swap.get.2 rfl)) (ltn rfl) ?_
  refine wl_eff (e_call (r_call rfl Tryd.func13 rfl rfl) (buf_replace_ok (i := i) (j := j) H3 (FRdI.of_start gx _) hb hm)) (ltn rfl) ?_
  rintro _ w4 ⟨d, s, rfl, H4⟩
  refine wl_val (r_move rfl) (ltn rfl) ?_
  refine wl_val (r_extract rfl rfl) (ltn rfl) ?_
  refine wl_val (r_extract rfl rfl) (ltn rfl) ?_
  refine wl_eff (e_alloc H4 Tryd.zeroValue24) (ltn rfl) ?_
  rintro _ w5 ⟨b5, rfl, H5⟩
  refine wl_eff0 (e_store_whole (cs := edCells i d s) H5 Tryd.sizeOf24 rfl rfl rfl rfl (ed_ones H5.swap.row_rd.one H5.rot.row_rd.one)) ?_
  rintro _ w6 H6
  refine wl_val (r_assign rfl) (ltn rfl) ?_
  refine wl_nil ?_
  refine wq_seq ?_
  refine wc_seq ?_
  refine wc_seq ?_
  refine wc_region ?_
  refine wl_val ((by first | exact r_field0 1 Tryd.underlying26 rfl rfl Tryd.sizeOf3 (by decide) rfl | exact r_field 1 Tryd.underlying26 rfl rfl Tryd.sizeOf3 (by decide) rfl)) (ltn rfl) ?_
  refine wl_val (r_load (plain_of Tryd.underlying3 rfl) rfl (cell_of_blk H6.r5.get.2 rfl)) (ltn rfl) ?_
  refine wl_val (r_lss rfl rfl) (ltn rfl) ?_
  refine wl_split rfl (ltn rfl) (fun h3 => ?_) (fun h3 => ?_)
  · (try simp only [beq_iff_eq, bne_iff_ne, ne_eq, decide_eq_true_eq, decide_eq_false_iff_not, beq_eq_false_iff_ne, bne_eq_false_iff_eq, Bool.not_eq_true', Bool.not_eq_false', Bool.not_eq_eq_eq_not, Bool.not_true, Bool.not_false, gt_iff_lt, ge_iff_le, Int.not_lt, Int.not_le] at h3)
    try (exfalso; first | contradiction | omega)
    all_goals
      refine wl_no rfl rfl rfl (ltn rfl) ?_
      refine wl_no rfl rfl rfl (ltn rfl) ?_
      refine wl_no rfl rfl rfl (ltn rfl) ?_
      refine wl_no rfl rfl rfl (ltn rfl) ?_
      refine wl_no rfl rfl rfl (ltn rfl) ?_
      refine wl_val (r_pick_t rfl rfl) (ltn rfl) ?_
      refine wl_val (r_move rfl) (ltn rfl) ?_
      refine wl_no rfl rfl rfl (ltn rfl) ?_
      refine wl_no rfl rfl rfl (ltn rfl) ?_
      refine wl_no rfl rfl rfl (ltn rfl) ?_
      refine wl_no rfl rfl rfl (ltn rfl) ?_
      refine wl_no rfl rfl rfl (ltn rfl) ?_
      refine wl_val (r_pick_t rfl rfl) (ltn rfl) ?_
      refine wl_nil ?_
      refine wq_seq ?_
      refine wc_cond_t rfl ?_
      refine wc_seq ?_
      refine wc_region ?_
      refine wl_val (r_move rfl) (ltn rfl) ?_
      refine wl_val (r_eql rfl rfl) (ltn rfl) ?_
      refine wl_val (r_assign rfl) (ltn rfl) ?_
      refine wl_nil ?_
      refine wq_seq ?_
      refine wc_ret ?_
      refine wq_then_ret ?_
      refine wq_end1 (.inl rfl) Tryd.results3 rfl ?_
      exact ⟨rfl, H6.base⟩
  · (try simp only [beq_iff_eq, bne_iff_ne, ne_eq, decide_eq_true_eq, decide_eq_false_iff_not, beq_eq_false_iff_ne, bne_eq_false_iff_eq, Bool.not_eq_true', Bool.not_eq_false', Bool.not_eq_eq_eq_not, Bool.not_true, Bool.not_false, gt_iff_lt, ge_iff_le, Int.not_lt, Int.not_le] at h3)
    try (exfalso; first | contradiction | omega)
    all_goals
      refine wl_yes rfl rfl ?_
      refine wl_val ((by first | exact r_field0 2 Tryd.underlying26 rfl rfl Tryd.sizeOf3 (by decide) rfl | exact r_field 2 Tryd.underlying26 rfl rfl Tryd.sizeOf3 (by decide) rfl)) (ltn rfl) ?_
      refine wl_yes rfl rfl ?_
      refine wl_val (r_load (plain_of Tryd.underlying3 rfl) rfl (cell_of_blk H6.r5.get.2 rfl)) (ltn rfl) ?_
      refine wl_yes rfl rfl ?_
      refine wl_val ((by first | exact r_field0 1 Tryd.underlying26 rfl rfl Tryd.sizeOf3 (by decide) rfl | exact r_field 1 Tryd.underlying26 rfl rfl Tryd.sizeOf3 (by decide) rfl)) (ltn rfl) ?_
      refine wl_yes rfl rfl ?_
      refine wl_val (r_load (plain_of Tryd.underlying3 rfl) rfl (cell_of_blk H6.r5.get.2 rfl)) (ltn rfl) ?_
      refine wl_yes rfl rfl ?_
      refine wl_val (r_lss rfl rfl) (ltn rfl) ?_
      refine wl_val (r_pick_f rfl rfl) (ltn rfl) ?_
      refine wl_split rfl (ltn rfl) (fun h4 => ?_) (fun h4 => ?_)
      · (try simp only [beq_iff_eq, bne_iff_ne, ne_eq, decide_eq_true_eq, decide_eq_false_iff_not, beq_eq_false_iff_ne, bne_eq_false_iff_eq, Bool.not_eq_true', Bool.not_eq_false', Bool.not_eq_eq_eq_not, Bool.not_true, Bool.not_false, gt_iff_lt, ge_iff_le, Int.not_lt, Int.not_le] at h4)
        try (exfalso; first | contradiction | omega)
        all_goals
          refine wl_no rfl rfl rfl (ltn rfl) ?_
          refine wl_no rfl rfl rfl (ltn rfl) ?_
          refine wl_no rfl rfl rfl (ltn rfl) ?_
          refine wl_no rfl rfl rfl (ltn rfl) ?_
          refine wl_no rfl rfl rfl (ltn rfl) ?_
          refine wl_val (r_pick_t rfl rfl) (ltn rfl) ?_
          refine wl_nil ?_
          refine wq_seq ?_
          refine wc_cond_t rfl ?_
          refine wc_seq ?_
          refine wc_region ?_
          refine wl_val (r_move rfl) (ltn rfl) ?_
          refine wl_val (r_eql rfl rfl) (ltn rfl) ?_
          refine wl_val (r_assign rfl) (ltn rfl) ?_
          refine wl_nil ?_
          refine wq_seq ?_
          refine wc_ret ?_
          refine wq_then_ret ?_
          refine wq_end1 (.inl rfl) Tryd.results3 rfl ?_
          exact ⟨rfl, H6.base⟩
      · (try simp only [beq_iff_eq, bne_iff_ne, ne_eq, decide_eq_true_eq, decide_eq_false_iff_not, beq_eq_false_iff_ne, bne_eq_false_iff_eq, Bool.not_eq_true', Bool.not_eq_false', Bool.not_eq_eq_eq_not, Bool.not_true, Bool.not_false, gt_iff_lt, ge_iff_le, Int.not_lt, Int.not_le] at h4)
        try (exfalso; first | contradiction | omega)
        all_goals
          refine wl_yes rfl rfl ?_
          refine wl_val ((by first | exact r_field0 2 Tryd.underlying26 rfl rfl Tryd.sizeOf3 (by decide) rfl | exact r_field 2 Tryd.underlying26 rfl rfl Tryd.sizeOf3 (by decide) rfl)) (ltn rfl) ?_
          refine wl_yes rfl rfl ?_
          refine wl_val (r_load (plain_of Tryd.underlying3 rfl) rfl (cell_of_blk H6.r5.get.2 rfl)) (ltn rfl) ?_
          refine wl_yes rfl rfl ?_
          refine wl_val (r_move rfl) (ltn rfl) ?_
          refine wl_yes rfl rfl ?_
          refine wl_val (r_len Tryd.underlying22 rfl) (ltn rfl) ?_
          refine wl_yes rfl rfl ?_
          refine wl_val (r_gtr rfl rfl) (ltn rfl) ?_
          refine wl_val (r_pick_f rfl rfl) (ltn rfl) ?_
          refine wl_nil ?_
          refine wq_seq ?_
          refine wc_cond rfl (fun h => by exfalso; (try simp only [beq_iff_eq, bne_iff_ne, ne_eq, decide_eq_true_eq, decide_eq_false_iff_not, beq_eq_false_iff_ne, bne_eq_false_iff_eq, Bool.not_eq_true', Bool.not_eq_false', Bool.not_eq_eq_eq_not, Bool.not_true, Bool.not_false, gt_iff_lt, ge_iff_le, Int.not_lt, Int.not_le] at h); first | contradiction | omega | (simp at h <;> omega)) (fun h5 => ?_)
          (try simp only [beq_iff_eq, bne_iff_ne, ne_eq, decide_eq_true_eq, decide_eq_false_iff_not, beq_eq_false_iff_ne, bne_eq_false_iff_eq, Bool.not_eq_true', Bool.not_eq_false', Bool.not_eq_eq_eq_not, Bool.not_true, Bool.not_false, gt_iff_lt, ge_iff_le, Int.not_lt, Int.not_le] at h5)
          refine wc_skip ?_
          refine wq_seq ?_
          refine wc_seq ?_
          refine wc_seq ?_
          refine wc_region ?_
          refine wl_val (r_move rfl) (ltn rfl) ?_
          refine wl_val (r_len Tryd.underlying22 rfl) (ltn rfl) ?_
          refine wl_val ((by first | exact r_field0 2 Tryd.underlying26 rfl rfl Tryd.sizeOf3 (by decide) rfl | exact r_field 2 Tryd.underlying26 rfl rfl Tryd.sizeOf3 (by decide) rfl)) (ltn rfl) ?_
          refine wl_val (r_load (plain_of Tryd.underlying3 rfl) rfl (cell_of_blk H6.r5.get.2 rfl)) (ltn rfl) ?_
          refine wl_val ((by first | exact r_field0 1 Tryd.underlying26 rfl rfl Tryd.sizeOf3 (by decide) rfl | exact r_field 1 Tryd.underlying26 rfl rfl Tryd.sizeOf3 (by decide) rfl)) (ltn rfl) ?_
          refine wl_val (r_load (plain_of Tryd.underlying3 rfl) rfl (cell_of_blk H6.r5.get.2 rfl)) (ltn rfl) ?_
          refine wl_val (r_sub rfl rfl (by omega)) (ltn rfl) ?_
          refine wl_val (r_sub rfl rfl (by omega)) (ltn rfl) ?_
          refine wl_val ((by first | exact r_field0 3 Tryd.underlying26 rfl rfl Tryd.sizeOf22 (by decide) rfl | exact r_field 3 Tryd.underlying26 rfl rfl Tryd.sizeOf22 (by decide) rfl)) (ltn rfl) ?_
          refine wl_val (r_load (plain_of Tryd.underlying22 rfl) rfl (cell_of_blk H6.r5.get.2 rfl)) (ltn rfl) ?_
          refine wl_val (r_len Tryd.underlying22 rfl) (ltn rfl) ?_
          refine wl_val (r_add rfl rfl (by omega)) (ltn rfl) ?_
          refine wl_val (r_gtr rfl rfl) (ltn rfl) ?_
          refine wl_nil ?_
          refine wq_seq ?_
          refine wc_cond rfl (fun h => by exfalso; (try simp only [beq_iff_eq, bne_iff_ne, ne_eq, decide_eq_true_eq, decide_eq_false_iff_not, beq_eq_false_iff_ne, bne_eq_false_iff_eq, Bool.not_eq_true', Bool.not_eq_false', Bool.not_eq_eq_eq_not, Bool.not_true, Bool.not_false, gt_iff_lt, ge_iff_le, Int.not_lt, Int.not_le] at h); first | contradiction | omega | (simp at h <;> omega)) (fun h6 => ?_)
          (try simp only [beq_iff_eq, bne_iff_ne, ne_eq, decide_eq_true_eq, decide_eq_false_iff_not, beq_eq_false_iff_ne, bne_eq_false_iff_eq, Bool.not_eq_true', Bool.not_eq_false', Bool.not_eq_eq_eq_not, Bool.not_true, Bool.not_false, gt_iff_lt, ge_iff_le, Int.not_lt, Int.not_le] at h6)
          refine wc_skip ?_
          refine wq_seq ?_
          refine wc_seq ?_
          refine wd_begin (n := 15) [0, 1, 2, 3, 4, 5, 6, 7, 8, 9, 10, 11, 12, 13, 14] (fun W => W.heap[b1]? = some (.cells (opCells k i j (.slice a2 text.length c2) a d0 i0) 26 (0, 0))) (by kernel_rfl) (by kernel_rfl) rfl ?_
          have hS0 : (fun W => W.heap[b1]? = some (.cells (opCells k i j (.slice a2 text.length c2) a d0 i0) 26 (0, 0))) (w6.drew) := H6.r5.get.2
          have H9d := H6.drew
          refine wd_takeT 1 rfl (by kernel_rfl) (by kernel_rfl) hS0 (fun _ => r_move rfl) (ltn rfl) ?_
          refine wd_takeT 2 rfl (by kernel_rfl) (by kernel_rfl) hS0 (fun _ => (by first | exact r_field0 1 Tryd.underlying26 rfl rfl Tryd.sizeOf3 (by decide) rfl | exact r_field 1 Tryd.underlying26 rfl rfl Tryd.sizeOf3 (by decide) rfl)) (ltn rfl) ?_
          refine wd_take 3 rfl (by kernel_rfl) (by kernel_rfl) hS0 (by decide) (fun W hW => r_load (plain_of Tryd.underlying3 rfl) rfl (cell_of_blk hW rfl)) (ltn rfl) ?_
          refine wd_takeT 4 rfl (by kernel_rfl) (by kernel_rfl) hS0 (fun _ => r_slice Tryd.underlying22 Tryd.sizeOf21 rfl rfl rfl (by omega)) (ltn rfl) ?_
          refine wd_takeT 6 rfl (by kernel_rfl) (by kernel_rfl) hS0 (fun _ => (by first | exact r_field0 3 Tryd.underlying26 rfl rfl Tryd.sizeOf22 (by decide) rfl | exact r_field 3 Tryd.underlying26 rfl rfl Tryd.sizeOf22 (by decide) rfl)) (ltn rfl) ?_
          refine wd_take 7 rfl (by kernel_rfl) (by kernel_rfl) hS0 (by decide) (fun W hW => r_load (plain_of Tryd.underlying22 rfl) rfl (cell_of_blk hW rfl)) (ltn rfl) ?_
          refine wd_takeT 9 rfl (by kernel_rfl) (by kernel_rfl) hS0 (fun _ => r_move rfl) (ltn rfl) ?_
          refine wd_takeT 10 rfl (by kernel_rfl) (by kernel_rfl) hS0 (fun _ => (by first | exact r_field0 2 Tryd.underlying26 rfl rfl Tryd.sizeOf3 (by decide) rfl | exact r_field 2 Tryd.underlying26 rfl rfl Tryd.sizeOf3 (by decide) rfl)) (ltn rfl) ?_
          refine wd_take 11 rfl (by kernel_rfl) (by kernel_rfl) hS0 (by decide) (fun W hW => r_load (plain_of Tryd.underlying3 rfl) rfl (cell_of_blk hW rfl)) (ltn rfl) ?_
          refine wd_takeT 12 rfl (by kernel_rfl) (by kernel_rfl) hS0 (fun _ => r_slice Tryd.underlying22 Tryd.sizeOf21 rfl rfl rfl (by omega)) (ltn rfl) ?_
          refine wd_eff 0 rfl (by kernel_rfl) (e_lit_row (vs := []) H9d Tryd.underlying22 Tryd.sizeOf21 Tryd.zeroValue21 rfl rfl rfl (by decide) (by simp)) (ltn rfl) ?_
          rintro _ w7 H7
          have hS7 : (fun W => W.heap[b1]? = some (.cells (opCells k i j (.slice a2 text.length c2) a d0 i0) 26 (0, 0))) w7 := H7.r6.get.2
          refine keepS hS7 ?_
          refine wd_eff 5 rfl (by kernel_rfl) (e_append_ints (l := []) H7 (Holds.rd H7 (RdI.upto g (j := i) (by omega))) Tryd.underlying22 info_i32 rfl rfl (by simp; omega) (by simp; omega)) (ltn rfl) ?_
          rintro u1 w8 H8
          have hS8 : (fun W => W.heap[b1]? = some (.cells (opCells k i j (.slice a2 text.length c2) a d0 i0) 26 (0, 0))) w8 := H8.r6.get.2
          refine keepS hS8 ?_
          refine wd_eff 8 rfl (by kernel_rfl) (e_append_ints H8 (Holds.rd H8 gx) Tryd.underlying22 info_i32 rfl rfl (by simp; omega) (by simp; omega)) (ltn rfl) ?_
          rintro u2 w9 H9
          have hS9 : (fun W => W.heap[b1]? = some (.cells (opCells k i j (.slice a2 text.length c2) a d0 i0) 26 (0, 0))) w9 := H9.r6.get.2
          refine keepS hS9 ?_
          refine wd_eff 13 rfl (by kernel_rfl) (e_append_ints H9 (Holds.rd H9 (RdI.from g (i := j) (by omega))) Tryd.underlying22 info_i32 rfl rfl (by simp; omega) (by simp; omega)) (ltn rfl) ?_
          rintro u3 w10 H10
          have hS10 : (fun W => W.heap[b1]? = some (.cells (opCells k i j (.slice a2 text.length c2) a d0 i0) 26 (0, 0))) w10 := H10.r6.get.2
          refine keepS hS10 ?_
          refine wd_takeT 14 rfl (by kernel_rfl) (by kernel_rfl) hS10 (fun _ => r_assign rfl) (ltn rfl) ?_
          refine wd_done (by kernel_rfl) ?_
          refine wq_seq ?_
          refine wc_seq ?_
          refine wd_begin (n := 34) [0, 1, 2, 3, 4, 5, 6, 7, 8, 9, 10, 11, 12, 13, 14, 15, 16, 17, 18, 19, 20, 21, 22, 23, 24, 25, 26, 27, 28, 29, 30, 31, 32, 33] (fun W => W.heap[b5]? = some (.cells (edCells i d s) 24 (0, 0)) ∧ W.heap[b1]? = some (.cells (opCells k i j (.slice a2 text.length c2) a d0 i0) 26 (0, 0))) (by kernel_rfl) (by kernel_rfl) rfl ?_
          have hS0 : (fun W => W.heap[b5]? = some (.cells (edCells i d s) 24 (0, 0)) ∧ W.heap[b1]? = some (.cells (opCells k i j (.slice a2 text.length c2) a d0 i0) 26 (0, 0))) (w10.drew) := ⟨H10.swap.get.2, H10.r6.get.2⟩
          have H10d := H10.drew
          refine wd_takeT 0 rfl (by kernel_rfl) (by kernel_rfl) hS0 (fun _ => r_move rfl) (ltn rfl) ?_
          refine wd_takeT 1 rfl (by kernel_rfl) (by kernel_rfl) hS0 (fun _ => r_eql rfl rfl) (ltn rfl) ?_
          refine wd_split 2 rfl rfl (by kernel_rfl) (by kernel_rfl) hS0 (ltn rfl) (fun h7 => ?_) (fun h => by exfalso; (try simp only [beq_iff_eq, bne_iff_ne, ne_eq, decide_eq_true_eq, decide_eq_false_iff_not, beq_eq_false_iff_ne, bne_eq_false_iff_eq, Bool.not_eq_true', Bool.not_eq_false', Bool.not_eq_eq_eq_not, Bool.not_true, Bool.not_false, gt_iff_lt, ge_iff_le, Int.not_lt, Int.not_le] at h); first | contradiction | omega | (simp at h <;> omega))
          (try simp only [beq_iff_eq, bne_iff_ne, ne_eq, decide_eq_true_eq, decide_eq_false_iff_not, beq_eq_false_iff_ne, bne_eq_false_iff_eq, Bool.not_eq_true', Bool.not_eq_false', Bool.not_eq_eq_eq_not, Bool.not_true, Bool.not_false, gt_iff_lt, ge_iff_le, Int.not_lt, Int.not_le] at h7)
          refine wd_takeT_yes 3 rfl rfl rfl (by kernel_rfl) (by kernel_rfl) hS0 (fun _ => r_move rfl) (ltn rfl) ?_
          refine wd_takeT_yes 5 rfl rfl rfl (by kernel_rfl) (by kernel_rfl) hS0 (fun _ => r_move rfl) (ltn rfl) ?_
          refine wd_eff_yes 4 rfl rfl rfl (by kernel_rfl) (e_call (r_call rfl Tryd.func15 rfl rfl) (buf_text_ret H10d.r5)) (ltn rfl) ?_
          rintro y w11 H11
          have hS11 : (fun W => W.heap[b5]? = some (.cells (edCells i d s) 24 (0, 0)) ∧ W.heap[b1]? = some (.cells (opCells k i j (.slice a2 text.length c2) a d0 i0) 26 (0, 0))) w11 := ⟨H11.r4.get.2, H11.right.r6.get.2⟩
          refine keepS hS11 ?_
          refine wd_eff_yes 6 rfl rfl rfl (by kernel_rfl) (e_call (r_call rfl Tryd.func14 rfl rfl) (same_eq_ret _ _ _ (l.take i ++ text ++ l.drop j) H11.row_rd H11.rot.row_rd)) (ltn rfl) ?_
          rintro _ w12 ⟨rfl, hD1⟩
          have HE1 := H11.drewn hD1
          have hS12 : (fun W => W.heap[b5]? = some (.cells (edCells i d s) 24 (0, 0)) ∧ W.heap[b1]? = some (.cells (opCells k i j (.slice a2 text.length c2) a d0 i0) 26 (0, 0))) w12 := ⟨HE1.r4.get.2, HE1.right.r6.get.2⟩
          refine keepS hS12 ?_
          refine wd_takeT 7 rfl (by kernel_rfl) (by kernel_rfl) hS12 (fun _ => r_pick_t rfl rfl) (ltn rfl) ?_
          refine wd_takeT 8 rfl (by kernel_rfl) (by kernel_rfl) hS12 (fun _ => r_move rfl) (ltn rfl) ?_
          refine wd_takeT_yes 9 rfl rfl rfl (by kernel_rfl) (by kernel_rfl) hS12 (fun _ => (by first | exact r_field0 1 Tryd.underlying24 rfl rfl Tryd.sizeOf22 (by decide) rfl | exact r_field 1 Tryd.underlying24 rfl rfl Tryd.sizeOf22 (by decide) rfl)) (ltn rfl) ?_
          refine wd_take_yes 10 rfl rfl rfl (by kernel_rfl) (by kernel_rfl) hS12 (by decide) (fun W hW => r_load (plain_of Tryd.underlying22 rfl) rfl (cell_of_blk hW.1 rfl)) (ltn rfl) ?_
          refine wd_takeT_yes 11 rfl rfl rfl (by kernel_rfl) (by kernel_rfl) hS12 (fun _ => r_move rfl) (ltn rfl) ?_
          refine wd_takeT_yes 12 rfl rfl rfl (by kernel_rfl) (by kernel_rfl) hS12 (fun _ => (by first | exact r_field0 1 Tryd.underlying26 rfl rfl Tryd.sizeOf3 (by decide) rfl | exact r_field 1 Tryd.underlying26 rfl rfl Tryd.sizeOf3 (by decide) rfl)) (ltn rfl) ?_
          refine wd_take_yes 13 rfl rfl rfl (by kernel_rfl) (by kernel_rfl) hS12 (by decide) (fun W hW => r_load (plain_of Tryd.underlying3 rfl) rfl (cell_of_blk hW.2 rfl)) (ltn rfl) ?_
          refine wd_takeT_yes 14 rfl rfl rfl (by kernel_rfl) (by kernel_rfl) hS12 (fun _ => (by first | exact r_field0 2 Tryd.underlying26 rfl rfl Tryd.sizeOf3 (by decide) rfl | exact r_field 2 Tryd.underlying26 rfl rfl Tryd.sizeOf3 (by decide) rfl)) (ltn rfl) ?_
          refine wd_take_yes 15 rfl rfl rfl (by kernel_rfl) (by kernel_rfl) hS12 (by decide) (fun W hW => r_load (plain_of Tryd.underlying3 rfl) rfl (cell_of_blk hW.2 rfl)) (ltn rfl) ?_
          refine wd_takeT_yes 16 rfl rfl rfl (by kernel_rfl) (by kernel_rfl) hS12 (fun _ => r_slice Tryd.underlying22 Tryd.sizeOf21 rfl rfl rfl (by omega)) (ltn rfl) ?_
          refine wd_eff_yes 17 rfl rfl rfl (by kernel_rfl) (e_call (r_call rfl Tryd.func14 rfl rfl) (same_eq_ret _ _ _ ((l.drop i).take (j - i)) HE1.r5.row_rd (Holds.rd HE1 (RdI.cut g (i := i) (j := j) (by omega) (by omega))))) (ltn rfl) ?_
          rintro _ w13 ⟨rfl, hD2⟩
          have HE2 := HE1.drewn hD2
          have hS13 : (fun W => W.heap[b5]? = some (.cells (edCells i d s) 24 (0, 0)) ∧ W.heap[b1]? = some (.cells (opCells k i j (.slice a2 text.length c2) a d0 i0) 26 (0, 0))) w13 := ⟨HE2.r4.get.2, HE2.right.r6.get.2⟩
          refine keepS hS13 ?_
          refine wd_takeT 18 rfl (by kernel_rfl) (by kernel_rfl) hS13 (fun _ => r_pick_t rfl rfl) (ltn rfl) ?_
          refine wd_takeT 19 rfl (by kernel_rfl) (by kernel_rfl) hS13 (fun _ => r_move rfl) (ltn rfl) ?_
          refine wd_takeT_yes 20 rfl rfl rfl (by kernel_rfl) (by kernel_rfl) hS13 (fun _ => (by first | exact r_field0 2 Tryd.underlying24 rfl rfl Tryd.sizeOf22 (by decide) rfl | exact r_field 2 Tryd.underlying24 rfl rfl Tryd.sizeOf22 (by decide) rfl)) (ltn rfl) ?_
          refine wd_take_yes 21 rfl rfl rfl (by kernel_rfl) (by kernel_rfl) hS13 (by decide) (fun W hW => r_load (plain_of Tryd.underlying22 rfl) rfl (cell_of_blk hW.1 rfl)) (ltn rfl) ?_
          refine wd_takeT_yes 22 rfl rfl rfl (by kernel_rfl) (by kernel_rfl) hS13 (fun _ => (by first | exact r_field0 3 Tryd.underlying26 rfl rfl Tryd.sizeOf22 (by decide) rfl | exact r_field 3 Tryd.underlying26 rfl rfl Tryd.sizeOf22 (by decide) rfl)) (ltn rfl) ?_
          refine wd_take_yes 23 rfl rfl rfl (by kernel_rfl) (by kernel_rfl) hS13 (by decide) (fun W hW => r_load (plain_of Tryd.underlying22 rfl) rfl (cell_of_blk hW.2 rfl)) (ltn rfl) ?_
          refine wd_eff_yes 24 rfl rfl rfl (by kernel_rfl) (e_call (r_call rfl Tryd.func14 rfl rfl) (same_eq_ret _ _ _ text HE2.r6.row_rd (Holds.rd HE2 gx))) (ltn rfl) ?_
          rintro _ w14 ⟨rfl, hD3⟩
          have HE3 := HE2.drewn hD3
          have hS14 : (fun W => W.heap[b5]? = some (.cells (edCells i d s) 24 (0, 0)) ∧ W.heap[b1]? = some (.cells (opCells k i j (.slice a2 text.length c2) a d0 i0) 26 (0, 0))) w14 := ⟨HE3.r4.get.2, HE3.right.r6.get.2⟩
          refine keepS hS14 ?_
          refine wd_takeT 25 rfl (by kernel_rfl) (by kernel_rfl) hS14 (fun _ => r_pick_t rfl rfl) (ltn rfl) ?_
          refine wd_takeT 26 rfl (by kernel_rfl) (by kernel_rfl) hS14 (fun _ => r_move rfl) (ltn rfl) ?_
          refine wd_takeT_yes 27 rfl rfl rfl (by kernel_rfl) (by kernel_rfl) hS14 (fun _ => (by first | exact r_field0 0 Tryd.underlying24 rfl rfl Tryd.sizeOf3 (by decide) rfl | exact r_field 0 Tryd.underlying24 rfl rfl Tryd.sizeOf3 (by decide) rfl)) (ltn rfl) ?_
          refine wd_take_yes 28 rfl rfl rfl (by kernel_rfl) (by kernel_rfl) hS14 (by decide) (fun W hW => r_load (plain_of Tryd.underlying3 rfl) rfl (cell_of_blk hW.1 rfl)) (ltn rfl) ?_
          refine wd_takeT_yes 29 rfl rfl rfl (by kernel_rfl) (by kernel_rfl) hS14 (fun _ => (by first | exact r_field0 1 Tryd.underlying26 rfl rfl Tryd.sizeOf3 (by decide) rfl | exact r_field 1 Tryd.underlying26 rfl rfl Tryd.sizeOf3 (by decide) rfl)) (ltn rfl) ?_
          refine wd_take_yes 30 rfl rfl rfl (by kernel_rfl) (by kernel_rfl) hS14 (by decide) (fun W hW => r_load (plain_of Tryd.underlying3 rfl) rfl (cell_of_blk hW.2 rfl)) (ltn rfl) ?_
          refine wd_takeT_yes 31 rfl rfl rfl (by kernel_rfl) (by kernel_rfl) hS14 (fun _ => r_known_t (r_eql rfl rfl) (by first | (rw [decide_eq_true_eq]; omega) | (rw [decide_eq_false_iff_not]; omega) | (rw [beq_iff_eq]; omega) | (rw [beq_eq_false_iff_ne]; omega) | (rw [bne_iff_ne]; omega) | (rw [bne_eq_false_iff_eq]; omega) | (simp; done) | (simp; omega))) (ltn rfl) ?_
          refine wd_takeT 32 rfl (by kernel_rfl) (by kernel_rfl) hS14 (fun _ => r_pick_t rfl rfl) (ltn rfl) ?_
          refine wd_takeT 33 rfl (by kernel_rfl) (by kernel_rfl) hS14 (fun _ => r_assign rfl) (ltn rfl) ?_
          refine wd_done (by kernel_rfl) ?_
          refine wq_seq ?_
          refine wc_ret ?_
          refine wq_end1 (.inl rfl) Tryd.results3 rfl ?_
          exact ⟨rfl, HE3.base⟩
theorem buffer_splices (hT : Tabs w) (g : RdI w .i32 v l) (gx : RdI w .i32 tx text) (hbx : text.length ≤ 140737488355328) :
    Ret Tryd.prog 3 #[v, .agg (opCells k f t tx a d0 i0)] w fun v w' => v = .bool true ∧ Below w.heap.size w w' := by
  by_cases h1 : 1024 < l.length
  · exact splices_long hT g gx h1
  by_cases h2 : f < 0 ∨ l.length < f ∨ t < f ∨ l.length < t
  · exact splices_bad hT g gx (by omega) h2
  by_cases h3 : 1024 < l.length - (t - f) + text.length
  · exact splices_much hT g gx (by omega) (by omega) h3 hbx
  obtain ⟨i, rfl⟩ : ∃ i : Nat, f = i := ⟨f.toNat, by omega⟩
  obtain ⟨j, rfl⟩ : ∃ j : Nat, t = j := ⟨t.toNat, by omega⟩
  exact splices_ok hT g gx (by omega) (by omega) (by omega)
end
end Go.Proofs.YtlldaaamdchkdaaDoor
