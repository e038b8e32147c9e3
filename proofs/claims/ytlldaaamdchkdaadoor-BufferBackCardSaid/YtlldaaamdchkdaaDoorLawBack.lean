/- BufferBack, walked. -/
import Derived.Test.YtlldaaamdchkdaaDoorApply
import Derived.Test.YtlldaaamdchkdaaDoorLawSplices
set_option linter.unusedSimpArgs false
set_option linter.unusedVariables false
namespace Go.Proofs.YtlldaaamdchkdaaDoor
open Go.RowKit
section
variable {w : World} {v tx d0 i0 : Value} {l text : List Int} {k f t a : Int}
theorem back_long (hT : Tabs w) (g : RdI w .i32 v l) (gx : RdI w .i32 tx text) (hl : 1024 < l.length) :
    Ret Tryd.prog 5 #[v, .agg (opCells k f t tx a d0 i0)] w fun v w' => v = .bool true ∧ Below w.heap.size w w' := by
  have H := Holds.start w
  obtain ⟨a1, c1, hv1, _, _, _⟩ := g.open
  subst hv1
  refine ret_enter Tryd.func5 rfl Tryd.ntmps5 (Nat.le_of_ble_eq_true rfl) ?_
  dsimp only [slots0, Nat.reduceAdd]
  refine wc_seq ?_
  refine wc_region ?_
  refine wl_eff (e_box H rfl) (by decide) ?_
  rintro _ w1 ⟨b1, rfl, H1⟩
  refine wl_val (r_assign rfl) (by decide) ?_
  refine wl_nil ?_
  refine wq_seq ?_
  refine wc_seq ?_
  refine wc_region ?_
  refine wl_val (r_move rfl) (by decide) ?_
  refine wl_eff (e_call (r_call rfl Tryd.func11 rfl rfl) (buf_new_long H1 (FRdI.of_start g _) hl)) (by decide) ?_
  rintro _ _ ⟨rfl, rfl⟩
  refine wl_val (r_move rfl) (by decide) ?_
  refine wl_val (r_extract rfl rfl) (by decide) ?_
  refine wl_val (r_extract rfl rfl) (by decide) ?_
  refine wl_val (r_assign rfl) (by decide) ?_
  refine wl_val (r_assign rfl) (by decide) ?_
  refine wl_nil ?_
  refine wq_seq ?_
  refine wc_seq ?_
  refine wc_seq ?_
  refine wc_region ?_
  refine wl_val (r_move rfl) (by decide) ?_
  refine wl_val (r_neq rfl rfl) (by decide) ?_
  refine wl_split rfl (by decide) (fun h1 => ?_) (fun h1 => ?_)
  · (try simp only [beq_iff_eq, bne_iff_ne, ne_eq, decide_eq_true_eq, decide_eq_false_iff_not, beq_eq_false_iff_ne, bne_eq_false_iff_eq, Bool.not_eq_true', Bool.not_eq_false', Bool.not_eq_eq_eq_not, Bool.not_true, Bool.not_false, gt_iff_lt, ge_iff_le, Int.not_lt, Int.not_le] at h1)
    try (exfalso; first | contradiction | omega)
    all_goals
      refine wl_no rfl rfl rfl (by decide) ?_
      refine wl_no rfl rfl rfl (by decide) ?_
      refine wl_val (r_pick_t rfl rfl) (by decide) ?_
      refine wl_nil ?_
      refine wq_seq ?_
      refine wc_cond_t rfl ?_
      refine wc_seq ?_
      refine wc_region ?_
      refine wl_eff (e_call (r_call rfl Tryd.func12 rfl rfl) (live_ret H1 hT)) (by decide) ?_
      rintro _ w3 ⟨rfl, H3⟩
      refine wl_split rfl (by decide) (fun h2 => ?_) (fun h2 => ?_)
      · (try simp only [beq_iff_eq, bne_iff_ne, ne_eq, decide_eq_true_eq, decide_eq_false_iff_not, beq_eq_false_iff_ne, bne_eq_false_iff_eq, Bool.not_eq_true', Bool.not_eq_false', Bool.not_eq_eq_eq_not, Bool.not_true, Bool.not_false, gt_iff_lt, ge_iff_le, Int.not_lt, Int.not_le] at h2)
        try (exfalso; first | contradiction | omega)
        all_goals
          refine wl_yes rfl rfl ?_
          refine wl_val (r_move rfl) (by decide) ?_
          refine wl_yes rfl rfl ?_
          refine wl_val (r_eql rfl rfl) (by decide) ?_
          refine wl_val (r_pick_t rfl rfl) (by decide) ?_
          refine wl_split rfl (by decide) (fun h3 => ?_) (fun h3 => ?_)
          · (try simp only [beq_iff_eq, bne_iff_ne, ne_eq, decide_eq_true_eq, decide_eq_false_iff_not, beq_eq_false_iff_ne, bne_eq_false_iff_eq, Bool.not_eq_true', Bool.not_eq_false', Bool.not_eq_eq_eq_not, Bool.not_true, Bool.not_false, gt_iff_lt, ge_iff_le, Int.not_lt, Int.not_le] at h3)
            try (exfalso; first | contradiction | omega)
            all_goals
              refine wl_yes rfl rfl ?_
              refine wl_val (r_move rfl) (by decide) ?_
              refine wl_yes rfl rfl ?_
              refine wl_val (r_len Tryd.underlying22 rfl) (by decide) ?_
              refine wl_yes rfl rfl ?_
              refine wl_val (r_gtr rfl rfl) (by decide) ?_
              refine wl_val (r_pick_t rfl rfl) (by decide) ?_
              refine wl_val (r_assign rfl) (by decide) ?_
              refine wl_nil ?_
              refine wq_seq ?_
              refine wc_ret ?_
              refine wq_then_ret ?_
              refine wq_end1 (.inl rfl) Tryd.results5 rfl ?_
              exact ⟨by simp; omega, H3.base⟩
          · (try simp only [beq_iff_eq, bne_iff_ne, ne_eq, decide_eq_true_eq, decide_eq_false_iff_not, beq_eq_false_iff_ne, bne_eq_false_iff_eq, Bool.not_eq_true', Bool.not_eq_false', Bool.not_eq_eq_eq_not, Bool.not_true, Bool.not_false, gt_iff_lt, ge_iff_le, Int.not_lt, Int.not_le] at h3)
            try (exfalso; first | contradiction | omega)
            all_goals
              refine wl_no rfl rfl rfl (by decide) ?_
              refine wl_no rfl rfl rfl (by decide) ?_
              refine wl_no rfl rfl rfl (by decide) ?_
              refine wl_val (r_pick_f rfl rfl) (by decide) ?_
              refine wl_val (r_assign rfl) (by decide) ?_
              refine wl_nil ?_
              refine wq_seq ?_
              refine wc_ret ?_
              refine wq_then_ret ?_
              refine wq_end1 (.inl rfl) Tryd.results5 rfl ?_
              exact ⟨by simp; omega, H3.base⟩
      · (try simp only [beq_iff_eq, bne_iff_ne, ne_eq, decide_eq_true_eq, decide_eq_false_iff_not, beq_eq_false_iff_ne, bne_eq_false_iff_eq, Bool.not_eq_true', Bool.not_eq_false', Bool.not_eq_eq_eq_not, Bool.not_true, Bool.not_false, gt_iff_lt, ge_iff_le, Int.not_lt, Int.not_le] at h2)
        try (exfalso; first | contradiction | omega)
        all_goals
          refine wl_no rfl rfl rfl (by decide) ?_
          refine wl_no rfl rfl rfl (by decide) ?_
          refine wl_val (r_pick_f rfl rfl) (by decide) ?_
          refine wl_val (r_move rfl) (by decide) ?_
          refine wl_no rfl rfl rfl (by decide) ?_
          refine wl_no rfl rfl rfl (by decide) ?_
          refine wl_no rfl rfl rfl (by decide) ?_
          refine wl_val (r_pick_f rfl rfl) (by decide) ?_
          refine wl_val (r_assign rfl) (by decide) ?_
          refine wl_nil ?_
          refine wq_seq ?_
          refine wc_ret ?_
          refine wq_then_ret ?_
          refine wq_end1 (.inl rfl) Tryd.results5 rfl ?_
          exact ⟨by simp; omega, H3.base⟩
  · (try simp only [beq_iff_eq, bne_iff_ne, ne_eq, decide_eq_true_eq, decide_eq_false_iff_not, beq_eq_false_iff_ne, bne_eq_false_iff_eq, Bool.not_eq_true', Bool.not_eq_false', Bool.not_eq_eq_eq_not, Bool.not_true, Bool.not_false, gt_iff_lt, ge_iff_le, Int.not_lt, Int.not_le] at h1)
    try (exfalso; first | contradiction | omega)
    all_goals
      refine wl_yes rfl rfl ?_
      refine wl_eff (e_call (r_call rfl Tryd.func12 rfl rfl) (live_ret H1 hT)) (by decide) ?_
      rintro _ w4 ⟨rfl, H4⟩
      refine wl_yes rfl rfl ?_
      refine wl_val (r_not rfl) (by decide) ?_
      refine wl_val (r_pick_f rfl rfl) (by decide) ?_
      refine wl_nil ?_
      refine wq_seq ?_
      refine wc_cond rfl (fun h4 => ?_) (fun h => by exfalso; (try simp only [beq_iff_eq, bne_iff_ne, ne_eq, decide_eq_true_eq, decide_eq_false_iff_not, beq_eq_false_iff_ne, bne_eq_false_iff_eq, Bool.not_eq_true', Bool.not_eq_false', Bool.not_eq_eq_eq_not, Bool.not_true, Bool.not_false, gt_iff_lt, ge_iff_le, Int.not_lt, Int.not_le] at h); first | contradiction | omega | (simp at h <;> omega))
      (try simp only [beq_iff_eq, bne_iff_ne, ne_eq, decide_eq_true_eq, decide_eq_false_iff_not, beq_eq_false_iff_ne, bne_eq_false_iff_eq, Bool.not_eq_true', Bool.not_eq_false', Bool.not_eq_eq_eq_not, Bool.not_true, Bool.not_false, gt_iff_lt, ge_iff_le, Int.not_lt, Int.not_le] at h4)
      refine wc_seq ?_
      refine wc_region ?_
      refine wl_eff (e_call (r_call rfl Tryd.func12 rfl rfl) (live_ret H4 hT)) (by decide) ?_
      rintro _ w5 ⟨rfl, H5⟩
      refine wl_split rfl (by decide) (fun h5 => ?_) (fun h5 => ?_)
      · (try simp only [beq_iff_eq, bne_iff_ne, ne_eq, decide_eq_true_eq, decide_eq_false_iff_not, beq_eq_false_iff_ne, bne_eq_false_iff_eq, Bool.not_eq_true', Bool.not_eq_false', Bool.not_eq_eq_eq_not, Bool.not_true, Bool.not_false, gt_iff_lt, ge_iff_le, Int.not_lt, Int.not_le] at h5)
        try (exfalso; first | contradiction | omega)
        all_goals
          refine wl_yes rfl rfl ?_
          refine wl_val (r_move rfl) (by decide) ?_
          refine wl_yes rfl rfl ?_
          refine wl_val (r_eql rfl rfl) (by decide) ?_
          refine wl_val (r_pick_t rfl rfl) (by decide) ?_
          refine wl_split rfl (by decide) (fun h6 => ?_) (fun h6 => ?_)
          · (try simp only [beq_iff_eq, bne_iff_ne, ne_eq, decide_eq_true_eq, decide_eq_false_iff_not, beq_eq_false_iff_ne, bne_eq_false_iff_eq, Bool.not_eq_true', Bool.not_eq_false', Bool.not_eq_eq_eq_not, Bool.not_true, Bool.not_false, gt_iff_lt, ge_iff_le, Int.not_lt, Int.not_le] at h6)
            try (exfalso; first | contradiction | omega)
            all_goals
              refine wl_yes rfl rfl ?_
              refine wl_val (r_move rfl) (by decide) ?_
              refine wl_yes rfl rfl ?_
              refine wl_val (r_len Tryd.underlying22 rfl) (by decide) ?_
              refine wl_yes rfl rfl ?_
              refine wl_val (r_gtr rfl rfl) (by decide) ?_
              refine wl_val (r_pick_t rfl rfl) (by decide) ?_
              refine wl_val (r_assign rfl) (by decide) ?_
              refine wl_nil ?_
              refine wq_seq ?_
              refine wc_ret ?_
              refine wq_then_ret ?_
              refine wq_end1 (.inl rfl) Tryd.results5 rfl ?_
              exact ⟨by simp; omega, H5.base⟩
          · (try simp only [beq_iff_eq, bne_iff_ne, ne_eq, decide_eq_true_eq, decide_eq_false_iff_not, beq_eq_false_iff_ne, bne_eq_false_iff_eq, Bool.not_eq_true', Bool.not_eq_false', Bool.not_eq_eq_eq_not, Bool.not_true, Bool.not_false, gt_iff_lt, ge_iff_le, Int.not_lt, Int.not_le] at h6)
            try (exfalso; first | contradiction | omega)
            all_goals
              refine wl_no rfl rfl rfl (by decide) ?_
              refine wl_no rfl rfl rfl (by decide) ?_
              refine wl_no rfl rfl rfl (by decide) ?_
              refine wl_val (r_pick_f rfl rfl) (by decide) ?_
              refine wl_val (r_assign rfl) (by decide) ?_
              refine wl_nil ?_
              refine wq_seq ?_
              refine wc_ret ?_
              refine wq_then_ret ?_
              refine wq_end1 (.inl rfl) Tryd.results5 rfl ?_
              exact ⟨by simp; omega, H5.base⟩
      · (try simp only [beq_iff_eq, bne_iff_ne, ne_eq, decide_eq_true_eq, decide_eq_false_iff_not, beq_eq_false_iff_ne, bne_eq_false_iff_eq, Bool.not_eq_true', Bool.not_eq_false', Bool.not_eq_eq_eq_not, Bool.not_true, Bool.not_false, gt_iff_lt, ge_iff_le, Int.not_lt, Int.not_le] at h5)
        try (exfalso; first | contradiction | omega)
        all_goals
          refine wl_no rfl rfl rfl (by decide) ?_
          refine wl_no rfl rfl rfl (by decide) ?_
          refine wl_val (r_pick_f rfl rfl) (by decide) ?_
          refine wl_val (r_move rfl) (by decide) ?_
          refine wl_no rfl rfl rfl (by decide) ?_
          refine wl_no rfl rfl rfl (by decide) ?_
          refine wl_no rfl rfl rfl (by decide) ?_
          refine wl_val (r_pick_f rfl rfl) (by decide) ?_
          refine wl_val (r_assign rfl) (by decide) ?_
          refine wl_nil ?_
          refine wq_seq ?_
          refine wc_ret ?_
          refine wq_then_ret ?_
          refine wq_end1 (.inl rfl) Tryd.results5 rfl ?_
          exact ⟨by simp; omega, H5.base⟩
theorem back_bad (hT : Tabs w) (g : RdI w .i32 v l) (gx : RdI w .i32 tx text) (hl : l.length ≤ 1024) (hb : f < 0 ∨ l.length < f ∨ t < f ∨ l.length < t) :
    Ret Tryd.prog 5 #[v, .agg (opCells k f t tx a d0 i0)] w fun v w' => v = .bool true ∧ Below w.heap.size w w' := by
  have H := Holds.start w
  obtain ⟨a1, c1, hv1, _, _, _⟩ := g.open
  subst hv1
  refine ret_enter Tryd.func5 rfl Tryd.ntmps5 (Nat.le_of_ble_eq_true rfl) ?_
  dsimp only [slots0, Nat.reduceAdd]
  refine wc_seq ?_
  refine wc_region ?_
  refine wl_eff (e_box H rfl) (by decide) ?_
  rintro _ w1 ⟨b1, rfl, H1⟩
  refine wl_val (r_assign rfl) (by decide) ?_
  refine wl_nil ?_
  refine wq_seq ?_
  refine wc_seq ?_
  refine wc_region ?_
  refine wl_val (r_move rfl) (by decide) ?_
  refine wl_eff (e_call (r_call rfl Tryd.func11 rfl rfl) (buf_new_ret H1 (FRdI.of_start g _) hl)) (by decide) ?_
  rintro _ w2 ⟨p, rfl, H2⟩
  refine wl_val (r_move rfl) (by decide) ?_
  refine wl_val (r_extract rfl rfl) (by decide) ?_
  refine wl_val (r_extract rfl rfl) (by decide) ?_
  refine wl_val (r_assign rfl) (by decide) ?_
  refine wl_val (r_assign rfl) (by decide) ?_
  refine wl_nil ?_
  refine wq_seq ?_
  refine wc_seq ?_
  refine wc_seq ?_
  refine wc_region ?_
  refine wl_val (r_move rfl) (by decide) ?_
  refine wl_val (r_neq rfl rfl) (by decide) ?_
  refine wl_split rfl (by decide) (fun h => by exfalso; (try simp only [beq_iff_eq, bne_iff_ne, ne_eq, decide_eq_true_eq, decide_eq_false_iff_not, beq_eq_false_iff_ne, bne_eq_false_iff_eq, Bool.not_eq_true', Bool.not_eq_false', Bool.not_eq_eq_eq_not, Bool.not_true, Bool.not_false, gt_iff_lt, ge_iff_le, Int.not_lt, Int.not_le] at h); first | contradiction | omega | (simp at h <;> omega)) (fun h1 => ?_)
  (try simp only [beq_iff_eq, bne_iff_ne, ne_eq, decide_eq_true_eq, decide_eq_false_iff_not, beq_eq_false_iff_ne, bne_eq_false_iff_eq, Bool.not_eq_true', Bool.not_eq_false', Bool.not_eq_eq_eq_not, Bool.not_true, Bool.not_false, gt_iff_lt, ge_iff_le, Int.not_lt, Int.not_le] at h1)
  refine wl_yes rfl rfl ?_
  refine wl_eff (e_call (r_call rfl Tryd.func12 rfl rfl) (live_ret H2 hT)) (by decide) ?_
  rintro _ w3 ⟨rfl, H3⟩
  refine wl_yes rfl rfl ?_
  refine wl_val (r_not rfl) (by decide) ?_
  refine wl_val (r_pick_f rfl rfl) (by decide) ?_
  refine wl_nil ?_
  refine wq_seq ?_
  refine wc_cond rfl (fun h => by exfalso; (try simp only [beq_iff_eq, bne_iff_ne, ne_eq, decide_eq_true_eq, decide_eq_false_iff_not, beq_eq_false_iff_ne, bne_eq_false_iff_eq, Bool.not_eq_true', Bool.not_eq_false', Bool.not_eq_eq_eq_not, Bool.not_true, Bool.not_false, gt_iff_lt, ge_iff_le, Int.not_lt, Int.not_le] at h); first | contradiction | omega | (simp at h <;> omega)) (fun h2 => ?_)
  (try simp only [beq_iff_eq, bne_iff_ne, ne_eq, decide_eq_true_eq, decide_eq_false_iff_not, beq_eq_false_iff_ne, bne_eq_false_iff_eq, Bool.not_eq_true', Bool.not_eq_false', Bool.not_eq_eq_eq_not, Bool.not_true, Bool.not_false, gt_iff_lt, ge_iff_le, Int.not_lt, Int.not_le] at h2)
  refine wc_skip ?_
  refine wq_seq ?_
  refine wc_seq ?_
  refine wc_region ?_
  refine wl_val (r_move rfl) (by decide) ?_
  refine wl_val ((by first | exact r_field0 1 Tryd.underlying26 rfl rfl Tryd.sizeOf3 (by decide) rfl | exact r_field 1 Tryd.underlying26 rfl rfl Tryd.sizeOf3 (by decide) rfl)) (by decide) ?_
  refine wl_val (r_load (plain_of Tryd.underlying3 rfl) rfl (cell_of_blk H3.swap.get.2 rfl)) (by decide) ?_
  refine wl_val ((by first | exact r_field0 2 Tryd.underlying26 rfl rfl Tryd.sizeOf3 (by decide) rfl | exact r_field 2 Tryd.underlying26 rfl rfl Tryd.sizeOf3 (by decide) rfl)) (by decide) ?_
  refine wl_val (r_load (plain_of Tryd.underlying3 rfl) rfl (cell_of_blk H3.swap.get.2 rfl)) (by decide) ?_
  refine wl_val ((by first | exact r_field0 3 Tryd.underlying26 rfl rfl Tryd.sizeOf22 (by decide) rfl | exact r_field 3 Tryd.underlying26 rfl rfl Tryd.sizeOf22 (by decide) rfl)) (by decide) ?_
  refine wl_val (r_load (plain_of Tryd.underlying22 rfl) rfl (cell_of_blk H3.swap.get.2 rfl)) (by decide) ?_
  refine wl_eff (e_call (r_call rfl Tryd.func13 rfl rfl) (buf_replace_bad H3 (FRdI.of_start gx _) hb)) (by decide) ?_
  rintro _ w4 ⟨rfl, H4⟩
  refine wl_val (r_move rfl) (by decide) ?_
  refine wl_val (r_extract rfl rfl) (by decide) ?_
  refine wl_val (r_extract rfl rfl) (by decide) ?_
  refine wl_eff (e_alloc H4 Tryd.zeroValue24) (by decide) ?_
  rintro _ w5 ⟨b5, rfl, H5⟩
  refine wl_eff0 (e_store_whole (cs := edCells 0 (.slice none 0 0) (.slice none 0 0)) H5 Tryd.sizeOf24 rfl rfl rfl rfl (ed_ones rfl rfl)) ?_
  rintro _ w6 H6
  refine wl_val (r_assign rfl) (by decide) ?_
  refine wl_nil ?_
  refine wq_seq ?_
  refine wc_seq ?_
  refine wc_seq ?_
  refine wc_region ?_
  refine wl_val (r_move rfl) (by decide) ?_
  refine wl_val (r_neq rfl rfl) (by decide) ?_
  refine wl_nil ?_
  refine wq_seq ?_
  refine wc_cond rfl (fun h3 => ?_) (fun h => by exfalso; (try simp only [beq_iff_eq, bne_iff_ne, ne_eq, decide_eq_true_eq, decide_eq_false_iff_not, beq_eq_false_iff_ne, bne_eq_false_iff_eq, Bool.not_eq_true', Bool.not_eq_false', Bool.not_eq_eq_eq_not, Bool.not_true, Bool.not_false, gt_iff_lt, ge_iff_le, Int.not_lt, Int.not_le] at h); first | contradiction | omega | (simp at h <;> omega))
  (try simp only [beq_iff_eq, bne_iff_ne, ne_eq, decide_eq_true_eq, decide_eq_false_iff_not, beq_eq_false_iff_ne, bne_eq_false_iff_eq, Bool.not_eq_true', Bool.not_eq_false', Bool.not_eq_eq_eq_not, Bool.not_true, Bool.not_false, gt_iff_lt, ge_iff_le, Int.not_lt, Int.not_le] at h3)
  refine wc_seq ?_
  refine wc_region ?_
  refine wl_val (r_move rfl) (by decide) ?_
  refine wl_eff (e_call (r_call rfl Tryd.func15 rfl rfl) (buf_text_ret H6.swap)) (by decide) ?_
  rintro y w7 H7
  refine wl_val (r_move rfl) (by decide) ?_
  refine wl_eff (e_call (r_call rfl Tryd.func14 rfl rfl) (same_eq_ret _ _ _ l H7.row_rd (Holds.rd H7 g))) (by decide) ?_
  rintro _ w8 ⟨rfl, hD1⟩
  have HE1 := H7.drewn hD1
  refine wl_val (r_move rfl) (by decide) ?_
  refine wl_yes rfl rfl ?_
  refine wl_val (r_move rfl) (by decide) ?_
  refine wl_yes rfl rfl ?_
  refine wl_eff (e_call (r_call rfl Tryd.func23 rfl rfl) (buf_point_ret HE1.swap)) (by decide) ?_
  rintro _ _ ⟨rfl, rfl⟩
  refine wl_yes rfl rfl ?_
  refine wl_val (r_move rfl) (by decide) ?_
  refine wl_yes rfl rfl ?_
  refine wl_val (r_len Tryd.underlying22 rfl) (by decide) ?_
  refine wl_yes rfl rfl ?_
  refine wl_val (r_known_t (r_eql rfl rfl) (by first | (rw [decide_eq_true_eq]; omega) | (rw [decide_eq_false_iff_not]; omega) | (rw [beq_iff_eq]; omega) | (rw [beq_eq_false_iff_ne]; omega) | (rw [bne_iff_ne]; omega) | (rw [bne_eq_false_iff_eq]; omega) | (simp; done) | (simp; omega))) (by decide) ?_
  refine wl_val (r_pick_t rfl rfl) (by decide) ?_
  refine wl_val (r_assign rfl) (by decide) ?_
  refine wl_nil ?_
  refine wq_seq ?_
  refine wc_ret ?_
  refine wq_then_ret ?_
  refine wq_end1 (.inl rfl) Tryd.results5 rfl ?_
  exact ⟨rfl, HE1.base⟩
theorem back_much (hT : Tabs w) (g : RdI w .i32 v l) (gx : RdI w .i32 tx text) (hl : l.length ≤ 1024) (hb : 0 ≤ f ∧ f ≤ t ∧ t ≤ l.length) (hm : 1024 < l.length - (t - f) + text.length) :
    Ret Tryd.prog 5 #[v, .agg (opCells k f t tx a d0 i0)] w fun v w' => v = .bool true ∧ Below w.heap.size w w' := by
  have H := Holds.start w
  obtain ⟨a1, c1, hv1, _, _, _⟩ := g.open
  subst hv1
  refine ret_enter Tryd.func5 rfl Tryd.ntmps5 (Nat.le_of_ble_eq_true rfl) ?_
  dsimp only [slots0, Nat.reduceAdd]
  refine wc_seq ?_
  refine wc_region ?_
  refine wl_eff (e_box H rfl) (by decide) ?_
  rintro _ w1 ⟨b1, rfl, H1⟩
  refine wl_val (r_assign rfl) (by decide) ?_
  refine wl_nil ?_
  refine wq_seq ?_
  refine wc_seq ?_
  refine wc_region ?_
  refine wl_val (r_move rfl) (by decide) ?_
  refine wl_eff (e_call (r_call rfl Tryd.func11 rfl rfl) (buf_new_ret H1 (FRdI.of_start g _) hl)) (by decide) ?_
  rintro _ w2 ⟨p, rfl, H2⟩
  refine wl_val (r_move rfl) (by decide) ?_
  refine wl_val (r_extract rfl rfl) (by decide) ?_
  refine wl_val (r_extract rfl rfl) (by decide) ?_
  refine wl_val (r_assign rfl) (by decide) ?_
  refine wl_val (r_assign rfl) (by decide) ?_
  refine wl_nil ?_
  refine wq_seq ?_
  refine wc_seq ?_
  refine wc_seq ?_
  refine wc_region ?_
  refine wl_val (r_move rfl) (by decide) ?_
  refine wl_val (r_neq rfl rfl) (by decide) ?_
  refine wl_split rfl (by decide) (fun h => by exfalso; (try simp only [beq_iff_eq, bne_iff_ne, ne_eq, decide_eq_true_eq, decide_eq_false_iff_not, beq_eq_false_iff_ne, bne_eq_false_iff_eq, Bool.not_eq_true', Bool.not_eq_false', Bool.not_eq_eq_eq_not, Bool.not_true, Bool.not_false, gt_iff_lt, ge_iff_le, Int.not_lt, Int.not_le] at h); first | contradiction | omega | (simp at h <;> omega)) (fun h1 => ?_)
  (try simp only [beq_iff_eq, bne_iff_ne, ne_eq, decide_eq_true_eq, decide_eq_false_iff_not, beq_eq_false_iff_ne, bne_eq_false_iff_eq, Bool.not_eq_true', Bool.not_eq_false', Bool.not_eq_eq_eq_not, Bool.not_true, Bool.not_false, gt_iff_lt, ge_iff_le, Int.not_lt, Int.not_le] at h1)
  refine wl_yes rfl rfl ?_
  refine wl_eff (e_call (r_call rfl Tryd.func12 rfl rfl) (live_ret H2 hT)) (by decide) ?_
  rintro _ w3 ⟨rfl, H3⟩
  refine wl_yes rfl rfl ?_
  refine wl_val (r_not rfl) (by decide) ?_
  refine wl_val (r_pick_f rfl rfl) (by decide) ?_
  refine wl_nil ?_
  refine wq_seq ?_
  refine wc_cond rfl (fun h => by exfalso; (try simp only [beq_iff_eq, bne_iff_ne, ne_eq, decide_eq_true_eq, decide_eq_false_iff_not, beq_eq_false_iff_ne, bne_eq_false_iff_eq, Bool.not_eq_true', Bool.not_eq_false', Bool.not_eq_eq_eq_not, Bool.not_true, Bool.not_false, gt_iff_lt, ge_iff_le, Int.not_lt, Int.not_le] at h); first | contradiction | omega | (simp at h <;> omega)) (fun h2 => ?_)
  (try simp only [beq_iff_eq, bne_iff_ne, ne_eq, decide_eq_true_eq, decide_eq_false_iff_not, beq_eq_false_iff_ne, bne_eq_false_iff_eq, Bool.not_eq_true', Bool.not_eq_false', Bool.not_eq_eq_eq_not, Bool.not_true, Bool.not_false, gt_iff_lt, ge_iff_le, Int.not_lt, Int.not_le] at h2)
  refine wc_skip ?_
  refine wq_seq ?_
  refine wc_seq ?_
  refine wc_region ?_
  refine wl_val (r_move rfl) (by decide) ?_
  refine wl_val ((by first | exact r_field0 1 Tryd.underlying26 rfl rfl Tryd.sizeOf3 (by decide) rfl | exact r_field 1 Tryd.underlying26 rfl rfl Tryd.sizeOf3 (by decide) rfl)) (by decide) ?_
  refine wl_val (r_load (plain_of Tryd.underlying3 rfl) rfl (cell_of_blk H3.swap.get.2 rfl)) (by decide) ?_
  refine wl_val ((by first | exact r_field0 2 Tryd.underlying26 rfl rfl Tryd.sizeOf3 (by decide) rfl | exact r_field 2 Tryd.underlying26 rfl rfl Tryd.sizeOf3 (by decide) rfl)) (by decide) ?_
  refine wl_val (r_load (plain_of Tryd.underlying3 rfl) rfl (cell_of_blk H3.swap.get.2 rfl)) (by decide) ?_
  refine wl_val ((by first | exact r_field0 3 Tryd.underlying26 rfl rfl Tryd.sizeOf22 (by decide) rfl | exact r_field 3 Tryd.underlying26 rfl rfl Tryd.sizeOf22 (by decide) rfl)) (by decide) ?_
  refine wl_val (r_load (plain_of Tryd.underlying22 rfl) rfl (cell_of_blk H3.swap.get.2 rfl)) (by decide) ?_
  refine wl_eff (e_call (r_call rfl Tryd.func13 rfl rfl) (buf_replace_long H3 (FRdI.of_start gx _) hb hm)) (by decide) ?_
  rintro _ w4 ⟨rfl, H4⟩
  refine wl_val (r_move rfl) (by decide) ?_
  refine wl_val (r_extract rfl rfl) (by decide) ?_
  refine wl_val (r_extract rfl rfl) (by decide) ?_
  refine wl_eff (e_alloc H4 Tryd.zeroValue24) (by decide) ?_
  rintro _ w5 ⟨b5, rfl, H5⟩
  refine wl_eff0 (e_store_whole (cs := edCells 0 (.slice none 0 0) (.slice none 0 0)) H5 Tryd.sizeOf24 rfl rfl rfl rfl (ed_ones rfl rfl)) ?_
  rintro _ w6 H6
  refine wl_val (r_assign rfl) (by decide) ?_
  refine wl_nil ?_
  refine wq_seq ?_
  refine wc_seq ?_
  refine wc_seq ?_
  refine wc_region ?_
  refine wl_val (r_move rfl) (by decide) ?_
  refine wl_val (r_neq rfl rfl) (by decide) ?_
  refine wl_nil ?_
  refine wq_seq ?_
  refine wc_cond rfl (fun h3 => ?_) (fun h => by exfalso; (try simp only [beq_iff_eq, bne_iff_ne, ne_eq, decide_eq_true_eq, decide_eq_false_iff_not, beq_eq_false_iff_ne, bne_eq_false_iff_eq, Bool.not_eq_true', Bool.not_eq_false', Bool.not_eq_eq_eq_not, Bool.not_true, Bool.not_false, gt_iff_lt, ge_iff_le, Int.not_lt, Int.not_le] at h); first | contradiction | omega | (simp at h <;> omega))
  (try simp only [beq_iff_eq, bne_iff_ne, ne_eq, decide_eq_true_eq, decide_eq_false_iff_not, beq_eq_false_iff_ne, bne_eq_false_iff_eq, Bool.not_eq_true', Bool.not_eq_false', Bool.not_eq_eq_eq_not, Bool.not_true, Bool.not_false, gt_iff_lt, ge_iff_le, Int.not_lt, Int.not_le] at h3)
  refine wc_seq ?_
  refine wc_region ?_
  refine wl_val (r_move rfl) (by decide) ?_
  refine wl_eff (e_call (r_call rfl Tryd.func15 rfl rfl) (buf_text_ret H6.swap)) (by decide) ?_
  rintro y w7 H7
  refine wl_val (r_move rfl) (by decide) ?_
  refine wl_eff (e_call (r_call rfl Tryd.func14 rfl rfl) (same_eq_ret _ _ _ l H7.row_rd (Holds.rd H7 g))) (by decide) ?_
  rintro _ w8 ⟨rfl, hD1⟩
  have HE1 := H7.drewn hD1
  refine wl_val (r_move rfl) (by decide) ?_
  refine wl_yes rfl rfl ?_
  refine wl_val (r_move rfl) (by decide) ?_
  refine wl_yes rfl rfl ?_
  refine wl_eff (e_call (r_call rfl Tryd.func23 rfl rfl) (buf_point_ret HE1.swap)) (by decide) ?_
  rintro _ _ ⟨rfl, rfl⟩
  refine wl_yes rfl rfl ?_
  refine wl_val (r_move rfl) (by decide) ?_
  refine wl_yes rfl rfl ?_
  refine wl_val (r_len Tryd.underlying22 rfl) (by decide) ?_
  refine wl_yes rfl rfl ?_
  refine wl_val (r_known_t (r_eql rfl rfl) (by first | (rw [decide_eq_true_eq]; omega) | (rw [decide_eq_false_iff_not]; omega) | (rw [beq_iff_eq]; omega) | (rw [beq_eq_false_iff_ne]; omega) | (rw [bne_iff_ne]; omega) | (rw [bne_eq_false_iff_eq]; omega) | (simp; done) | (simp; omega))) (by decide) ?_
  refine wl_val (r_pick_t rfl rfl) (by decide) ?_
  refine wl_val (r_assign rfl) (by decide) ?_
  refine wl_nil ?_
  refine wq_seq ?_
  refine wc_ret ?_
  refine wq_then_ret ?_
  refine wq_end1 (.inl rfl) Tryd.results5 rfl ?_
  exact ⟨rfl, HE1.base⟩
theorem back_ok {i j : Nat} (hT : Tabs w) (g : RdI w .i32 v l) (gx : RdI w .i32 tx text) (hl : l.length ≤ 1024) (hb : i ≤ j ∧ j ≤ l.length) (hm : (l.length : Int) - ((j : Int) - i) + text.length ≤ 1024) :
    Ret Tryd.prog 5 #[v, .agg (opCells k i j tx a d0 i0)] w fun v w' => v = .bool true ∧ Below w.heap.size w w' := by
  have H := Holds.start w
  obtain ⟨a1, c1, hv1, hc1, hc1', _⟩ := g.open
  subst hv1
  have e1 : (l.take i ++ text ++ l.drop j).length = l.length - (j - i) + text.length := by simp; omega
  have e2 : ((l.take i ++ text ++ l.drop j).drop i).take text.length = text := by
    rw [List.append_assoc, List.drop_left' (by simp; omega), List.take_left' rfl]
  have e3 : ((l.drop i).take (j - i)).length = j - i := by simp; omega
  have e4 : (l.take i ++ text ++ l.drop j).take i ++ (l.drop i).take (j - i) ++ (l.take i ++ text ++ l.drop j).drop (i + text.length) = l := by
    have q1 : (l.take i ++ text ++ l.drop j).take i = l.take i := by rw [List.append_assoc, List.take_left' (by simp; omega)]
    have q2 : (l.take i ++ text ++ l.drop j).drop (i + text.length) = l.drop j := List.drop_left' (by simp; omega)
    rw [q1, q2]
    have := List.take_append_drop (j - i) (l.drop i)
    rw [List.drop_drop, show i + (j - i) = j from by omega] at this
    rw [List.append_assoc, this, List.take_append_drop]
  have e5 : l.take i ++ text ++ l.drop (i + ((l.drop i).take (j - i)).length) = l.take i ++ text ++ l.drop j := by rw [e3, show i + (j - i) = j from by omega]
  refine ret_enter Tryd.func5 rfl Tryd.ntmps5 (Nat.le_of_ble_eq_true rfl) ?_
  dsimp only [slots0, Nat.reduceAdd]
  refine wc_seq ?_
  refine wc_region ?_
  refine wl_eff (e_box H rfl) (by decide) ?_
  rintro _ w1 ⟨b1, rfl, H1⟩
  refine wl_val (r_assign rfl) (by decide) ?_
  refine wl_nil ?_
  refine wq_seq ?_
  refine wc_seq ?_
  refine wc_region ?_
  refine wl_val (r_move rfl) (by decide) ?_
  refine wl_eff (e_call (r_call rfl Tryd.func11 rfl rfl) (buf_new_ret H1 (FRdI.of_start g _) hl)) (by decide) ?_
  rintro _ w2 ⟨p, rfl, H2⟩
  refine wl_val (r_move rfl) (by decide) ?_
  refine wl_val (r_extract rfl rfl) (by decide) ?_
  refine wl_val (r_extract rfl rfl) (by decide) ?_
  refine wl_val (r_assign rfl) (by decide) ?_
  refine wl_val (r_assign rfl) (by decide) ?_
  refine wl_nil ?_
  refine wq_seq ?_
  refine wc_seq ?_
  refine wc_seq ?_
  refine wc_region ?_
  refine wl_val (r_move rfl) (by decide) ?_
  refine wl_val (r_neq rfl rfl) (by decide) ?_
  refine wl_split rfl (by decide) (fun h => by exfalso; (try simp only [beq_iff_eq, bne_iff_ne, ne_eq, decide_eq_true_eq, decide_eq_false_iff_not, beq_eq_false_iff_ne, bne_eq_false_iff_eq, Bool.not_eq_true', Bool.not_eq_false', Bool.not_eq_eq_eq_not, Bool.not_true, Bool.not_false, gt_iff_lt, ge_iff_le, Int.not_lt, Int.not_le] at h); first | contradiction | omega | (simp at h <;> omega)) (fun h1 => ?_)
  (try simp only [beq_iff_eq, bne_iff_ne, ne_eq, decide_eq_true_eq, decide_eq_false_iff_not, beq_eq_false_iff_ne, bne_eq_false_iff_eq, Bool.not_eq_true', Bool.not_eq_false', Bool.not_eq_eq_eq_not, Bool.not_true, Bool.not_false, gt_iff_lt, ge_iff_le, Int.not_lt, Int.not_le] at h1)
  refine wl_yes rfl rfl ?_
  refine wl_eff (e_call (r_call rfl Tryd.func12 rfl rfl) (live_ret H2 hT)) (by decide) ?_
  rintro _ w3 ⟨rfl, H3⟩
  refine wl_yes rfl rfl ?_
  refine wl_val (r_not rfl) (by decide) ?_
  refine wl_val (r_pick_f rfl rfl) (by decide) ?_
  refine wl_nil ?_
  refine wq_seq ?_
  refine wc_cond rfl (fun h => by exfalso; (try simp only [beq_iff_eq, bne_iff_ne, ne_eq, decide_eq_true_eq, decide_eq_false_iff_not, beq_eq_false_iff_ne, bne_eq_false_iff_eq, Bool.not_eq_true', Bool.not_eq_false', Bool.not_eq_eq_eq_not, Bool.not_true, Bool.not_false, gt_iff_lt, ge_iff_le, Int.not_lt, Int.not_le] at h); first | contradiction | omega | (simp at h <;> omega)) (fun h2 => ?_)
  (try simp only [beq_iff_eq, bne_iff_ne, ne_eq, decide_eq_true_eq, decide_eq_false_iff_not, beq_eq_false_iff_ne, bne_eq_false_iff_eq, Bool.not_eq_true', Bool.not_eq_false', Bool.not_eq_eq_eq_not, Bool.not_true, Bool.not_false, gt_iff_lt, ge_iff_le, Int.not_lt, Int.not_le] at h2)
  refine wc_skip ?_
  refine wq_seq ?_
  refine wc_seq ?_
  refine wc_region ?_
  refine wl_val (r_move rfl) (by decide) ?_
  refine wl_val ((by first | exact r_field0 1 Tryd.underlying26 rfl rfl Tryd.sizeOf3 (by decide) rfl | exact r_field 1 Tryd.underlying26 rfl rfl Tryd.sizeOf3 (by decide) rfl)) (by decide) ?_
  refine wl_val (r_load (plain_of Tryd.underlying3 rfl) rfl (cell_of_blk H3.swap.get.2 rfl)) (by decide) ?_
  refine wl_val ((by first | exact r_field0 2 Tryd.underlying26 rfl rfl Tryd.sizeOf3 (by decide) rfl | exact r_field 2 Tryd.underlying26 rfl rfl Tryd.sizeOf3 (by decide) rfl)) (by decide) ?_
  refine wl_val (r_load (plain_of Tryd.underlying3 rfl) rfl (cell_of_blk H3.swap.get.2 rfl)) (by decide) ?_
  refine wl_val ((by first | exact r_field0 3 Tryd.underlying26 rfl rfl Tryd.sizeOf22 (by decide) rfl | exact r_field 3 Tryd.underlying26 rfl rfl Tryd.sizeOf22 (by decide) rfl)) (by decide) ?_
  refine wl_val (r_load (plain_of Tryd.underlying22 rfl) rfl (cell_of_blk H3.swap.get.2 rfl)) (by decide) ?_
  refine wl_eff (e_call (r_call rfl Tryd.func13 rfl rfl) (buf_replace_ok (i := i) (j := j) H3 (FRdI.of_start gx _) hb hm)) (by decide) ?_
  rintro _ w4 ⟨d, s, rfl, H4⟩
  refine wl_val (r_move rfl) (by decide) ?_
  refine wl_val (r_extract rfl rfl) (by decide) ?_
  refine wl_val (r_extract rfl rfl) (by decide) ?_
  refine wl_eff (e_alloc H4 Tryd.zeroValue24) (by decide) ?_
  rintro _ w5 ⟨b5, rfl, H5⟩
  refine wl_eff0 (e_store_whole (cs := edCells i d s) H5 Tryd.sizeOf24 rfl rfl rfl rfl (ed_ones H5.swap.row_rd.one H5.rot.row_rd.one)) ?_
  rintro _ w6 H6
  refine wl_val (r_assign rfl) (by decide) ?_
  refine wl_nil ?_
  refine wq_seq ?_
  refine wc_seq ?_
  refine wc_seq ?_
  refine wc_region ?_
  refine wl_val (r_move rfl) (by decide) ?_
  refine wl_val (r_neq rfl rfl) (by decide) ?_
  refine wl_nil ?_
  refine wq_seq ?_
  refine wc_cond rfl (fun h => by exfalso; (try simp only [beq_iff_eq, bne_iff_ne, ne_eq, decide_eq_true_eq, decide_eq_false_iff_not, beq_eq_false_iff_ne, bne_eq_false_iff_eq, Bool.not_eq_true', Bool.not_eq_false', Bool.not_eq_eq_eq_not, Bool.not_true, Bool.not_false, gt_iff_lt, ge_iff_le, Int.not_lt, Int.not_le] at h); first | contradiction | omega | (simp at h <;> omega)) (fun h3 => ?_)
  (try simp only [beq_iff_eq, bne_iff_ne, ne_eq, decide_eq_true_eq, decide_eq_false_iff_not, beq_eq_false_iff_ne, bne_eq_false_iff_eq, Bool.not_eq_true', Bool.not_eq_false', Bool.not_eq_eq_eq_not, Bool.not_true, Bool.not_false, gt_iff_lt, ge_iff_le, Int.not_lt, Int.not_le] at h3)
  refine wc_skip ?_
  refine wq_seq ?_
  refine wc_seq ?_
  have H7 := H6.r4
  refine wc_region ?_
  refine wl_val (r_move rfl) (by decide) ?_
  refine wl_eff (e_call (r_call rfl Tryd.func15 rfl rfl) (buf_text_ret H7)) (by decide) ?_
  rintro there w7 H7
  refine wl_val (r_assign rfl) (by decide) ?_
  refine wl_nil ?_
  refine wq_seq ?_
  refine wc_seq ?_
  refine wc_seq ?_
  have H8 := H7.rot
  refine wc_region ?_
  refine wl_val (r_move rfl) (by decide) ?_
  refine wl_val (r_load_whole Tryd.underlying24 rfl Tryd.sizeOf24 rfl rfl H8.get.2) (by decide) ?_
  refine wl_eff (e_call (r_call rfl Tryd.func25 rfl rfl) (reverse_ret H8 (fun W HW => HW.r4.row_rd) (fun W HW => HW.r5.row_rd) (by omega) (by omega))) (by decide) ?_
  rintro _ w8 ⟨d1, s1, rfl, H8⟩
  refine wl_eff (e_call (r_call rfl Tryd.func24 rfl rfl) (apply_ok (k := i) H8.r5 (fun W HW => HW.row_rd) (fun W HW => HW.swap.row_rd) (by omega) e2 (by rw [e1, e3]; omega))) (by decide) ?_
  rintro _ w9 ⟨rfl, H9⟩
  rw [e4] at H9
  refine wl_val (r_neq rfl rfl) (by decide) ?_
  refine wl_split rfl (by decide) (fun h => by exfalso; (try simp only [beq_iff_eq, bne_iff_ne, ne_eq, decide_eq_true_eq, decide_eq_false_iff_not, beq_eq_false_iff_ne, bne_eq_false_iff_eq, Bool.not_eq_true', Bool.not_eq_false', Bool.not_eq_eq_eq_not, Bool.not_true, Bool.not_false, gt_iff_lt, ge_iff_le, Int.not_lt, Int.not_le] at h); first | contradiction | omega | (simp at h <;> omega)) (fun h4 => ?_)
  (try simp only [beq_iff_eq, bne_iff_ne, ne_eq, decide_eq_true_eq, decide_eq_false_iff_not, beq_eq_false_iff_ne, bne_eq_false_iff_eq, Bool.not_eq_true', Bool.not_eq_false', Bool.not_eq_eq_eq_not, Bool.not_true, Bool.not_false, gt_iff_lt, ge_iff_le, Int.not_lt, Int.not_le] at h4)
  refine wl_yes rfl rfl ?_
  refine wl_val (r_move rfl) (by decide) ?_
  refine wl_yes rfl rfl ?_
  refine wl_eff (e_call (r_call rfl Tryd.func15 rfl rfl) (buf_text_ret H9)) (by decide) ?_
  rintro y1 w10 H10
  refine wl_yes rfl rfl ?_
  refine wl_val (r_move rfl) (by decide) ?_
  refine wl_yes rfl rfl ?_
  refine wl_eff (e_call (r_call rfl Tryd.func14 rfl rfl) (same_eq_ret _ _ _ l H10.row_rd (Holds.rd H10 g))) (by decide) ?_
  rintro _ w11 ⟨rfl, hD1⟩
  have HE1 := (H10.drewn hD1).right
  refine wl_yes rfl rfl ?_
  refine wl_val (r_not rfl) (by decide) ?_
  refine wl_val (r_pick_f rfl rfl) (by decide) ?_
  refine wl_nil ?_
  refine wq_seq ?_
  refine wc_cond rfl (fun h => by exfalso; (try simp only [beq_iff_eq, bne_iff_ne, ne_eq, decide_eq_true_eq, decide_eq_false_iff_not, beq_eq_false_iff_ne, bne_eq_false_iff_eq, Bool.not_eq_true', Bool.not_eq_false', Bool.not_eq_eq_eq_not, Bool.not_true, Bool.not_false, gt_iff_lt, ge_iff_le, Int.not_lt, Int.not_le] at h); first | contradiction | omega | (simp at h <;> omega)) (fun h5 => ?_)
  (try simp only [beq_iff_eq, bne_iff_ne, ne_eq, decide_eq_true_eq, decide_eq_false_iff_not, beq_eq_false_iff_ne, bne_eq_false_iff_eq, Bool.not_eq_true', Bool.not_eq_false', Bool.not_eq_eq_eq_not, Bool.not_true, Bool.not_false, gt_iff_lt, ge_iff_le, Int.not_lt, Int.not_le] at h5)
  refine wc_skip ?_
  refine wq_seq ?_
  refine wc_seq ?_
  refine wd_begin (n := 18) (fun W => W.heap[b5]? = some (.cells (edCells i d s) 24 (0, 0))) (by kernel_rfl) (by kernel_rfl) rfl ?_
  have hS0 : (fun W => W.heap[b5]? = some (.cells (edCells i d s) 24 (0, 0))) (w11.drew) := HE1.r4.get.2
  have H10d := HE1.drew
  refine wd_take 0 rfl (by kernel_rfl) (by kernel_rfl) hS0 (fun _ _ => r_move rfl) (by decide) ?_
  refine wd_take 1 rfl (by kernel_rfl) (by kernel_rfl) hS0 (fun W hW => r_load_whole Tryd.underlying24 rfl Tryd.sizeOf24 rfl rfl hW) (by decide) ?_
  refine wd_eff 2 rfl (by kernel_rfl) (e_call (r_call rfl Tryd.func24 rfl rfl) (apply_ok (k := i) H10d (fun W HW => HW.r5.row_rd) (fun W HW => HW.r6.row_rd) (by rw [e3]; omega) (by rw [e3]) (by rw [e3]; omega))) (by decide) ?_
  rintro _ w12 ⟨rfl, H12⟩
  rw [e5] at H12
  have hS12 : (fun W => W.heap[b5]? = some (.cells (edCells i d s) 24 (0, 0))) w12 := H12.r4.get.2
  refine ⟨.inl hS12, ?_⟩
  refine wd_take 3 rfl (by kernel_rfl) (by kernel_rfl) hS12 (fun _ _ => r_eql rfl rfl) (by decide) ?_
  refine wd_split 4 rfl rfl (by kernel_rfl) (by kernel_rfl) hS12 (by decide) (fun h6 => ?_) (fun h => by exfalso; (try simp only [beq_iff_eq, bne_iff_ne, ne_eq, decide_eq_true_eq, decide_eq_false_iff_not, beq_eq_false_iff_ne, bne_eq_false_iff_eq, Bool.not_eq_true', Bool.not_eq_false', Bool.not_eq_eq_eq_not, Bool.not_true, Bool.not_false, gt_iff_lt, ge_iff_le, Int.not_lt, Int.not_le] at h); first | contradiction | omega | (simp at h <;> omega))
  (try simp only [beq_iff_eq, bne_iff_ne, ne_eq, decide_eq_true_eq, decide_eq_false_iff_not, beq_eq_false_iff_ne, bne_eq_false_iff_eq, Bool.not_eq_true', Bool.not_eq_false', Bool.not_eq_eq_eq_not, Bool.not_true, Bool.not_false, gt_iff_lt, ge_iff_le, Int.not_lt, Int.not_le] at h6)
  refine wd_take_yes 5 rfl rfl rfl (by kernel_rfl) (by kernel_rfl) hS12 (fun _ _ => r_move rfl) (by decide) ?_
  refine wd_take_yes 7 rfl rfl rfl (by kernel_rfl) (by kernel_rfl) hS12 (fun _ _ => r_move rfl) (by decide) ?_
  refine wd_eff_yes 6 rfl rfl rfl (by kernel_rfl) (e_call (r_call rfl Tryd.func15 rfl rfl) (buf_text_ret H12)) (by decide) ?_
  rintro y2 w13 H13
  have hS13 : (fun W => W.heap[b5]? = some (.cells (edCells i d s) 24 (0, 0))) w13 := H13.r5.get.2
  refine ⟨.inl hS13, ?_⟩
  refine wd_eff_yes 8 rfl rfl rfl (by kernel_rfl) (e_call (r_call rfl Tryd.func14 rfl rfl) (same_eq_ret _ _ _ (l.take i ++ text ++ l.drop j) H13.row_rd H13.r6.row_rd)) (by decide) ?_
  rintro _ w14 ⟨rfl, hD2⟩
  have HE2 := (H13.drewn hD2).right
  have hS14 : (fun W => W.heap[b5]? = some (.cells (edCells i d s) 24 (0, 0))) w14 := HE2.r4.get.2
  refine ⟨.inl hS14, ?_⟩
  refine wd_take 9 rfl (by kernel_rfl) (by kernel_rfl) hS14 (fun _ _ => r_pick_t rfl rfl) (by decide) ?_
  refine wd_take 10 rfl (by kernel_rfl) (by kernel_rfl) hS14 (fun _ _ => r_move rfl) (by decide) ?_
  refine wd_take_yes 11 rfl rfl rfl (by kernel_rfl) (by kernel_rfl) hS14 (fun W hW => r_load_whole Tryd.underlying24 rfl Tryd.sizeOf24 rfl rfl hW) (by decide) ?_
  refine wd_take_yes 14 rfl rfl rfl (by kernel_rfl) (by kernel_rfl) hS14 (fun W hW => r_load_whole Tryd.underlying24 rfl Tryd.sizeOf24 rfl rfl hW) (by decide) ?_
  refine wd_eff_yes 12 rfl rfl rfl (by kernel_rfl) (e_call (r_call rfl Tryd.func25 rfl rfl) (reverse_ret HE2 (fun W HW => HW.right.r5.row_rd) (fun W HW => HW.right.r6.row_rd) (by rw [e3]; omega) (by omega))) (by decide) ?_
  rintro _ w15 ⟨d3, s3, rfl, H15⟩
  have hS15 : (fun W => W.heap[b5]? = some (.cells (edCells i d s) 24 (0, 0))) w15 := H15.r6.get.2
  refine ⟨.inl hS15, ?_⟩
  refine wd_eff_yes 13 rfl rfl rfl (by kernel_rfl) (e_call (r_call rfl Tryd.func25 rfl rfl) (reverse_ret H15 (fun W HW => HW.row_rd) (fun W HW => HW.swap.row_rd) (by omega) (by rw [e3]; omega))) (by decide) ?_
  rintro _ w16 ⟨d4, s4, rfl, H16⟩
  have hS16 : (fun W => W.heap[b5]? = some (.cells (edCells i d s) 24 (0, 0))) w16 := H16.right.right.r6.get.2
  refine ⟨.inl hS16, ?_⟩
  refine wd_eff_yes 15 rfl rfl rfl (by kernel_rfl) (e_call (r_call rfl Tryd.func26 rfl rfl) (same_edit_ret H16 (fun W HW => HW.row_rd) (fun W HW => HW.swap.row_rd) (fun W HW => HW.right.right.right.right.right.r5.row_rd) (fun W HW => HW.right.right.right.right.right.r6.row_rd))) (by decide) ?_
  rintro _ w17 ⟨rfl, H17⟩
  have hS17 : (fun W => W.heap[b5]? = some (.cells (edCells i d s) 24 (0, 0))) w17 := H17.right.right.right.right.right.rot.get.2
  refine ⟨.inl hS17, ?_⟩
  refine wd_take 16 rfl (by kernel_rfl) (by kernel_rfl) hS17 (fun _ _ => r_pick_t rfl rfl) (by decide) ?_
  refine wd_take 17 rfl (by kernel_rfl) (by kernel_rfl) hS17 (fun _ _ => r_assign rfl) (by decide) ?_
  refine wd_done (by kernel_rfl) ?_
  refine wq_seq ?_
  refine wc_ret ?_
  refine wq_end1 (.inl rfl) Tryd.results5 rfl ?_
  exact ⟨rfl, H17.base⟩
theorem buffer_back (hT : Tabs w) (g : RdI w .i32 v l) (gx : RdI w .i32 tx text) :
    Ret Tryd.prog 5 #[v, .agg (opCells k f t tx a d0 i0)] w fun v w' => v = .bool true ∧ Below w.heap.size w w' := by
  by_cases h1 : 1024 < l.length
  · exact back_long hT g gx h1
  by_cases h2 : f < 0 ∨ l.length < f ∨ t < f ∨ l.length < t
  · exact back_bad hT g gx (by omega) h2
  by_cases h3 : 1024 < l.length - (t - f) + text.length
  · exact back_much hT g gx (by omega) (by omega) h3
  obtain ⟨i, rfl⟩ : ∃ i : Nat, f = i := ⟨f.toNat, by omega⟩
  obtain ⟨j, rfl⟩ : ∃ j : Nat, t = j := ⟨t.toNat, by omega⟩
  exact back_ok hT g gx (by omega) (by omega) (by omega)
end
end Go.Proofs.YtlldaaamdchkdaaDoor
