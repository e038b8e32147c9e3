/- The document's buffer, further: Move, Replace, Line; a buffer's Move and Line; whether the two are alike. -/
import Derived.Test.YtlldaaamdchkdaaDoorRef7
set_option linter.unusedSimpArgs false
set_option linter.unusedVariables false
namespace Go.Proofs.YtlldaaamdchkdaaDoor
open Go.RowKit
/-- Where the point is behind a move. -/
def mvP (n : Nat) (pt x : Int) : Int := if 0 ≤ x ∧ x ≤ n then x else pt
def mvE (n : Nat) (x : Int) : Int := if 0 ≤ x ∧ x ≤ n then 0 else 70
/-- A line's cells. -/
def lineCells (v : Value) (pt mk : Int) : Array Value := #[v, .int .i64 pt, .int .i64 mk]
theorem line_ones {v : Value} {pt mk : Int} (h : v.oneCell' = true) : ∀ u ∈ (lineCells v pt mk).toList, u.oneCell' = true := ref_ones h
section
variable {w0 w : World} {F : HP} {p : Nat} {L : List Int} {pt mk x : Int} {v : Value} {l : List Int}
theorem buf_move_ret (H : Holds w0 w (BufRep p L pt mk • F)) : Ret Tryd.prog 17 #[.pointer (some ⟨p, 0, none⟩), .int .i64 x] w fun v w' => v = .int .i64 (mvE L.length x) ∧ Holds w0 w' (BufRep p L (mvP L.length pt x) mk • F) := by
  refine ret_enter Tryd.func17 rfl Tryd.ntmps17 (Nat.le_of_ble_eq_true rfl) ?_
  dsimp only [slots0, Nat.reduceAdd]
  refine wc_seq ?_
  refine wc_region ?_
  refine wl_val (r_assign rfl) (ltn rfl) ?_
  refine wl_nil ?_
  refine wq_seq ?_
  refine wc_seq ?_
  refine wc_block ?_
  refine wc_seq ?_
  refine wc_region ?_
  refine wl_val (r_move rfl) (ltn rfl) ?_
  refine wl_eff (e_call (r_call rfl Tryd.func51 rfl rfl) (buf_none_rep H)) (ltn rfl) ?_
  rintro _ _ ⟨rfl, rfl⟩
  refine wl_val (r_assign rfl) (ltn rfl) ?_
  refine wl_nil ?_
  refine wq_seq ?_
  refine wc_cond rfl (fun h1 => ?_) (fun h1 => ?_)
  · (try simp only [beq_iff_eq, bne_iff_ne, ne_eq, decide_eq_true_eq, decide_eq_false_iff_not, beq_eq_false_iff_ne, bne_eq_false_iff_eq, Bool.not_eq_true', Bool.not_eq_false', Bool.not_eq_eq_eq_not, Bool.not_true, Bool.not_false, gt_iff_lt, ge_iff_le, Int.not_lt, Int.not_le] at h1)
    exfalso; first | contradiction | omega
  · (try simp only [beq_iff_eq, bne_iff_ne, ne_eq, decide_eq_true_eq, decide_eq_false_iff_not, beq_eq_false_iff_ne, bne_eq_false_iff_eq, Bool.not_eq_true', Bool.not_eq_false', Bool.not_eq_eq_eq_not, Bool.not_true, Bool.not_false, gt_iff_lt, ge_iff_le, Int.not_lt, Int.not_le] at h1)
    try (exfalso; first | contradiction | omega)
    all_goals
      
      refine wc_seq ?_
      refine wc_region ?_
      refine wl_val (r_move rfl) (ltn rfl) ?_
      refine wl_val (r_lss rfl rfl) (ltn rfl) ?_
      refine wl_split rfl (ltn rfl) (fun h2 => ?_) (fun h2 => ?_)
      · (try simp only [beq_iff_eq, bne_iff_ne, ne_eq, decide_eq_true_eq, decide_eq_false_iff_not, beq_eq_false_iff_ne, bne_eq_false_iff_eq, Bool.not_eq_true', Bool.not_eq_false', Bool.not_eq_eq_eq_not, Bool.not_true, Bool.not_false, gt_iff_lt, ge_iff_le, Int.not_lt, Int.not_le] at h2)
        try (exfalso; first | contradiction | omega)
        all_goals
          refine wl_no rfl rfl rfl (ltn rfl) ?_
          refine wl_no rfl rfl rfl (ltn rfl) ?_
          refine wl_no rfl rfl rfl (ltn rfl) ?_
          refine wl_no rfl rfl rfl (ltn rfl) ?_
          refine wl_val (r_pick_t rfl rfl) (ltn rfl) ?_
          refine wl_val (r_assign rfl) (ltn rfl) ?_
          refine wl_nil ?_
          refine wq_seq ?_
          refine wc_cond_t rfl ?_
          refine wc_seq ?_
          refine wc_region ?_
          refine wl_val (r_assign rfl) (ltn rfl) ?_
          refine wl_nil ?_
          refine wq_seq ?_
          refine wc_ret ?_
          refine wq_block_ret ?_
          refine wq_then_ret ?_
          refine wq_end1 (.inl rfl) Tryd.results17 rfl ?_
          exact ⟨by rw [mvE, if_neg (by omega)], by rw [mvP, if_neg (by omega)]; exact H⟩
      · (try simp only [beq_iff_eq, bne_iff_ne, ne_eq, decide_eq_true_eq, decide_eq_false_iff_not, beq_eq_false_iff_ne, bne_eq_false_iff_eq, Bool.not_eq_true', Bool.not_eq_false', Bool.not_eq_eq_eq_not, Bool.not_true, Bool.not_false, gt_iff_lt, ge_iff_le, Int.not_lt, Int.not_le] at h2)
        try (exfalso; first | contradiction | omega)
        all_goals
          refine wl_yes rfl rfl ?_
          refine wl_val (r_move rfl) (ltn rfl) ?_
          refine wl_yes rfl rfl ?_
          refine wl_val (r_move rfl) (ltn rfl) ?_
          refine wl_yes rfl rfl ?_
          refine wl_eff (e_call (r_call rfl Tryd.func45 rfl rfl) (buf_len_ret H)) (ltn rfl) ?_
          rintro _ w2 ⟨rfl, hD⟩
          have HL := H.drewn hD
          refine wl_yes rfl rfl ?_
          refine wl_val (r_gtr rfl rfl) (ltn rfl) ?_
          refine wl_val (r_pick_f rfl rfl) (ltn rfl) ?_
          refine wl_val (r_assign rfl) (ltn rfl) ?_
          refine wl_nil ?_
          refine wq_seq ?_
          refine wc_cond rfl (fun h3 => ?_) (fun h3 => ?_)
          · (try simp only [beq_iff_eq, bne_iff_ne, ne_eq, decide_eq_true_eq, decide_eq_false_iff_not, beq_eq_false_iff_ne, bne_eq_false_iff_eq, Bool.not_eq_true', Bool.not_eq_false', Bool.not_eq_eq_eq_not, Bool.not_true, Bool.not_false, gt_iff_lt, ge_iff_le, Int.not_lt, Int.not_le] at h3)
            try (exfalso; first | contradiction | omega)
            all_goals
              
              refine wc_seq ?_
              refine wc_region ?_
              refine wl_val (r_assign rfl) (ltn rfl) ?_
              refine wl_nil ?_
              refine wq_seq ?_
              refine wc_ret ?_
              refine wq_block_ret ?_
              refine wq_then_ret ?_
              refine wq_end1 (.inl rfl) Tryd.results17 rfl ?_
              exact ⟨by rw [mvE, if_neg (by omega)], by rw [mvP, if_neg (by omega)]; exact HL⟩
          · (try simp only [beq_iff_eq, bne_iff_ne, ne_eq, decide_eq_true_eq, decide_eq_false_iff_not, beq_eq_false_iff_ne, bne_eq_false_iff_eq, Bool.not_eq_true', Bool.not_eq_false', Bool.not_eq_eq_eq_not, Bool.not_true, Bool.not_false, gt_iff_lt, ge_iff_le, Int.not_lt, Int.not_le] at h3)
            try (exfalso; first | contradiction | omega)
            all_goals
              
              refine wc_skip ?_
              refine wq_block_normal ?_
              refine wq_seq ?_
              refine wc_seq ?_
              obtain ⟨a, c, xs, f, t, h11, h12, h13, h14, h15, h16, h17, hc1, hc2, hl, HB⟩ := HL.buf
              refine wc_region ?_
              refine wl_val (r_move rfl) (ltn rfl) ?_
              refine wl_val (r_move rfl) (ltn rfl) ?_
              refine wl_val (r_nil rfl) (ltn rfl) ?_
              refine wl_val ((by first | exact r_field0 4 Tryd.underlying67 rfl rfl Tryd.sizeOf3 (by decide) rfl | exact r_field 4 Tryd.underlying67 rfl rfl Tryd.sizeOf3 (by decide) rfl)) (ltn rfl) ?_
              refine wl_eff0 (e_store HB Tryd.sizeOf3 rfl rfl rfl (by rw [buf_size]; decide)) ?_
              rintro _ w3 H3
              rw [buf_set_point] at H3
              refine wl_nil ?_
              refine wq_seq ?_
              refine wc_seq ?_
              refine wc_region ?_
              refine wl_val (r_assign rfl) (ltn rfl) ?_
              refine wl_nil ?_
              refine wq_seq ?_
              refine wc_ret ?_
              refine wq_end1 (.inl rfl) Tryd.results17 rfl ?_
              exact ⟨by rw [mvE, if_pos (by omega)], by rw [mvP, if_pos (by omega)]; exact Holds.mk_buf h11 h12 h13 h14 h15 (by omega) h17 H3⟩
theorem ref_move_ret (H : Holds w0 w (RefRep p L pt mk • F)) : Ret Tryd.prog 18 #[.pointer (some ⟨p, 0, none⟩), .int .i64 x] w fun v w' => v = .int .i64 (mvE L.length x) ∧ Holds w0 w' (RefRep p L (mvP L.length pt x) mk • F) := by
  obtain ⟨a, c, g1, g2, g3, hc1, hc2, HB⟩ := H.ref
  refine ret_enter Tryd.func18 rfl Tryd.ntmps18 (Nat.le_of_ble_eq_true rfl) ?_
  dsimp only [slots0, Nat.reduceAdd]
  refine wc_seq ?_
  refine wc_region ?_
  refine wl_val (r_assign rfl) (ltn rfl) ?_
  refine wl_nil ?_
  refine wq_seq ?_
  refine wc_seq ?_
  refine wc_seq ?_
  refine wc_region ?_
  refine wl_val (r_move rfl) (ltn rfl) ?_
  refine wl_val (r_move rfl) (ltn rfl) ?_
  refine wl_eff (e_call (r_call rfl Tryd.func54 rfl rfl) (ref_place_ret HB.get.2)) (ltn rfl) ?_
  rintro _ _ ⟨rfl, rfl⟩
  refine wl_val (r_not rfl) (ltn rfl) ?_
  refine wl_nil ?_
  refine wq_seq ?_
  refine wc_cond rfl (fun h1 => ?_) (fun h1 => ?_)
  · (try simp only [beq_iff_eq, bne_iff_ne, ne_eq, decide_eq_true_eq, decide_eq_false_iff_not, beq_eq_false_iff_ne, bne_eq_false_iff_eq, Bool.not_eq_true', Bool.not_eq_false', Bool.not_eq_eq_eq_not, Bool.not_true, Bool.not_false, gt_iff_lt, ge_iff_le, Int.not_lt, Int.not_le] at h1)
    try (exfalso; first | contradiction | omega)
    all_goals
      
      refine wc_seq ?_
      refine wc_region ?_
      refine wl_val (r_assign rfl) (ltn rfl) ?_
      refine wl_nil ?_
      refine wq_seq ?_
      refine wc_ret ?_
      refine wq_then_ret ?_
      refine wq_end1 (.inl rfl) Tryd.results18 rfl ?_
      exact ⟨by rw [mvE, if_neg (by omega)], by rw [mvP, if_neg (by omega)]; exact H⟩
  · (try simp only [beq_iff_eq, bne_iff_ne, ne_eq, decide_eq_true_eq, decide_eq_false_iff_not, beq_eq_false_iff_ne, bne_eq_false_iff_eq, Bool.not_eq_true', Bool.not_eq_false', Bool.not_eq_eq_eq_not, Bool.not_true, Bool.not_false, gt_iff_lt, ge_iff_le, Int.not_lt, Int.not_le] at h1)
    try (exfalso; first | contradiction | omega)
    all_goals
      
      refine wc_skip ?_
      refine wq_seq ?_
      refine wc_seq ?_
      refine wc_region ?_
      refine wl_val (r_move rfl) (ltn rfl) ?_
      refine wl_val (r_move rfl) (ltn rfl) ?_
      refine wl_val (r_nil rfl) (ltn rfl) ?_
      refine wl_val ((by first | exact r_field0 1 Tryd.underlying44 rfl rfl Tryd.sizeOf3 (by decide) rfl | exact r_field 1 Tryd.underlying44 rfl rfl Tryd.sizeOf3 (by decide) rfl)) (ltn rfl) ?_
      refine wl_eff0 (e_store HB Tryd.sizeOf3 rfl rfl rfl (by rw [ref_size]; decide)) ?_
      rintro _ w2 H2
      rw [ref_set_point] at H2
      refine wl_nil ?_
      refine wq_seq ?_
      refine wc_seq ?_
      refine wc_region ?_
      refine wl_val (r_assign rfl) (ltn rfl) ?_
      refine wl_nil ?_
      refine wq_seq ?_
      refine wc_ret ?_
      refine wq_end1 (.inl rfl) Tryd.results18 rfl ?_
      exact ⟨by rw [mvE, if_pos (by omega)], by rw [mvP, if_pos (by omega)]; exact Holds.mk_ref g1 (by omega) g3 H2⟩
theorem buf_line_ret (H : Holds w0 w (BufRep p L pt mk • F)) : Ret Tryd.prog 21 #[.pointer (some ⟨p, 0, none⟩)] w fun v' w' => ∃ u, v' = .agg (lineCells u pt mk) ∧ Holds w0 w' (RowI 21 .i32 u L • BufRep p L pt mk • F) := by
  refine ret_enter Tryd.func21 rfl Tryd.ntmps21 (Nat.le_of_ble_eq_true rfl) ?_
  dsimp only [slots0, Nat.reduceAdd]
  refine wc_seq ?_
  refine wc_region ?_
  refine wl_eff (e_alloc H Tryd.zeroValue46) (ltn rfl) ?_
  rintro _ w1 ⟨b1, rfl, H1⟩
  refine wl_nil ?_
  refine wq_seq ?_
  refine wc_seq ?_
  refine wc_region ?_
  refine wl_val (r_move rfl) (ltn rfl) ?_
  refine wl_eff (e_call (r_call rfl Tryd.func15 rfl rfl) (buf_text_ret H1.swap)) (ltn rfl) ?_
  rintro u w2 H2
  obtain ⟨au, cu, hu, _⟩ := (H2.row_rd).form
  subst hu
  refine wl_val (r_move rfl) (ltn rfl) ?_
  refine wl_eff (e_call (r_call rfl Tryd.func23 rfl rfl) (buf_point_ret H2.swap)) (ltn rfl) ?_
  rintro _ _ ⟨rfl, rfl⟩
  refine wl_val (r_move rfl) (ltn rfl) ?_
  refine wl_eff (e_call (r_call rfl Tryd.func46 rfl rfl) (buf_mark_ret H2.swap)) (ltn rfl) ?_
  rintro _ _ ⟨rfl, rfl⟩
  refine wl_val (r_build (pl := #[(0, 1), (1, 1), (2, 1)]) (lineCells (.slice au L.length cu) pt mk) Tryd.underlying46 Tryd.zeroValue46 (fun w => by kernel_rfl) rfl (by kernel_rfl)) (ltn rfl) ?_
  refine wl_eff0 (e_store_whole (cs := lineCells (.slice au L.length cu) pt mk) H2.rot Tryd.sizeOf46 rfl rfl rfl rfl (line_ones rfl)) ?_
  rintro _ w5 H5
  refine wl_nil ?_
  refine wq_seq ?_
  refine wc_ret ?_
  refine wq_endC (.inl rfl) Tryd.results21 rfl Tryd.underlying46 rfl (by rw [show (Tryd.prog.info? 46).map (·.size) = some 3 from by kernel_rfl]; rfl) H5.get.2 ?_
  exact ⟨_, rfl, H5.right⟩
theorem ref_line_at {a : Option Addr} {c : Nat} (HB : Holds w0 w (blk p (.cells (refCells (.slice a L.length c) pt mk) 44 (0, 0)) • RowI 21 .i32 (.slice a L.length c) L • F)) (g1 : L.length ≤ 1024) :
    Ret Tryd.prog 56 #[.pointer (some ⟨p, 0, none⟩)] w fun v' w' => ∃ u, v' = .agg (lineCells u pt mk) ∧ Holds w0 w' (RowI 21 .i32 u L • blk p (.cells (refCells (.slice a L.length c) pt mk) 44 (0, 0)) • RowI 21 .i32 (.slice a L.length c) L • F) := by
  refine ret_enter Tryd.func56 rfl Tryd.ntmps56 (Nat.le_of_ble_eq_true rfl) ?_
  dsimp only [slots0, Nat.reduceAdd]
  refine wc_seq ?_
  refine wc_region ?_
  refine wl_eff (e_alloc HB Tryd.zeroValue46) (ltn rfl) ?_
  rintro _ w1 ⟨b1, rfl, H1⟩
  refine wl_nil ?_
  refine wq_seq ?_
  refine wc_seq ?_
  refine wc_region ?_
  refine wl_val (r_assign rfl) (ltn rfl) ?_
  refine wl_nil ?_
  refine wq_seq ?_
  refine wc_seq ?_
  refine wd_begin (n := 16) [0, 1, 2, 3, 4, 5, 6, 7, 8, 9, 10, 11, 12, 13, 14, 15] (fun W => W.heap[p]? = some (.cells (refCells (.slice a L.length c) pt mk) 44 (0, 0))) (by kernel_rfl) (by kernel_rfl) rfl ?_
  have hS0 : (fun W => W.heap[p]? = some (.cells (refCells (.slice a L.length c) pt mk) 44 (0, 0))) (w1.drew) := H1.swap.get.2
  have H2d := H1.drew
  refine wd_takeT 0 rfl (by kernel_rfl) (by kernel_rfl) hS0 (fun _ => r_move rfl) (ltn rfl) ?_
  refine wd_takeT 1 rfl (by kernel_rfl) (by kernel_rfl) hS0 (fun _ => r_move rfl) (ltn rfl) ?_
  refine wd_takeT 2 rfl (by kernel_rfl) (by kernel_rfl) hS0 (fun _ => r_nil rfl) (ltn rfl) ?_
  refine wd_takeT 3 rfl (by kernel_rfl) (by kernel_rfl) hS0 (fun _ => (by first | exact r_field0 0 Tryd.underlying44 rfl rfl Tryd.sizeOf22 (by decide) rfl | exact r_field 0 Tryd.underlying44 rfl rfl Tryd.sizeOf22 (by decide) rfl)) (ltn rfl) ?_
  refine wd_take 4 rfl (by kernel_rfl) (by kernel_rfl) hS0 (by decide) (fun W hW => r_load (plain_of Tryd.underlying22 rfl) rfl (cell_of_blk hW rfl)) (ltn rfl) ?_
  refine wd_takeT 6 rfl (by kernel_rfl) (by kernel_rfl) hS0 (fun _ => r_move rfl) (ltn rfl) ?_
  refine wd_takeT 7 rfl (by kernel_rfl) (by kernel_rfl) hS0 (fun _ => r_nil rfl) (ltn rfl) ?_
  refine wd_takeT 8 rfl (by kernel_rfl) (by kernel_rfl) hS0 (fun _ => (by first | exact r_field0 1 Tryd.underlying44 rfl rfl Tryd.sizeOf3 (by decide) rfl | exact r_field 1 Tryd.underlying44 rfl rfl Tryd.sizeOf3 (by decide) rfl)) (ltn rfl) ?_
  refine wd_take 9 rfl (by kernel_rfl) (by kernel_rfl) hS0 (by decide) (fun W hW => r_load (plain_of Tryd.underlying3 rfl) rfl (cell_of_blk hW rfl)) (ltn rfl) ?_
  refine wd_takeT 10 rfl (by kernel_rfl) (by kernel_rfl) hS0 (fun _ => r_move rfl) (ltn rfl) ?_
  refine wd_takeT 11 rfl (by kernel_rfl) (by kernel_rfl) hS0 (fun _ => r_nil rfl) (ltn rfl) ?_
  refine wd_takeT 12 rfl (by kernel_rfl) (by kernel_rfl) hS0 (fun _ => (by first | exact r_field0 2 Tryd.underlying44 rfl rfl Tryd.sizeOf3 (by decide) rfl | exact r_field 2 Tryd.underlying44 rfl rfl Tryd.sizeOf3 (by decide) rfl)) (ltn rfl) ?_
  refine wd_take 13 rfl (by kernel_rfl) (by kernel_rfl) hS0 (by decide) (fun W hW => r_load (plain_of Tryd.underlying3 rfl) rfl (cell_of_blk hW rfl)) (ltn rfl) ?_
  refine wd_eff 5 rfl (by kernel_rfl) (e_append_ints (l := []) (H2d.row_nil none) H2d.rot.row_rd Tryd.underlying22 info_i32 rfl rfl (by simp only [List.length_nil]; omega) (by simp only [List.length_nil]; omega)) (ltn rfl) ?_
  rintro u w2 H2
  rw [List.nil_append] at H2
  obtain ⟨au, cu, hu, _⟩ := (H2.row_rd).form
  subst hu
  have hS2 : (fun W => W.heap[p]? = some (.cells (refCells (.slice a L.length c) pt mk) 44 (0, 0))) w2 := H2.rot.get.2
  refine keepS hS2 ?_
  refine wd_takeT 14 rfl (by kernel_rfl) (by kernel_rfl) hS2 (fun _ => r_build (pl := #[(0, 1), (1, 1), (2, 1)]) (lineCells (.slice au L.length cu) pt mk) Tryd.underlying46 Tryd.zeroValue46 (fun w => by kernel_rfl) rfl (by kernel_rfl)) (ltn rfl) ?_
  refine wd_eff0 15 rfl (by kernel_rfl) (e_store_whole (cs := lineCells (.slice au L.length cu) pt mk) H2.swap Tryd.sizeOf46 rfl rfl rfl rfl (line_ones rfl)) ?_
  rintro _ w3 H3
  refine keepE (by kernel_rfl) ?_
  refine wd_done (by kernel_rfl) ?_
  refine wq_seq ?_
  refine wc_ret ?_
  refine wq_endC (.inl rfl) Tryd.results56 rfl Tryd.underlying46 rfl (by rw [show (Tryd.prog.info? 46).map (·.size) = some 3 from by kernel_rfl]; rfl) H3.get.2 ?_
  exact ⟨_, rfl, H3.right⟩
theorem same_line_ret {u u' : Value} (H : Holds w0 w F) (g1 : FRdI w0 F .i32 u l) (g2 : FRdI w0 F .i32 u' l) : Ret Tryd.prog 44 #[.agg (lineCells u pt mk), .agg (lineCells u' pt mk)] w fun v w' => v = .bool true ∧ Holds w0 w' F := by
  refine ret_enter Tryd.func44 rfl Tryd.ntmps44 (Nat.le_of_ble_eq_true rfl) ?_
  dsimp only [slots0, Nat.reduceAdd]
  refine wc_seq ?_
  refine wc_region ?_
  refine wl_eff (e_box H rfl) (ltn rfl) ?_
  rintro _ w1 ⟨b1, rfl, H1⟩
  refine wl_eff (e_box H1 rfl) (ltn rfl) ?_
  rintro _ w2 ⟨b2, rfl, H2⟩
  refine wl_val (r_assign rfl) (ltn rfl) ?_
  refine wl_nil ?_
  refine wq_seq ?_
  refine wc_seq ?_
  have HB : Holds w0 w2 (blk b2 (.cells (lineCells u' pt mk) 46 (0, 0)) • blk b1 (.cells (lineCells u pt mk) 46 (0, 0)) • F) := H2
  refine wc_region ?_
  refine wl_val ((by first | exact r_field0 0 Tryd.underlying46 rfl rfl Tryd.sizeOf22 (by decide) rfl | exact r_field 0 Tryd.underlying46 rfl rfl Tryd.sizeOf22 (by decide) rfl)) (ltn rfl) ?_
  refine wl_val (r_load (plain_of Tryd.underlying22 rfl) rfl (cell_of_blk HB.swap.get.2 rfl)) (ltn rfl) ?_
  refine wl_val ((by first | exact r_field0 0 Tryd.underlying46 rfl rfl Tryd.sizeOf22 (by decide) rfl | exact r_field 0 Tryd.underlying46 rfl rfl Tryd.sizeOf22 (by decide) rfl)) (ltn rfl) ?_
  refine wl_val (r_load (plain_of Tryd.underlying22 rfl) rfl (cell_of_blk HB.get.2 rfl)) (ltn rfl) ?_
  refine wl_eff (e_call (r_call rfl Tryd.func14 rfl rfl) (same_eq_ret _ _ _ l (g1 _ HB.right.right) (g2 _ HB.right.right))) (ltn rfl) ?_
  rintro _ w3 ⟨rfl, hD1⟩
  have HE1 := HB.drewn hD1
  refine wl_val (r_move rfl) (ltn rfl) ?_
  refine wl_yes rfl rfl ?_
  refine wl_val ((by first | exact r_field0 1 Tryd.underlying46 rfl rfl Tryd.sizeOf3 (by decide) rfl | exact r_field 1 Tryd.underlying46 rfl rfl Tryd.sizeOf3 (by decide) rfl)) (ltn rfl) ?_
  refine wl_yes rfl rfl ?_
  refine wl_val (r_load (plain_of Tryd.underlying3 rfl) rfl (cell_of_blk HE1.swap.get.2 rfl)) (ltn rfl) ?_
  refine wl_yes rfl rfl ?_
  refine wl_val ((by first | exact r_field0 1 Tryd.underlying46 rfl rfl Tryd.sizeOf3 (by decide) rfl | exact r_field 1 Tryd.underlying46 rfl rfl Tryd.sizeOf3 (by decide) rfl)) (ltn rfl) ?_
  refine wl_yes rfl rfl ?_
  refine wl_val (r_load (plain_of Tryd.underlying3 rfl) rfl (cell_of_blk HE1.get.2 rfl)) (ltn rfl) ?_
  refine wl_yes rfl rfl ?_
  refine wl_val (r_known_t (r_eql rfl rfl) (by first | (rw [decide_eq_true_eq]; omega) | (rw [decide_eq_false_iff_not]; omega) | (rw [beq_iff_eq]; omega) | (rw [beq_eq_false_iff_ne]; omega) | (rw [bne_iff_ne]; omega) | (rw [bne_eq_false_iff_eq]; omega) | (simp; done) | (simp; omega))) (ltn rfl) ?_
  refine wl_val (r_pick_t rfl rfl) (ltn rfl) ?_
  refine wl_val (r_move rfl) (ltn rfl) ?_
  refine wl_yes rfl rfl ?_
  refine wl_val ((by first | exact r_field0 2 Tryd.underlying46 rfl rfl Tryd.sizeOf3 (by decide) rfl | exact r_field 2 Tryd.underlying46 rfl rfl Tryd.sizeOf3 (by decide) rfl)) (ltn rfl) ?_
  refine wl_yes rfl rfl ?_
  refine wl_val (r_load (plain_of Tryd.underlying3 rfl) rfl (cell_of_blk HE1.swap.get.2 rfl)) (ltn rfl) ?_
  refine wl_yes rfl rfl ?_
  refine wl_val ((by first | exact r_field0 2 Tryd.underlying46 rfl rfl Tryd.sizeOf3 (by decide) rfl | exact r_field 2 Tryd.underlying46 rfl rfl Tryd.sizeOf3 (by decide) rfl)) (ltn rfl) ?_
  refine wl_yes rfl rfl ?_
  refine wl_val (r_load (plain_of Tryd.underlying3 rfl) rfl (cell_of_blk HE1.get.2 rfl)) (ltn rfl) ?_
  refine wl_yes rfl rfl ?_
  refine wl_val (r_known_t (r_eql rfl rfl) (by first | (rw [decide_eq_true_eq]; omega) | (rw [decide_eq_false_iff_not]; omega) | (rw [beq_iff_eq]; omega) | (rw [beq_eq_false_iff_ne]; omega) | (rw [bne_iff_ne]; omega) | (rw [bne_eq_false_iff_eq]; omega) | (simp; done) | (simp; omega))) (ltn rfl) ?_
  refine wl_val (r_pick_t rfl rfl) (ltn rfl) ?_
  refine wl_val (r_assign rfl) (ltn rfl) ?_
  refine wl_nil ?_
  refine wq_seq ?_
  refine wc_ret ?_
  refine wq_end1 (.inl rfl) Tryd.results44 rfl ?_
  exact ⟨rfl, HE1.right.right⟩
end
end Go.Proofs.YtlldaaamdchkdaaDoor
