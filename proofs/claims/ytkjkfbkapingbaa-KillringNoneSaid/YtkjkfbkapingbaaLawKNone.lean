/- KillringNone, walked. -/
import Derived.Test.YtkjkfbkapingbaaKNone
import Derived.Test.YtkjkfbkapingbaaLive
set_option linter.unusedSimpArgs false
set_option linter.unusedVariables false
namespace Go.Proofs.Ytkjkfbkapingbaa
open Go.RowKit
theorem killring_none {w : World} {kd way n stop : Int} {tx : Value} (htx : tx.oneCell' = true) :
    Ret Try.prog 4 #[.agg #[.int .i64 kd, .int .i64 way, tx, .int .i64 n, .int .i64 stop]] w fun v w' => v = .bool true ∧ Below w.heap.size w w' := by
  obtain ⟨F, H⟩ : ∃ F, Holds w w F := ⟨_, Holds.start w⟩
  refine ret_enter Try.func4 rfl Try.ntmps4 (Nat.le_of_ble_eq_true rfl) ?_
  dsimp only [slots0, Nat.reduceAdd]
  refine wc_seq ?_
  refine wc_region ?_
  refine wl_eff (e_boxL (l := [_, _, _, _, _]) H rfl rfl) (ltn rfl) ?_
  rintro _ w1 ⟨b1, rfl, H1⟩
  refine wl_eff (e_allocL (l := [_]) H1 Try.zeroValue4 rfl) (ltn rfl) ?_
  rintro _ w2 ⟨b2, rfl, H2⟩
  refine wl_nil ?_
  refine wq_seq ?_
  refine wc_seq ?_
  refine wc_seq ?_
  refine wc_region ?_
  refine wl_eff (e_call (r_call rfl Try.func10 rfl rfl) (live_ret H2)) (ltn rfl) ?_
  rintro _ w3 ⟨rfl, H3⟩
  refine wl_val (r_not rfl) (ltn rfl) ?_
  refine wl_nil ?_
  refine wq_seq ?_
  refine wc_cond rfl (fun h1 => ?_) (fun h1 => ?_)
  · (try simp only [beq_iff_eq, bne_iff_ne, ne_eq, decide_eq_true_eq, decide_eq_false_iff_not, beq_eq_false_iff_ne, bne_eq_false_iff_eq, Bool.not_eq_true', Bool.not_eq_false', Bool.not_eq_eq_eq_not, Bool.not_true, Bool.not_false, gt_iff_lt, ge_iff_le, Int.not_lt, Int.not_le] at h1)
    try (exfalso; first | contradiction | omega)
    all_goals
      
      refine wc_seq ?_
      refine wc_region ?_
      refine wl_eff0 (e_storeL 0 (l' := [_]) H3 Try.sizeOf4 rfl rfl (by first | rfl | assumption) rfl rfl) ?_
      rintro _ w4 H4
      refine wl_nil ?_
      refine wq_seq ?_
      refine wc_ret ?_
      refine wq_then_ret ?_
      refine wq_end (.inl rfl) (resC1 Try.results4 rfl (plain_of Try.underlying4 rfl) (cell_of_blk (H4).get.2 rfl)) ?_
      exact ⟨rfl, H4.base⟩
  · (try simp only [beq_iff_eq, bne_iff_ne, ne_eq, decide_eq_true_eq, decide_eq_false_iff_not, beq_eq_false_iff_ne, bne_eq_false_iff_eq, Bool.not_eq_true', Bool.not_eq_false', Bool.not_eq_eq_eq_not, Bool.not_true, Bool.not_false, gt_iff_lt, ge_iff_le, Int.not_lt, Int.not_le] at h1)
    try (exfalso; first | contradiction | omega)
    all_goals
      
      refine wc_skip ?_
      refine wq_seq ?_
      refine wc_seq ?_
      refine wc_seq ?_
      refine wc_region ?_
      refine wl_val (r_build (pl := #[(0, 1), (1, 60), (61, 1), (62, 1), (63, 1)]) (zeroRing) Try.underlying38 Try.zeroValue38 (fun w => by kernel_rfl) rfl (by kernel_rfl)) (ltn rfl) ?_
      refine wl_eff (e_boxL (l := [_, _, _, _, _, _, _, _, _, _, _, _, _, _, _, _, _, _, _, _, _, _, _, _, _, _, _, _, _, _, _, _, _, _, _, _, _, _, _, _, _, _, _, _, _, _, _, _, _, _, _, _, _, _, _, _, _, _, _, _, _, _, _, _]) H3 rfl rfl) (ltn rfl) ?_
      rintro _ w5 ⟨b5, rfl, H5⟩
      refine wl_eff (e_lit_row (vs := [.pointer none, _]) H5 Try.underlying39 Try.sizeOf24 Try.zeroValue24 rfl rfl rfl (by decide) (ones_cons (by first | rfl | assumption) (ones_cons (by first | rfl | assumption) ones_nil))) (ltn rfl) ?_
      rintro l6 w6 H6
      refine wl_val (r_lenS ((H6).row_rd) Try.underlying39 rfl) (ltn rfl) ?_
      refine wl_val (r_move rfl) (ltn rfl) ?_
      refine wl_nil ?_
      refine wq_seq ?_
      refine wc_block ?_
      have HM := H6.f4.f4.f4.f4.mark0
      refine wc_loopD (fun (⟨k, ds⟩ : Nat × List Nat) => ds) [(1, _), (2, _), (13, _), (14, _)] (fun (⟨k, ds⟩ : Nat × List Nat) => [(15, .int .i64 (k : Int))]) (fun (⟨k, ds⟩ : Nat × List Nat) W => k ≤ 2 ∧ Holds w W (Marks ds • Row 24 1 l6 2 [.pointer none, .pointer (some ⟨b5, 0, none⟩)] • blk b5 (.cells zeroRing 38 (0, 0)) • blk b2 (.cells #[.bool false] 4 (0, 0)) • blk b1 (.cells #[.int .i64 kd, .int .i64 way, tx, .int .i64 n, .int .i64 stop] 35 (0, 0)) • F)) (fun (⟨k, ds⟩ : Nat × List Nat) => 2 - k) ((0, [])) (Sub.cons rfl (Sub.cons rfl (Sub.cons rfl (Sub.cons rfl (Sub.nil _))))) (Sub.cons rfl (Sub.nil _)) ⟨by omega, HM⟩ ?_
      rintro ⟨k, ds⟩ w7 ⟨hk, HL⟩
      dsimp only [List.cons_append, List.nil_append]
      refine wc_seq ?_
      refine wc_region ?_
      refine wl_val (r_lss rfl rfl) (ltn rfl) ?_
      refine wl_nil ?_
      refine wq_seq ?_
      refine wc_seq ?_
      refine wc_cond rfl (fun h2 => ?_) (fun h2 => ?_)
      · (try simp only [beq_iff_eq, bne_iff_ne, ne_eq, decide_eq_true_eq, decide_eq_false_iff_not, beq_eq_false_iff_ne, bne_eq_false_iff_eq, Bool.not_eq_true', Bool.not_eq_false', Bool.not_eq_eq_eq_not, Bool.not_true, Bool.not_false, gt_iff_lt, ge_iff_le, Int.not_lt, Int.not_le] at h2)
        try (exfalso; first | contradiction | omega)
        all_goals
          
          refine wc_skip ?_
          refine wq_seq ?_
          refine wc_seq ?_
          refine wc_block ?_
          refine wc_seq ?_
          refine wc_region ?_
          obtain ⟨bl6, ol6, cl6, el6⟩ := Rd.posV ((HL.f2).row_rd) (by omega)
          cases el6
          refine wl_val (r_index Try.underlying39 Try.sizeOf24 rfl rfl (by omega)) (ltn rfl) ?_
          refine wl_val (r_load (plain_of Try.underlying24 rfl) rfl (by first | exact Rd.at1n ((HL.f2).row_rd) (by omega) | exact Rd.at0 ((HL.f2).row_rd) (by omega) | exact Rd.at1 ((HL.f2).row_rd) (by omega))) (ltn rfl) ?_
          obtain ⟨bv, hbv, hu⟩ : ∃ bv, [Value.pointer none, .pointer (some ⟨b5, 0, none⟩)].getD k undef = bv ∧ Unmade w (blk b5 (.cells zeroRing 38 (0, 0)) • F) bv := by
            have hk2 : k < 2 := by omega
            match k, hk2 with
            | 0, _ => exact ⟨_, rfl, unmade_nil _ _⟩
            | 1, _ => exact ⟨_, rfl, unmade_zero _ _ _⟩
          rw [hbv]
          refine wl_val (r_assign rfl) (ltn rfl) ?_
          refine wl_nil ?_
          refine wq_seq ?_
          refine wc_seq ?_
          refine wc_region ?_
          refine wl_val (r_move rfl) (ltn rfl) ?_
          refine wl_eff (e_call (r_call rfl Try.func12 rfl rfl) (none_yank (HL.f3.f5.f5.f5.f5.g4) hu)) (ltn rfl) ?_
          rintro _ _ ⟨rfl, rfl⟩
          refine wl_val (r_move rfl) (ltn rfl) ?_
          refine wl_val (r_extract rfl rfl) (ltn rfl) ?_
          refine wl_val (r_extract rfl rfl) (ltn rfl) ?_
          refine wl_val (r_assign rfl) (ltn rfl) ?_
          refine wl_val (r_assign rfl) (ltn rfl) ?_
          refine wl_nil ?_
          refine wq_seq ?_
          refine wc_seq ?_
          refine wc_region ?_
          refine wl_val (r_move rfl) (ltn rfl) ?_
          refine wl_val ((by first | exact r_field0 3 Try.underlying35 rfl rfl Try.sizeOf3 (by decide) rfl | exact r_field 3 Try.underlying35 rfl rfl Try.sizeOf3 (by decide) rfl)) (ltn rfl) ?_
          refine wl_val (r_load (plain_of Try.underlying3 rfl) rfl (cell_of_blk (HL.f5).get.2 rfl)) (ltn rfl) ?_
          refine wl_eff (e_call (r_call rfl Try.func15 rfl rfl) (none_rotate (HL.f3.f5.f5.f5.f5.g4) hu)) (ltn rfl) ?_
          rintro _ _ ⟨rfl, rfl⟩
          refine wl_val (r_move rfl) (ltn rfl) ?_
          refine wl_val (r_extract rfl rfl) (ltn rfl) ?_
          refine wl_val (r_extract rfl rfl) (ltn rfl) ?_
          refine wl_val (r_assign rfl) (ltn rfl) ?_
          refine wl_val (r_assign rfl) (ltn rfl) ?_
          refine wl_nil ?_
          refine wq_seq ?_
          refine wc_seq ?_
          refine wc_seq ?_
          refine wc_region ?_
          refine wl_val (r_move rfl) (ltn rfl) ?_
          refine wl_val (r_len Try.underlying22 rfl) (ltn rfl) ?_
          refine wl_val (r_move rfl) (ltn rfl) ?_
          refine wl_val (r_len Try.underlying22 rfl) (ltn rfl) ?_
          refine wl_val (r_add rfl rfl (by omega)) (ltn rfl) ?_
          refine wl_val (r_neq rfl rfl) (ltn rfl) ?_
          refine wl_split rfl (ltn rfl) (fun h => by exfalso; (try simp only [beq_iff_eq, bne_iff_ne, ne_eq, decide_eq_true_eq, decide_eq_false_iff_not, beq_eq_false_iff_ne, bne_eq_false_iff_eq, Bool.not_eq_true', Bool.not_eq_false', Bool.not_eq_eq_eq_not, Bool.not_true, Bool.not_false, gt_iff_lt, ge_iff_le, Int.not_lt, Int.not_le] at h); simp at h) (fun h3 => ?_)
          (try simp only [beq_iff_eq, bne_iff_ne, ne_eq, decide_eq_true_eq, decide_eq_false_iff_not, beq_eq_false_iff_ne, bne_eq_false_iff_eq, Bool.not_eq_true', Bool.not_eq_false', Bool.not_eq_eq_eq_not, Bool.not_true, Bool.not_false, gt_iff_lt, ge_iff_le, Int.not_lt, Int.not_le] at h3)
          refine wl_yes rfl rfl ?_
          refine wl_val (r_move rfl) (ltn rfl) ?_
          refine wl_yes rfl rfl ?_
          refine wl_val (r_neq rfl rfl) (ltn rfl) ?_
          refine wl_val (r_pick_f rfl rfl) (ltn rfl) ?_
          refine wl_split rfl (ltn rfl) (fun h => by exfalso; (try simp only [beq_iff_eq, bne_iff_ne, ne_eq, decide_eq_true_eq, decide_eq_false_iff_not, beq_eq_false_iff_ne, bne_eq_false_iff_eq, Bool.not_eq_true', Bool.not_eq_false', Bool.not_eq_eq_eq_not, Bool.not_true, Bool.not_false, gt_iff_lt, ge_iff_le, Int.not_lt, Int.not_le] at h); simp at h) (fun h4 => ?_)
          (try simp only [beq_iff_eq, bne_iff_ne, ne_eq, decide_eq_true_eq, decide_eq_false_iff_not, beq_eq_false_iff_ne, bne_eq_false_iff_eq, Bool.not_eq_true', Bool.not_eq_false', Bool.not_eq_eq_eq_not, Bool.not_true, Bool.not_false, gt_iff_lt, ge_iff_le, Int.not_lt, Int.not_le] at h4)
          refine wl_yes rfl rfl ?_
          refine wl_val (r_move rfl) (ltn rfl) ?_
          refine wl_yes rfl rfl ?_
          refine wl_val (r_neq rfl rfl) (ltn rfl) ?_
          refine wl_val (r_pick_f rfl rfl) (ltn rfl) ?_
          refine wl_split rfl (ltn rfl) (fun h => by exfalso; (try simp only [beq_iff_eq, bne_iff_ne, ne_eq, decide_eq_true_eq, decide_eq_false_iff_not, beq_eq_false_iff_ne, bne_eq_false_iff_eq, Bool.not_eq_true', Bool.not_eq_false', Bool.not_eq_eq_eq_not, Bool.not_true, Bool.not_false, gt_iff_lt, ge_iff_le, Int.not_lt, Int.not_le] at h); simp at h) (fun h5 => ?_)
          (try simp only [beq_iff_eq, bne_iff_ne, ne_eq, decide_eq_true_eq, decide_eq_false_iff_not, beq_eq_false_iff_ne, bne_eq_false_iff_eq, Bool.not_eq_true', Bool.not_eq_false', Bool.not_eq_eq_eq_not, Bool.not_true, Bool.not_false, gt_iff_lt, ge_iff_le, Int.not_lt, Int.not_le] at h5)
          refine wl_yes rfl rfl ?_
          refine wl_val (r_move rfl) (ltn rfl) ?_
          refine wl_yes rfl rfl ?_
          refine wl_val ((by first | exact r_field0 1 Try.underlying35 rfl rfl Try.sizeOf3 (by decide) rfl | exact r_field 1 Try.underlying35 rfl rfl Try.sizeOf3 (by decide) rfl)) (ltn rfl) ?_
          refine wl_yes rfl rfl ?_
          refine wl_val (r_load (plain_of Try.underlying3 rfl) rfl (cell_of_blk (HL.f5).get.2 rfl)) (ltn rfl) ?_
          refine wl_yes rfl rfl ?_
          refine wl_val ((by first | exact r_field0 2 Try.underlying35 rfl rfl Try.sizeOf22 (by decide) rfl | exact r_field 2 Try.underlying35 rfl rfl Try.sizeOf22 (by decide) rfl)) (ltn rfl) ?_
          refine wl_yes rfl rfl ?_
          refine wl_val (r_load (plain_of Try.underlying22 rfl) rfl (cell_of_blk (HL.f5).get.2 rfl)) (ltn rfl) ?_
          refine wl_yes rfl rfl ?_
          refine wl_eff (e_call (r_call rfl Try.func11 rfl rfl) (none_kill (HL.f3.f5.f5.f5.f5.g4) hu)) (ltn rfl) ?_
          rintro _ _ ⟨rfl, rfl⟩
          refine wl_yes rfl rfl ?_
          refine wl_val (r_neq rfl rfl) (ltn rfl) ?_
          refine wl_val (r_pick_f rfl rfl) (ltn rfl) ?_
          refine wl_split rfl (ltn rfl) (fun h => by exfalso; (try simp only [beq_iff_eq, bne_iff_ne, ne_eq, decide_eq_true_eq, decide_eq_false_iff_not, beq_eq_false_iff_ne, bne_eq_false_iff_eq, Bool.not_eq_true', Bool.not_eq_false', Bool.not_eq_eq_eq_not, Bool.not_true, Bool.not_false, gt_iff_lt, ge_iff_le, Int.not_lt, Int.not_le] at h); simp at h) (fun h6 => ?_)
          (try simp only [beq_iff_eq, bne_iff_ne, ne_eq, decide_eq_true_eq, decide_eq_false_iff_not, beq_eq_false_iff_ne, bne_eq_false_iff_eq, Bool.not_eq_true', Bool.not_eq_false', Bool.not_eq_eq_eq_not, Bool.not_true, Bool.not_false, gt_iff_lt, ge_iff_le, Int.not_lt, Int.not_le] at h6)
          refine wl_yes rfl rfl ?_
          refine wl_val (r_move rfl) (ltn rfl) ?_
          refine wl_yes rfl rfl ?_
          refine wl_eff (e_call (r_call rfl Try.func14 rfl rfl) (none_len (HL.f3.f5.f5.f5.f5.g4) hu)) (ltn rfl) ?_
          rintro _ _ ⟨rfl, rfl⟩
          refine wl_yes rfl rfl ?_
          refine wl_val (r_neq rfl rfl) (ltn rfl) ?_
          refine wl_val (r_pick_f rfl rfl) (ltn rfl) ?_
          refine wl_split rfl (ltn rfl) (fun h => by exfalso; (try simp only [beq_iff_eq, bne_iff_ne, ne_eq, decide_eq_true_eq, decide_eq_false_iff_not, beq_eq_false_iff_ne, bne_eq_false_iff_eq, Bool.not_eq_true', Bool.not_eq_false', Bool.not_eq_eq_eq_not, Bool.not_true, Bool.not_false, gt_iff_lt, ge_iff_le, Int.not_lt, Int.not_le] at h); simp at h) (fun h7 => ?_)
          (try simp only [beq_iff_eq, bne_iff_ne, ne_eq, decide_eq_true_eq, decide_eq_false_iff_not, beq_eq_false_iff_ne, bne_eq_false_iff_eq, Bool.not_eq_true', Bool.not_eq_false', Bool.not_eq_eq_eq_not, Bool.not_true, Bool.not_false, gt_iff_lt, ge_iff_le, Int.not_lt, Int.not_le] at h7)
          refine wl_yes rfl rfl ?_
          refine wl_val (r_move rfl) (ltn rfl) ?_
          refine wl_yes rfl rfl ?_
          refine wl_eff (e_call (r_call rfl Try.func16 rfl rfl) (none_clone (HL.f3.f5.f5.f5.f5.g4) hu)) (ltn rfl) ?_
          rintro _ _ ⟨rfl, rfl⟩
          refine wl_yes rfl rfl ?_
          refine wl_val (r_ptr_nnil Try.underlying24 rfl rfl) (ltn rfl) ?_
          refine wl_val (r_pick_f rfl rfl) (ltn rfl) ?_
          refine wl_nil ?_
          refine wq_seq ?_
          refine wc_cond rfl (fun h => by exfalso; (try simp only [beq_iff_eq, bne_iff_ne, ne_eq, decide_eq_true_eq, decide_eq_false_iff_not, beq_eq_false_iff_ne, bne_eq_false_iff_eq, Bool.not_eq_true', Bool.not_eq_false', Bool.not_eq_eq_eq_not, Bool.not_true, Bool.not_false, gt_iff_lt, ge_iff_le, Int.not_lt, Int.not_le] at h); simp at h) (fun h8 => ?_)
          (try simp only [beq_iff_eq, bne_iff_ne, ne_eq, decide_eq_true_eq, decide_eq_false_iff_not, beq_eq_false_iff_ne, bne_eq_false_iff_eq, Bool.not_eq_true', Bool.not_eq_false', Bool.not_eq_eq_eq_not, Bool.not_true, Bool.not_false, gt_iff_lt, ge_iff_le, Int.not_lt, Int.not_le] at h8)
          refine wc_skip ?_
          refine wq_seq ?_
          refine wc_seq ?_
          refine wc_region ?_
          refine wl_val (r_move rfl) (ltn rfl) ?_
          refine wl_eff (e_call (r_call rfl Try.func17 rfl rfl) (none_all (HL.f3.f5.f5.f5.f5.g4) hu)) (ltn rfl) ?_
          rintro _ w13 ⟨ba, rfl, H13⟩
          simp only [sep_assoc] at H13
          refine wl_nil ?_
          refine wq_seq ?_
          refine wc_block ?_
          refine wc_rangeFunc rfl (none_iter ba) (fun j => Marks ds • Row 24 1 (.slice (some ⟨bl6, ol6, none⟩) (2) cl6) 2 [.pointer none, .pointer (some ⟨b5, 0, none⟩)] • blk b5 (.cells zeroRing 38 (0, 0)) • blk b2 (.cells #[.bool false] 4 (0, 0)) • blk b1 (.cells #[.int .i64 kd, .int .i64 way, tx, .int .i64 n, .int .i64 stop] 35 (0, 0)) • F) (fact False) (fun _ => fact False) (H13.f5.f5.f6.f6.f6.f6.f6.f6.f6.f6.f6.f6.comm) (by rfl) ?_ ?_ ?_ ?_
          · rintro l14 j hkR0 vs14 A14 ⟨x14, y14, rfl, rfl⟩ G14 w14 H14
            exact absurd hkR0 (Nat.not_lt_zero _)
          · rintro D15 w15 H15
            have H15d := H15.ed
            try simp only [sep_assoc, emp_sep, sep_emp] at H15d
            have H15m := (H15d.f3.f2).markC
            refine wq_block_normal ?_
            refine wq_block_normal ?_
            refine wq_seq ?_
            refine wc_region ?_
            refine wl_val (r_add rfl rfl (by omega)) (ltn rfl) ?_
            refine wl_val (r_move rfl) (ltn rfl) ?_
            refine wl_nil ?_
            refine wq_roundD ((k + 1, _)) ?_ ?_ ?_ ?_
            · exact (Sub.cons rfl (Sub.nil _))
            · exact (Sub.cons rfl (Sub.cons rfl (Sub.cons rfl (Sub.cons rfl (Sub.nil _)))))
            · (try dsimp only)
              exact ⟨by omega, H15m.f2.right.f5.f5.f5.f5.f5⟩
            · (try dsimp only); omega
          · rintro D w H; exact absurd H.swap.fact.1 id
          · rintro id D w H; exact absurd H.swap.fact.1 fun h => h
      · (try simp only [beq_iff_eq, bne_iff_ne, ne_eq, decide_eq_true_eq, decide_eq_false_iff_not, beq_eq_false_iff_ne, bne_eq_false_iff_eq, Bool.not_eq_true', Bool.not_eq_false', Bool.not_eq_eq_eq_not, Bool.not_true, Bool.not_false, gt_iff_lt, ge_iff_le, Int.not_lt, Int.not_le] at h2)
        try (exfalso; first | contradiction | omega)
        all_goals
          
          refine wc_exit ?_
          refine wq_then_exit ?_
          refine wq_then_exit ?_
          refine wq_block_hit ?_
          refine wq_seq ?_
          refine wc_seq ?_
          refine wc_region ?_
          refine wl_eff0 (e_storeL 0 (l' := [_]) HL.f4 Try.sizeOf4 rfl rfl (by first | rfl | assumption) rfl rfl) ?_
          rintro _ w16 H16
          refine wl_nil ?_
          refine wq_seq ?_
          refine wc_ret ?_
          refine wq_endM (.inl rfl) (H16.f2) (fun w17 H17 => ?_)
          refine ⟨_, resC1 Try.results4 rfl (plain_of Try.underlying4 rfl) (cell_of_blk (H17).get.2 rfl), ?_⟩
          exact ⟨rfl, H17.base⟩
end Go.Proofs.Ytkjkfbkapingbaa
