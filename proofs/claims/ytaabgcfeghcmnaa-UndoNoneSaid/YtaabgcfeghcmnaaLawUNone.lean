/- UndoNone, walked. -/
import Derived.Test.YtaabgcfeghcmnaaUNone
set_option linter.unusedSimpArgs false
set_option linter.unusedVariables false
namespace Go.Proofs.Ytaabgcfeghcmnaa
open Go.RowKit
theorem undo_none {w : World} {x d z : Value} (hd : d.oneCell' = true) (hz : z.oneCell' = true) (hx : x.oneCell' = true) :
    Ret Try.prog 8 #[.agg #[x, d, z]] w fun v w' => v = .bool true ∧ Below w.heap.size w w' := by
  obtain ⟨F, H⟩ : ∃ F, Holds w w F := ⟨_, Holds.start w⟩
  refine ret_enter Try.func8 rfl Try.ntmps8 (Nat.le_of_ble_eq_true rfl) ?_
  dsimp only [slots0, Nat.reduceAdd]
  refine wc_seq ?_
  refine wc_region ?_
  refine wl_eff (e_boxL (l := [_, _, _]) H rfl rfl) (ltn rfl) ?_
  rintro _ w1 ⟨b1, rfl, H1⟩
  refine wl_eff (e_allocL (l := [_]) H1 Try.zeroValue4 rfl) (ltn rfl) ?_
  rintro _ w2 ⟨b2, rfl, H2⟩
  refine wl_nil ?_
  refine wq_seq ?_
  refine wc_seq ?_
  refine wc_seq ?_
  refine wc_region ?_
  refine wl_eff (e_call (r_call rfl Try.func13 rfl rfl) (begun_ret H2)) (ltn rfl) ?_
  rintro _ w3 ⟨rfl, H3⟩
  refine wl_val (r_not rfl) (ltn rfl) ?_
  refine wl_nil ?_
  refine wq_seq ?_
  refine wc_cond rfl (fun h => by exfalso; (try simp only [beq_iff_eq, bne_iff_ne, ne_eq, decide_eq_true_eq, decide_eq_false_iff_not, beq_eq_false_iff_ne, bne_eq_false_iff_eq, Bool.not_eq_true', Bool.not_eq_false', Bool.not_eq_eq_eq_not, Bool.not_true, Bool.not_false, gt_iff_lt, ge_iff_le, Int.not_lt, Int.not_le] at h); simp at h) (fun h1 => ?_)
  (try simp only [beq_iff_eq, bne_iff_ne, ne_eq, decide_eq_true_eq, decide_eq_false_iff_not, beq_eq_false_iff_ne, bne_eq_false_iff_eq, Bool.not_eq_true', Bool.not_eq_false', Bool.not_eq_eq_eq_not, Bool.not_true, Bool.not_false, gt_iff_lt, ge_iff_le, Int.not_lt, Int.not_le] at h1)
  refine wc_skip ?_
  refine wq_seq ?_
  refine wc_seq ?_
  refine wc_seq ?_
  refine wc_region ?_
  refine wl_val (r_build (pl := #[(0, 4), (4, 1)]) (zeroU) Try.underlying72 Try.zeroValue72 (fun w => by kernel_rfl) rfl (by kernel_rfl)) (ltn rfl) ?_
  refine wl_eff (e_boxL (l := [_, _, _, _, _]) H3 rfl rfl) (ltn rfl) ?_
  rintro _ w4 ⟨b4, rfl, H4⟩
  refine wl_eff (e_lit_row (vs := [.pointer none, _]) H4 Try.underlying73 Try.sizeOf40 Try.zeroValue40 rfl rfl rfl (by decide) (ones_cons (by first | rfl | assumption) (ones_cons (by first | rfl | assumption) ones_nil))) (ltn rfl) ?_
  rintro l5 w5 H5
  refine wl_val (r_lenS ((H5).row_rd) Try.underlying73 rfl) (ltn rfl) ?_
  refine wl_val (r_move rfl) (ltn rfl) ?_
  refine wl_nil ?_
  refine wq_seq ?_
  refine wc_block ?_
  have HM := H5.f4.f4.f4.f4.mark0
  refine wc_loopD (fun (⟨k, ds⟩ : Nat × List Nat) => ds) [(1, _), (2, _), (11, _), (12, _)] (fun (⟨k, ds⟩ : Nat × List Nat) => [(13, .int .i64 (k : Int))]) (fun (⟨k, ds⟩ : Nat × List Nat) W => k ≤ 2 ∧ Holds w W (Marks ds • Row 40 1 l5 2 [.pointer none, .pointer (some ⟨b4, 0, none⟩)] • blk b4 (.cells zeroU 72 (0, 0)) • blk b2 (.cells #[.bool false] 4 (0, 0)) • blk b1 (.cells #[x, d, z] 24 (0, 0)) • F)) (fun (⟨k, ds⟩ : Nat × List Nat) => 2 - k) ((0, [])) (Sub.cons rfl (Sub.cons rfl (Sub.cons rfl (Sub.cons rfl (Sub.nil _))))) (Sub.cons rfl (Sub.nil _)) ⟨by omega, HM⟩ ?_
  rintro ⟨k, ds⟩ w6 ⟨hk, HL⟩
  dsimp only [List.cons_append, List.nil_append]
  refine wc_seq ?_
  refine wc_region ?_
  refine wl_val (r_lss rfl rfl) (ltn rfl) ?_
  refine wl_nil ?_
  refine wq_seq ?_
  refine wc_seq ?_
  refine wc_cond rfl (fun h2 => ?_) (fun h2 => ?_)
  · (try simp only [beq_iff_eq, bne_iff_ne, ne_eq, decide_eq_true_eq, decide_eq_false_iff_not, beq_eq_false_iff_ne, bne_eq_false_iff_eq, Bool.not_eq_true', Bool.not_eq_false', Bool.not_eq_eq_eq_not, Bool.not_true, Bool.not_false, gt_iff_lt, ge_iff_le, Int.not_lt, Int.not_le] at h2)
    try (exfalso; first | contradiction | omega)
    all_goals
      
      refine wc_skip ?_
      refine wq_seq ?_
      refine wc_seq ?_
      refine wc_block ?_
      refine wc_seq ?_
      refine wc_region ?_
      obtain ⟨bl5, ol5, cl5, el5⟩ := Rd.posV ((HL.f2).row_rd) (by omega)
      cases el5
      refine wl_val (r_index Try.underlying73 Try.sizeOf40 rfl rfl (by omega)) (ltn rfl) ?_
      refine wl_val (r_load (plain_of Try.underlying40 rfl) rfl (by first | exact Rd.at1n ((HL.f2).row_rd) (by omega) | exact Rd.at0 ((HL.f2).row_rd) (by omega) | exact Rd.at1 ((HL.f2).row_rd) (by omega))) (ltn rfl) ?_
      obtain ⟨bv, hbv, hu⟩ : ∃ bv, [Value.pointer none, .pointer (some ⟨b4, 0, none⟩)].getD k undef = bv ∧ Unmade w (blk b4 (.cells zeroU 72 (0, 0)) • F) bv := by
        have hk2 : k < 2 := by omega
        match k, hk2 with
        | 0, _ => exact ⟨_, rfl, unmade_nil _ _⟩
        | 1, _ => exact ⟨_, rfl, unmade_zero _ _ _⟩
      rw [hbv]
      refine wl_val (r_assign rfl) (ltn rfl) ?_
      refine wl_nil ?_
      refine wq_seq ?_
      refine wc_seq ?_
      refine wc_region ?_
      refine wl_val (r_move rfl) (ltn rfl) ?_
      refine wl_eff (e_call (r_call rfl Try.func33 rfl rfl) (none_undo (HL.f3.f5.f5.f5.f5.g4) hu)) (ltn rfl) ?_
      rintro _ _ ⟨rfl, rfl⟩
      refine wl_val (r_move rfl) (ltn rfl) ?_
      refine wl_val (r_extract rfl rfl) (ltn rfl) ?_
      refine wl_val (r_extract rfl rfl) (ltn rfl) ?_
      refine wl_val (r_assign rfl) (ltn rfl) ?_
      refine wl_val (r_assign rfl) (ltn rfl) ?_
      refine wl_nil ?_
      refine wq_seq ?_
      refine wc_seq ?_
      refine wc_region ?_
      refine wl_val (r_move rfl) (ltn rfl) ?_
      refine wl_eff (e_call (r_call rfl Try.func39 rfl rfl) (none_clear (HL.f3.f5.f5.f5.f5.g4) hu)) (ltn rfl) ?_
      rintro _ _ rfl
      refine wl_nil ?_
      refine wq_seq ?_
      refine wc_seq ?_
      refine wc_seq ?_
      refine wc_region ?_
      refine wl_val (r_move rfl) (ltn rfl) ?_
      refine wl_val (r_len Try.underlying39 rfl) (ltn rfl) ?_
      refine wl_val (r_neq rfl rfl) (ltn rfl) ?_
      refine wl_split rfl (ltn rfl) (fun h => by exfalso; (try simp only [beq_iff_eq, bne_iff_ne, ne_eq, decide_eq_true_eq, decide_eq_false_iff_not, beq_eq_false_iff_ne, bne_eq_false_iff_eq, Bool.not_eq_true', Bool.not_eq_false', Bool.not_eq_eq_eq_not, Bool.not_true, Bool.not_false, gt_iff_lt, ge_iff_le, Int.not_lt, Int.not_le] at h); simp at h) (fun h3 => ?_)
      (try simp only [beq_iff_eq, bne_iff_ne, ne_eq, decide_eq_true_eq, decide_eq_false_iff_not, beq_eq_false_iff_ne, bne_eq_false_iff_eq, Bool.not_eq_true', Bool.not_eq_false', Bool.not_eq_eq_eq_not, Bool.not_true, Bool.not_false, gt_iff_lt, ge_iff_le, Int.not_lt, Int.not_le] at h3)
      refine wl_yes rfl rfl ?_
      refine wl_val (r_move rfl) (ltn rfl) ?_
      refine wl_yes rfl rfl ?_
      refine wl_val (r_neq rfl rfl) (ltn rfl) ?_
      refine wl_val (r_pick_f rfl rfl) (ltn rfl) ?_
      refine wl_split rfl (ltn rfl) (fun h => by exfalso; (try simp only [beq_iff_eq, bne_iff_ne, ne_eq, decide_eq_true_eq, decide_eq_false_iff_not, beq_eq_false_iff_ne, bne_eq_false_iff_eq, Bool.not_eq_true', Bool.not_eq_false', Bool.not_eq_eq_eq_not, Bool.not_true, Bool.not_false, gt_iff_lt, ge_iff_le, Int.not_lt, Int.not_le] at h); simp at h) (fun h4 => ?_)
      (try simp only [beq_iff_eq, bne_iff_ne, ne_eq, decide_eq_true_eq, decide_eq_false_iff_not, beq_eq_false_iff_ne, bne_eq_false_iff_eq, Bool.not_eq_true', Bool.not_eq_false', Bool.not_eq_eq_eq_not, Bool.not_true, Bool.not_false, gt_iff_lt, ge_iff_le, Int.not_lt, Int.not_le] at h4)
      refine wl_yes rfl rfl ?_
      refine wl_val (r_move rfl) (ltn rfl) ?_
      refine wl_yes rfl rfl ?_
      refine wl_eff (e_call (r_call rfl Try.func26 rfl rfl) (none_begin (HL.f3.f5.f5.f5.f5.g4) hu)) (ltn rfl) ?_
      rintro _ _ ⟨rfl, rfl⟩
      refine wl_yes rfl rfl ?_
      refine wl_val (r_neq rfl rfl) (ltn rfl) ?_
      refine wl_val (r_pick_f rfl rfl) (ltn rfl) ?_
      refine wl_split rfl (ltn rfl) (fun h => by exfalso; (try simp only [beq_iff_eq, bne_iff_ne, ne_eq, decide_eq_true_eq, decide_eq_false_iff_not, beq_eq_false_iff_ne, bne_eq_false_iff_eq, Bool.not_eq_true', Bool.not_eq_false', Bool.not_eq_eq_eq_not, Bool.not_true, Bool.not_false, gt_iff_lt, ge_iff_le, Int.not_lt, Int.not_le] at h); simp at h) (fun h5 => ?_)
      (try simp only [beq_iff_eq, bne_iff_ne, ne_eq, decide_eq_true_eq, decide_eq_false_iff_not, beq_eq_false_iff_ne, bne_eq_false_iff_eq, Bool.not_eq_true', Bool.not_eq_false', Bool.not_eq_eq_eq_not, Bool.not_true, Bool.not_false, gt_iff_lt, ge_iff_le, Int.not_lt, Int.not_le] at h5)
      refine wl_yes rfl rfl ?_
      refine wl_val (r_move rfl) (ltn rfl) ?_
      refine wl_yes rfl rfl ?_
      refine wl_eff (e_call (r_call rfl Try.func29 rfl rfl) (none_end (HL.f3.f5.f5.f5.f5.g4) hu)) (ltn rfl) ?_
      rintro _ _ ⟨rfl, rfl⟩
      refine wl_yes rfl rfl ?_
      refine wl_val (r_neq rfl rfl) (ltn rfl) ?_
      refine wl_val (r_pick_f rfl rfl) (ltn rfl) ?_
      refine wl_split rfl (ltn rfl) (fun h => by exfalso; (try simp only [beq_iff_eq, bne_iff_ne, ne_eq, decide_eq_true_eq, decide_eq_false_iff_not, beq_eq_false_iff_ne, bne_eq_false_iff_eq, Bool.not_eq_true', Bool.not_eq_false', Bool.not_eq_eq_eq_not, Bool.not_true, Bool.not_false, gt_iff_lt, ge_iff_le, Int.not_lt, Int.not_le] at h); simp at h) (fun h6 => ?_)
      (try simp only [beq_iff_eq, bne_iff_ne, ne_eq, decide_eq_true_eq, decide_eq_false_iff_not, beq_eq_false_iff_ne, bne_eq_false_iff_eq, Bool.not_eq_true', Bool.not_eq_false', Bool.not_eq_eq_eq_not, Bool.not_true, Bool.not_false, gt_iff_lt, ge_iff_le, Int.not_lt, Int.not_le] at h6)
      refine wl_yes rfl rfl ?_
      refine wl_val (r_move rfl) (ltn rfl) ?_
      refine wl_yes rfl rfl ?_
      refine wl_val (r_load_whole Try.underlying24 rfl Try.sizeOf24 rfl rfl (HL.f5).get.2) (ltn rfl) ?_
      refine wl_yes rfl rfl ?_
      refine wl_eff (e_call (r_call rfl Try.func21 rfl rfl) (none_add (HL.f3.f5.f5.f5.f5.g4) hu)) (ltn rfl) ?_
      rintro _ w11 ⟨rfl, H11⟩
      simp only [sep_assoc] at H11
      refine wl_yes rfl rfl ?_
      refine wl_val (r_neq rfl rfl) (ltn rfl) ?_
      refine wl_val (r_pick_f rfl rfl) (ltn rfl) ?_
      refine wl_split rfl (ltn rfl) (fun h => by exfalso; (try simp only [beq_iff_eq, bne_iff_ne, ne_eq, decide_eq_true_eq, decide_eq_false_iff_not, beq_eq_false_iff_ne, bne_eq_false_iff_eq, Bool.not_eq_true', Bool.not_eq_false', Bool.not_eq_eq_eq_not, Bool.not_true, Bool.not_false, gt_iff_lt, ge_iff_le, Int.not_lt, Int.not_le] at h); simp at h) (fun h7 => ?_)
      (try simp only [beq_iff_eq, bne_iff_ne, ne_eq, decide_eq_true_eq, decide_eq_false_iff_not, beq_eq_false_iff_ne, bne_eq_false_iff_eq, Bool.not_eq_true', Bool.not_eq_false', Bool.not_eq_eq_eq_not, Bool.not_true, Bool.not_false, gt_iff_lt, ge_iff_le, Int.not_lt, Int.not_le] at h7)
      refine wl_yes rfl rfl ?_
      refine wl_val (r_move rfl) (ltn rfl) ?_
      refine wl_yes rfl rfl ?_
      refine wl_eff (e_call (r_call rfl Try.func32 rfl rfl) (none_revert (H11.f5.f5.f5.f5.f5.g4) hu)) (ltn rfl) ?_
      rintro _ _ ⟨rfl, rfl⟩
      refine wl_yes rfl rfl ?_
      refine wl_val (r_len Try.underlying39 rfl) (ltn rfl) ?_
      refine wl_yes rfl rfl ?_
      refine wl_val (r_neq rfl rfl) (ltn rfl) ?_
      refine wl_val (r_pick_f rfl rfl) (ltn rfl) ?_
      refine wl_split rfl (ltn rfl) (fun h => by exfalso; (try simp only [beq_iff_eq, bne_iff_ne, ne_eq, decide_eq_true_eq, decide_eq_false_iff_not, beq_eq_false_iff_ne, bne_eq_false_iff_eq, Bool.not_eq_true', Bool.not_eq_false', Bool.not_eq_eq_eq_not, Bool.not_true, Bool.not_false, gt_iff_lt, ge_iff_le, Int.not_lt, Int.not_le] at h); simp at h) (fun h8 => ?_)
      (try simp only [beq_iff_eq, bne_iff_ne, ne_eq, decide_eq_true_eq, decide_eq_false_iff_not, beq_eq_false_iff_ne, bne_eq_false_iff_eq, Bool.not_eq_true', Bool.not_eq_false', Bool.not_eq_eq_eq_not, Bool.not_true, Bool.not_false, gt_iff_lt, ge_iff_le, Int.not_lt, Int.not_le] at h8)
      refine wl_yes rfl rfl ?_
      refine wl_val (r_move rfl) (ltn rfl) ?_
      refine wl_yes rfl rfl ?_
      refine wl_eff (e_call (r_call rfl Try.func27 rfl rfl) (none_len (H11.f5.f5.f5.f5.f5.g4) hu)) (ltn rfl) ?_
      rintro _ _ ⟨rfl, rfl⟩
      refine wl_yes rfl rfl ?_
      refine wl_val (r_move rfl) (ltn rfl) ?_
      refine wl_yes rfl rfl ?_
      refine wl_eff (e_call (r_call rfl Try.func28 rfl rfl) (none_edits (H11.f5.f5.f5.f5.f5.g4) hu)) (ltn rfl) ?_
      rintro _ _ ⟨rfl, rfl⟩
      refine wl_yes rfl rfl ?_
      refine wl_val (r_add rfl rfl (by omega)) (ltn rfl) ?_
      refine wl_yes rfl rfl ?_
      refine wl_val (r_move rfl) (ltn rfl) ?_
      refine wl_yes rfl rfl ?_
      refine wl_eff (e_call (r_call rfl Try.func43 rfl rfl) (none_open (H11.f5.f5.f5.f5.f5.g4) hu)) (ltn rfl) ?_
      rintro _ _ ⟨rfl, rfl⟩
      refine wl_yes rfl rfl ?_
      refine wl_val (r_add rfl rfl (by omega)) (ltn rfl) ?_
      refine wl_yes rfl rfl ?_
      refine wl_val (r_neq rfl rfl) (ltn rfl) ?_
      refine wl_val (r_pick_f rfl rfl) (ltn rfl) ?_
      refine wl_split rfl (ltn rfl) (fun h => by exfalso; (try simp only [beq_iff_eq, bne_iff_ne, ne_eq, decide_eq_true_eq, decide_eq_false_iff_not, beq_eq_false_iff_ne, bne_eq_false_iff_eq, Bool.not_eq_true', Bool.not_eq_false', Bool.not_eq_eq_eq_not, Bool.not_true, Bool.not_false, gt_iff_lt, ge_iff_le, Int.not_lt, Int.not_le] at h); simp at h) (fun h9 => ?_)
      (try simp only [beq_iff_eq, bne_iff_ne, ne_eq, decide_eq_true_eq, decide_eq_false_iff_not, beq_eq_false_iff_ne, bne_eq_false_iff_eq, Bool.not_eq_true', Bool.not_eq_false', Bool.not_eq_eq_eq_not, Bool.not_true, Bool.not_false, gt_iff_lt, ge_iff_le, Int.not_lt, Int.not_le] at h9)
      refine wl_yes rfl rfl ?_
      refine wl_val (r_move rfl) (ltn rfl) ?_
      refine wl_yes rfl rfl ?_
      refine wl_eff (e_call (r_call rfl Try.func30 rfl rfl) (none_clone (H11.f5.f5.f5.f5.f5.g4) hu)) (ltn rfl) ?_
      rintro _ _ ⟨rfl, rfl⟩
      refine wl_yes rfl rfl ?_
      refine wl_val (r_ptr_nnil Try.underlying40 rfl rfl) (ltn rfl) ?_
      refine wl_val (r_pick_f rfl rfl) (ltn rfl) ?_
      refine wl_nil ?_
      refine wq_seq ?_
      refine wc_cond rfl (fun h => by exfalso; (try simp only [beq_iff_eq, bne_iff_ne, ne_eq, decide_eq_true_eq, decide_eq_false_iff_not, beq_eq_false_iff_ne, bne_eq_false_iff_eq, Bool.not_eq_true', Bool.not_eq_false', Bool.not_eq_eq_eq_not, Bool.not_true, Bool.not_false, gt_iff_lt, ge_iff_le, Int.not_lt, Int.not_le] at h); simp at h) (fun h10 => ?_)
      (try simp only [beq_iff_eq, bne_iff_ne, ne_eq, decide_eq_true_eq, decide_eq_false_iff_not, beq_eq_false_iff_ne, bne_eq_false_iff_eq, Bool.not_eq_true', Bool.not_eq_false', Bool.not_eq_eq_eq_not, Bool.not_true, Bool.not_false, gt_iff_lt, ge_iff_le, Int.not_lt, Int.not_le] at h10)
      refine wc_skip ?_
      refine wq_seq ?_
      refine wc_seq ?_
      refine wc_region ?_
      refine wl_val (r_move rfl) (ltn rfl) ?_
      refine wl_eff (e_call (r_call rfl Try.func23 rfl rfl) (none_groups (H11.f5.f5.f5.f5.f5.g4) hu)) (ltn rfl) ?_
      rintro _ w17 ⟨ba, rfl, H17⟩
      simp only [sep_assoc] at H17
      refine wl_nil ?_
      refine wq_seq ?_
      refine wc_block ?_
      refine wc_rangeFunc rfl (none_iter ba) (fun j => Marks ds • Row 40 1 (.slice (some ⟨bl5, ol5, none⟩) (2) cl5) 2 [.pointer none, .pointer (some ⟨b4, 0, none⟩)] • blk b4 (.cells zeroU 72 (0, 0)) • blk b2 (.cells #[.bool false] 4 (0, 0)) • blk b1 (.cells #[x, d, z] 24 (0, 0)) • F) (fact False) (fun _ => fact False) (H17.f5.f5.f6.f6.f6.f6.f6.f6.f6.f6.f6.f6.comm) (by rfl) ?_ ?_ ?_ ?_
      · rintro l18 j hkR0 vs18 A18 ⟨x18, rfl, rfl⟩ G18 w18 H18
        exact absurd hkR0 (Nat.not_lt_zero _)
      · rintro D19 w19 H19
        have H19d := H19.ed
        try simp only [sep_assoc, emp_sep, sep_emp] at H19d
        have H19m := (H19d.f3.f2).markC
        refine wq_block_normal ?_
        refine wq_block_normal ?_
        refine wq_seq ?_
        refine wc_region ?_
        refine wl_val (r_add rfl rfl (by omega)) (ltn rfl) ?_
        refine wl_val (r_move rfl) (ltn rfl) ?_
        refine wl_nil ?_
        refine wq_roundD ((k + 1, _)) ?_ ?_ ?_ ?_
        · exact (Sub.cons rfl (Sub.nil _))
        · exact (Sub.cons rfl (Sub.cons rfl (Sub.cons rfl (Sub.cons rfl (Sub.nil _)))))
        · (try dsimp only)
          exact ⟨by omega, H19m.f2.right.f5.f5.f5.f5.f5⟩
        · (try dsimp only); omega
      · rintro D w H; exact absurd H.swap.fact.1 id
      · rintro id D w H; exact absurd H.swap.fact.1 fun h => h
  · (try simp only [beq_iff_eq, bne_iff_ne, ne_eq, decide_eq_true_eq, decide_eq_false_iff_not, beq_eq_false_iff_ne, bne_eq_false_iff_eq, Bool.not_eq_true', Bool.not_eq_false', Bool.not_eq_eq_eq_not, Bool.not_true, Bool.not_false, gt_iff_lt, ge_iff_le, Int.not_lt, Int.not_le] at h2)
    try (exfalso; first | contradiction | omega)
    all_goals
      
      refine wc_exit ?_
      refine wq_then_exit ?_
      refine wq_then_exit ?_
      refine wq_block_hit ?_
      refine wq_seq ?_
      refine wc_seq ?_
      refine wc_region ?_
      refine wl_eff0 (e_storeL 0 (l' := [_]) HL.f4 Try.sizeOf4 rfl rfl (by first | rfl | assumption) rfl rfl) ?_
      rintro _ w20 H20
      refine wl_nil ?_
      refine wq_seq ?_
      refine wc_ret ?_
      refine wq_endM (.inl rfl) (H20.f2) (fun w21 H21 => ?_)
      refine ⟨_, resC1 Try.results8 rfl (plain_of Try.underlying4 rfl) (cell_of_blk (H21).get.2 rfl), ?_⟩
      exact ⟨rfl, H21.base⟩
end Go.Proofs.Ytaabgcfeghcmnaa
