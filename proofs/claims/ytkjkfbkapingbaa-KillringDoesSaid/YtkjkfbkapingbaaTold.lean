/- A ring tells its entries. -/
import Derived.Test.YtkjkfbkapingbaaAll
set_option linter.unusedSimpArgs false
set_option linter.unusedVariables false
namespace Go.Proofs.Ytkjkfbkapingbaa
open Go.RowKit
section
variable {w0 w : World} {F : HP} {p : Nat} {E : List (List Int)} {place : Nat}
theorem told_ret {stop : Int} {wv : Value} {vs : List Value} (H : Holds w0 w (RingRep p E place • F)) (hv : FRd w0 F 1 wv E.length vs) (hls : ∀ k, k < E.length → FRdI w0 F .i32 (vs.getD k undef) (E.getD k [])) :
    Ret Try.prog 21 #[.pointer (some ⟨p, 0, none⟩), wv, .int .i64 stop] w fun v w' => v = .bool true ∧ Holds w0 w' (RingRep p E place • F) := by
  obtain ⟨_, a, c, rfl, hc1, hc2, _⟩ := hv w H.right
  refine ret_enter Try.func21 rfl Try.ntmps21 (Nat.le_of_ble_eq_true rfl) ?_
  dsimp only [slots0, Nat.reduceAdd]
  refine wc_seq ?_
  refine wc_region ?_
  refine wl_eff (e_boxL (l := [_]) H rfl (by first | rfl | exact one_cells (by first | rfl | exact Rd.one (hv _ (H.right))))) (ltn rfl) ?_
  rintro _ w1 ⟨b1, rfl, H1⟩
  refine wl_eff (e_boxL (l := [_]) H1 rfl rfl) (ltn rfl) ?_
  rintro _ w2 ⟨b2, rfl, H2⟩
  refine wl_eff (e_allocL (l := [_]) H2 Try.zeroValue4 rfl) (ltn rfl) ?_
  rintro _ w3 ⟨b3, rfl, H3⟩
  refine wl_nil ?_
  refine wq_seq ?_
  refine wc_seq ?_
  refine wc_region ?_
  refine wl_val (r_move rfl) (ltn rfl) ?_
  refine wl_eff (e_call (r_call rfl Try.func17 rfl rfl) (ring_all_ret H3.f4)) (ltn rfl) ?_
  rintro _ w4 ⟨bA4, rfl, hE1, hE2, H4⟩
  refine wl_val (r_assign rfl) (ltn rfl) ?_
  refine wl_nil ?_
  refine wq_seq ?_
  refine wc_seq ?_
  refine wc_seq ?_
  refine wc_region ?_
  refine wl_val (r_move rfl) (ltn rfl) ?_
  refine wl_nil ?_
  refine wq_seq ?_
  refine wc_block ?_
  have HM := H4.f2.f2.f3.f4.f5.mark0
  refine wc_loopD (fun (⟨k, ds⟩ : Nat × List Nat) => ds) [(0, _), (4, _), (5, _), (6, _), (7, _)] (fun (⟨k, ds⟩ : Nat × List Nat) => [(13, .int .i64 (k : Int))]) (fun (⟨k, ds⟩ : Nat × List Nat) W => k ≤ 2 ∧ Holds w0 W (Marks ds • blk b1 (.cells #[.slice a E.length c] 23 (0, 0)) • blk b2 (.cells #[.int .i64 stop] 3 (0, 0)) • blk b3 (.cells #[.bool false] 4 (0, 0)) • allHP bA4 E • RingRep p E place • F)) (fun (⟨k, ds⟩ : Nat × List Nat) => 2 - k) ((0, [])) (Sub.cons rfl (Sub.cons rfl (Sub.cons rfl (Sub.cons rfl (Sub.cons rfl (Sub.nil _)))))) (Sub.cons rfl (Sub.nil _)) ⟨by omega, HM⟩ ?_
  rintro ⟨k, ds⟩ w5 ⟨hk, HL⟩
  dsimp only [List.cons_append, List.nil_append]
  refine wc_seq ?_
  refine wc_region ?_
  refine wl_val (r_lss rfl rfl) (ltn rfl) ?_
  refine wl_nil ?_
  refine wq_seq ?_
  refine wc_seq ?_
  refine wc_cond rfl (fun h1 => ?_) (fun h1 => ?_)
  · (try simp only [beq_iff_eq, bne_iff_ne, ne_eq, decide_eq_true_eq, decide_eq_false_iff_not, beq_eq_false_iff_ne, bne_eq_false_iff_eq, Bool.not_eq_true', Bool.not_eq_false', Bool.not_eq_eq_eq_not, Bool.not_true, Bool.not_false, gt_iff_lt, ge_iff_le, Int.not_lt, Int.not_le] at h1)
    try (exfalso; first | contradiction | omega)
    all_goals
      
      refine wc_skip ?_
      refine wq_seq ?_
      refine wc_seq ?_
      refine wc_block ?_
      refine wc_seq ?_
      refine wc_region ?_
      refine wl_eff (e_allocL (l := [_]) HL Try.zeroValue3 rfl) (ltn rfl) ?_
      rintro _ w6 ⟨b6, rfl, H6⟩
      refine wl_eff0 (e_storeL 0 (l' := [_]) H6 Try.sizeOf3 rfl rfl (by first | rfl | assumption) rfl rfl) ?_
      rintro _ w7 H7
      refine wl_nil ?_
      refine wq_seq ?_
      refine wc_seq ?_
      refine wc_seq ?_
      refine wc_region ?_
      refine wl_val (r_move rfl) (ltn rfl) ?_
      refine wl_nil ?_
      refine wq_seq ?_
      refine wc_block ?_
      refine wc_rangeFunc rfl (all_iter bA4 hE1 hE2) (fun j => blk b6 (.cells #[.int .i64 (j : Int)] 3 (0, 0)) • blk b1 (.cells #[.slice a E.length c] 23 (0, 0)) • blk b2 (.cells #[.int .i64 stop] 3 (0, 0)) • blk b3 (.cells #[.bool false] 4 (0, 0)) • Marks ds • RingRep p E place • F) (fact False) (fun id => if id = 2 then blk b6 (.cells #[.int .i64 stop] 3 (0, 0)) • blk b1 (.cells #[.slice a E.length c] 23 (0, 0)) • blk b2 (.cells #[.int .i64 stop] 3 (0, 0)) • blk b3 (.cells #[.bool false] 4 (0, 0)) • Marks ds • RingRep p E place • F else fact False) (H7.f7.f3.f6.f6.f6.f6.f7.f7.f7.f7.f7.f7.f7.f7.comm) (by rfl) ?_ ?_ ?_ ?_
      · rintro l8 j hkR0 vs8 A8 ⟨x8, rfl, rfl⟩ G8 w8 H8
        try simp only [sep_assoc, emp_sep, sep_emp] at H8
        refine ⟨rfl, ?_⟩
        dsimp only [zipL]
        obtain ⟨ax8, cx8, ex8, -⟩ := RdI.open ((H8).row_rd)
        subst ex8
        refine wc_seq ?_
        refine wc_region ?_
        refine wl_val (r_assign rfl) (ltn rfl) ?_
        refine wl_nil ?_
        refine wq_seq ?_
        refine wc_region ?_
        refine wl_val (r_assign rfl) (ltn rfl) ?_
        refine wl_nil ?_
        refine wq_mid (H8.g8) ?_
        intro G10 w10 H10
        try simp only [sep_assoc] at H10
        refine wc_block ?_
        refine wc_seq ?_
        refine wc_seq ?_
        refine wc_region ?_
        refine wl_val (r_load (plain_of Try.underlying3 rfl) rfl (cell_of_blk (H10.f2).get.2 rfl)) (ltn rfl) ?_
        refine wl_val (r_load (plain_of Try.underlying23 rfl) rfl (cell_of_blk (H10.f3).get.2 rfl)) (ltn rfl) ?_
        refine wl_val (r_lenS (hv _ (H10.f8.left)) Try.underlying23 rfl) (ltn rfl) ?_
        refine wl_val (r_geq rfl rfl) (ltn rfl) ?_
        refine wl_split rfl (ltn rfl) (fun h => by exfalso; (try simp only [beq_iff_eq, bne_iff_ne, ne_eq, decide_eq_true_eq, decide_eq_false_iff_not, beq_eq_false_iff_ne, bne_eq_false_iff_eq, Bool.not_eq_true', Bool.not_eq_false', Bool.not_eq_eq_eq_not, Bool.not_true, Bool.not_false, gt_iff_lt, ge_iff_le, Int.not_lt, Int.not_le] at h); first | contradiction | omega | (simp at h <;> omega)) (fun h2 => ?_)
        (try simp only [beq_iff_eq, bne_iff_ne, ne_eq, decide_eq_true_eq, decide_eq_false_iff_not, beq_eq_false_iff_ne, bne_eq_false_iff_eq, Bool.not_eq_true', Bool.not_eq_false', Bool.not_eq_eq_eq_not, Bool.not_true, Bool.not_false, gt_iff_lt, ge_iff_le, Int.not_lt, Int.not_le] at h2)
        refine wl_yes rfl rfl ?_
        refine wl_val (r_move rfl) (ltn rfl) ?_
        refine wl_yes rfl rfl ?_
        refine wl_val (r_load (plain_of Try.underlying3 rfl) rfl (cell_of_blk (H10.f2).get.2 rfl)) (ltn rfl) ?_
        refine wl_yes rfl rfl ?_
        refine wl_val (r_neq rfl rfl) (ltn rfl) ?_
        refine wl_val (r_pick_f rfl rfl) (ltn rfl) ?_
        refine wl_split rfl (ltn rfl) (fun h => by exfalso; (try simp only [beq_iff_eq, bne_iff_ne, ne_eq, decide_eq_true_eq, decide_eq_false_iff_not, beq_eq_false_iff_ne, bne_eq_false_iff_eq, Bool.not_eq_true', Bool.not_eq_false', Bool.not_eq_eq_eq_not, Bool.not_true, Bool.not_false, gt_iff_lt, ge_iff_le, Int.not_lt, Int.not_le] at h); first | contradiction | omega | (simp at h <;> omega)) (fun h3 => ?_)
        (try simp only [beq_iff_eq, bne_iff_ne, ne_eq, decide_eq_true_eq, decide_eq_false_iff_not, beq_eq_false_iff_ne, bne_eq_false_iff_eq, Bool.not_eq_true', Bool.not_eq_false', Bool.not_eq_eq_eq_not, Bool.not_true, Bool.not_false, gt_iff_lt, ge_iff_le, Int.not_lt, Int.not_le] at h3)
        refine wl_yes rfl rfl ?_
        refine wl_val (r_move rfl) (ltn rfl) ?_
        refine wl_yes rfl rfl ?_
        refine wl_val (r_load (plain_of Try.underlying23 rfl) rfl (cell_of_blk (H10.f3).get.2 rfl)) (ltn rfl) ?_
        refine wl_yes rfl rfl ?_
        refine wl_val (r_load (plain_of Try.underlying3 rfl) rfl (cell_of_blk (H10.f2).get.2 rfl)) (ltn rfl) ?_
        refine wl_yes rfl rfl ?_
        obtain ⟨bwant, owant, cwant, ewant⟩ := Rd.posV (hv _ (H10.f8.left)) (by omega)
        cases ewant
        refine wl_val (r_index Try.underlying23 Try.sizeOf22 rfl rfl (by omega)) (ltn rfl) ?_
        refine wl_yes rfl rfl ?_
        refine wl_val (r_load (plain_of Try.underlying22 rfl) rfl (by first | exact Rd.at1n (hv _ (H10.f8.left)) (by omega) | exact Rd.at0 (hv _ (H10.f8.left)) (by omega) | exact Rd.at1 (hv _ (H10.f8.left)) (by omega))) (ltn rfl) ?_
        have hx := hls j hkR0
        refine wl_yes rfl rfl ?_
        refine wl_eff (e_call (r_call rfl Try.func13 rfl rfl) (equal_ret _ _ _ _ _ ((H10).row_rd) (hx _ (H10.f8.left)))) (ltn rfl) ?_
        rintro _ w11 ⟨rfl, hD11⟩
        have HD11 := H10.drewn hD11
        refine wl_yes rfl rfl ?_
        refine wl_val (r_not rfl) (ltn rfl) ?_
        refine wl_val (r_pick_f rfl rfl) (ltn rfl) ?_
        refine wl_nil ?_
        refine wq_seq ?_
        refine wc_cond rfl (fun h => by exfalso; (try simp only [beq_iff_eq, bne_iff_ne, ne_eq, decide_eq_true_eq, decide_eq_false_iff_not, beq_eq_false_iff_ne, bne_eq_false_iff_eq, Bool.not_eq_true', Bool.not_eq_false', Bool.not_eq_eq_eq_not, Bool.not_true, Bool.not_false, gt_iff_lt, ge_iff_le, Int.not_lt, Int.not_le] at h); simp at h) (fun h4 => ?_)
        (try simp only [beq_iff_eq, bne_iff_ne, ne_eq, decide_eq_true_eq, decide_eq_false_iff_not, beq_eq_false_iff_ne, bne_eq_false_iff_eq, Bool.not_eq_true', Bool.not_eq_false', Bool.not_eq_eq_eq_not, Bool.not_true, Bool.not_false, gt_iff_lt, ge_iff_le, Int.not_lt, Int.not_le] at h4)
        refine wc_skip ?_
        refine wq_seq ?_
        refine wc_seq ?_
        refine wc_region ?_
        refine wl_val (r_load (plain_of Try.underlying3 rfl) rfl (cell_of_blk (HD11.f2).get.2 rfl)) (ltn rfl) ?_
        refine wl_val (r_add rfl rfl (by omega)) (ltn rfl) ?_
        refine wl_eff0 (e_storeL 0 (l' := [_]) HD11.f2 Try.sizeOf3 rfl rfl (by first | rfl | assumption) rfl rfl) ?_
        rintro _ w12 H12
        refine wl_nil ?_
        refine wq_seq ?_
        refine wc_seq ?_
        refine wc_region ?_
        refine wl_val (r_load (plain_of Try.underlying3 rfl) rfl (cell_of_blk (H12).get.2 rfl)) (ltn rfl) ?_
        refine wl_val (r_load (plain_of Try.underlying3 rfl) rfl (cell_of_blk (H12.f4).get.2 rfl)) (ltn rfl) ?_
        refine wl_val (r_eql rfl rfl) (ltn rfl) ?_
        refine wl_nil ?_
        refine wq_seq ?_
        refine wc_cond rfl (fun h5 => ?_) (fun h5 => ?_)
        · (try simp only [beq_iff_eq, bne_iff_ne, ne_eq, decide_eq_true_eq, decide_eq_false_iff_not, beq_eq_false_iff_ne, bne_eq_false_iff_eq, Bool.not_eq_true', Bool.not_eq_false', Bool.not_eq_eq_eq_not, Bool.not_true, Bool.not_false, gt_iff_lt, ge_iff_le, Int.not_lt, Int.not_le] at h5)
          try (exfalso; first | contradiction | omega)
          all_goals
            
            refine wc_exit ?_
            refine wq_block_miss (by decide) ?_
            refine wq_rexit ?_
            rw [if_pos rfl]
            obtain rfl : stop = (j : Int) + 1 := by omega
            exact H12.f2.right.f7.f7.f7.f7.f7.f7.f7.g7
        · (try simp only [beq_iff_eq, bne_iff_ne, ne_eq, decide_eq_true_eq, decide_eq_false_iff_not, beq_eq_false_iff_ne, bne_eq_false_iff_eq, Bool.not_eq_true', Bool.not_eq_false', Bool.not_eq_eq_eq_not, Bool.not_true, Bool.not_false, gt_iff_lt, ge_iff_le, Int.not_lt, Int.not_le] at h5)
          try (exfalso; first | contradiction | omega)
          all_goals
            
            refine wc_skip ?_
            refine wq_block_normal ?_
            refine wq_rnormal ?_
            exact H12.f2.right.f7.f7.f7.f7.f7.f7.f7.g7
      · rintro D13 w13 H13
        have H13d := H13.ed
        try simp only [sep_assoc, emp_sep, sep_emp] at H13d
        have H13m := (H13d.f7.f2).markC
        refine wq_block_normal ?_
        refine wq_seq ?_
        refine wc_seq ?_
        refine wc_region ?_
        refine wl_val (r_load (plain_of Try.underlying3 rfl) rfl (cell_of_blk (H13m.f3).get.2 rfl)) (ltn rfl) ?_
        refine wl_val (r_load (plain_of Try.underlying23 rfl) rfl (cell_of_blk (H13m.f4).get.2 rfl)) (ltn rfl) ?_
        refine wl_val (r_lenS (hv _ (H13m.right.right.right.right.right.right.right)) Try.underlying23 rfl) (ltn rfl) ?_
        refine wl_val (r_neq rfl rfl) (ltn rfl) ?_
        refine wl_split rfl (ltn rfl) (fun h6 => ?_) (fun h6 => ?_)
        · (try simp only [beq_iff_eq, bne_iff_ne, ne_eq, decide_eq_true_eq, decide_eq_false_iff_not, beq_eq_false_iff_ne, bne_eq_false_iff_eq, Bool.not_eq_true', Bool.not_eq_false', Bool.not_eq_eq_eq_not, Bool.not_true, Bool.not_false, gt_iff_lt, ge_iff_le, Int.not_lt, Int.not_le] at h6)
          try (exfalso; first | contradiction | omega)
          all_goals
            refine wl_yes rfl rfl ?_
            refine wl_val (r_load (plain_of Try.underlying3 rfl) rfl (cell_of_blk (H13m.f3).get.2 rfl)) (ltn rfl) ?_
            refine wl_yes rfl rfl ?_
            refine wl_val (r_load (plain_of Try.underlying3 rfl) rfl (cell_of_blk (H13m.f5).get.2 rfl)) (ltn rfl) ?_
            refine wl_yes rfl rfl ?_
            refine wl_val (r_known_f (r_neq rfl rfl) (by simp)) (ltn rfl) ?_
            refine wl_val (r_pick_t rfl rfl) (ltn rfl) ?_
            refine wl_nil ?_
            refine wq_seq ?_
            refine wc_cond_f rfl ?_
            refine wc_skip ?_
            refine wq_block_normal ?_
            refine wq_seq ?_
            refine wc_region ?_
            refine wl_val (r_add rfl rfl (by omega)) (ltn rfl) ?_
            refine wl_val (r_move rfl) (ltn rfl) ?_
            refine wl_nil ?_
            refine wq_roundD ((k + 1, _)) ?_ ?_ ?_ ?_
            · exact (Sub.cons rfl (Sub.nil _))
            · exact (Sub.cons rfl (Sub.cons rfl (Sub.cons rfl (Sub.cons rfl (Sub.cons rfl (Sub.nil _))))))
            · (try dsimp only)
              exact ⟨by omega, H13m.f3.right.f6.f3.f6.f6.f6.f6⟩
            · (try dsimp only); omega
        · (try simp only [beq_iff_eq, bne_iff_ne, ne_eq, decide_eq_true_eq, decide_eq_false_iff_not, beq_eq_false_iff_ne, bne_eq_false_iff_eq, Bool.not_eq_true', Bool.not_eq_false', Bool.not_eq_eq_eq_not, Bool.not_true, Bool.not_false, gt_iff_lt, ge_iff_le, Int.not_lt, Int.not_le] at h6)
          try (exfalso; first | contradiction | omega)
          all_goals
            refine wl_no rfl rfl rfl (ltn rfl) ?_
            refine wl_no rfl rfl rfl (ltn rfl) ?_
            refine wl_no rfl rfl rfl (ltn rfl) ?_
            refine wl_val (r_pick_f rfl rfl) (ltn rfl) ?_
            refine wl_nil ?_
            refine wq_seq ?_
            refine wc_cond_f rfl ?_
            refine wc_skip ?_
            refine wq_block_normal ?_
            refine wq_seq ?_
            refine wc_region ?_
            refine wl_val (r_add rfl rfl (by omega)) (ltn rfl) ?_
            refine wl_val (r_move rfl) (ltn rfl) ?_
            refine wl_nil ?_
            refine wq_roundD ((k + 1, _)) ?_ ?_ ?_ ?_
            · exact (Sub.cons rfl (Sub.nil _))
            · exact (Sub.cons rfl (Sub.cons rfl (Sub.cons rfl (Sub.cons rfl (Sub.cons rfl (Sub.nil _))))))
            · (try dsimp only)
              exact ⟨by omega, H13m.f3.right.f6.f3.f6.f6.f6.f6⟩
            · (try dsimp only); omega
      · rintro D w H; exact absurd H.swap.fact.1 id
      · rintro id D14 w14 H14
        refine Decidable.byCases (fun hid : id = 2 => ?_) (fun hid => by rw [if_neg hid] at H14; exact absurd H14.swap.fact.1 fun h => h)
        subst hid
        rw [if_pos rfl] at H14
        have H14d := H14.ed
        try simp only [sep_assoc, emp_sep, sep_emp] at H14d
        have H14m := (H14d.f7.f2).markC
        refine wq_block_hit ?_
        refine wq_seq ?_
        refine wc_seq ?_
        refine wc_region ?_
        refine wl_val (r_load (plain_of Try.underlying3 rfl) rfl (cell_of_blk (H14m.f3).get.2 rfl)) (ltn rfl) ?_
        refine wl_val (r_load (plain_of Try.underlying23 rfl) rfl (cell_of_blk (H14m.f4).get.2 rfl)) (ltn rfl) ?_
        refine wl_val (r_lenS (hv _ (H14m.right.right.right.right.right.right.right)) Try.underlying23 rfl) (ltn rfl) ?_
        refine wl_val (r_neq rfl rfl) (ltn rfl) ?_
        refine wl_split rfl (ltn rfl) (fun h7 => ?_) (fun h7 => ?_)
        · (try simp only [beq_iff_eq, bne_iff_ne, ne_eq, decide_eq_true_eq, decide_eq_false_iff_not, beq_eq_false_iff_ne, bne_eq_false_iff_eq, Bool.not_eq_true', Bool.not_eq_false', Bool.not_eq_eq_eq_not, Bool.not_true, Bool.not_false, gt_iff_lt, ge_iff_le, Int.not_lt, Int.not_le] at h7)
          try (exfalso; first | contradiction | omega)
          all_goals
            refine wl_yes rfl rfl ?_
            refine wl_val (r_load (plain_of Try.underlying3 rfl) rfl (cell_of_blk (H14m.f3).get.2 rfl)) (ltn rfl) ?_
            refine wl_yes rfl rfl ?_
            refine wl_val (r_load (plain_of Try.underlying3 rfl) rfl (cell_of_blk (H14m.f5).get.2 rfl)) (ltn rfl) ?_
            refine wl_yes rfl rfl ?_
            refine wl_val (r_known_f (r_neq rfl rfl) (by simp)) (ltn rfl) ?_
            refine wl_val (r_pick_t rfl rfl) (ltn rfl) ?_
            refine wl_nil ?_
            refine wq_seq ?_
            refine wc_cond_f rfl ?_
            refine wc_skip ?_
            refine wq_block_normal ?_
            refine wq_seq ?_
            refine wc_region ?_
            refine wl_val (r_add rfl rfl (by omega)) (ltn rfl) ?_
            refine wl_val (r_move rfl) (ltn rfl) ?_
            refine wl_nil ?_
            refine wq_roundD ((k + 1, _)) ?_ ?_ ?_ ?_
            · exact (Sub.cons rfl (Sub.nil _))
            · exact (Sub.cons rfl (Sub.cons rfl (Sub.cons rfl (Sub.cons rfl (Sub.cons rfl (Sub.nil _))))))
            · (try dsimp only)
              exact ⟨by omega, H14m.f3.right.f6.f3.f6.f6.f6.f6⟩
            · (try dsimp only); omega
        · (try simp only [beq_iff_eq, bne_iff_ne, ne_eq, decide_eq_true_eq, decide_eq_false_iff_not, beq_eq_false_iff_ne, bne_eq_false_iff_eq, Bool.not_eq_true', Bool.not_eq_false', Bool.not_eq_eq_eq_not, Bool.not_true, Bool.not_false, gt_iff_lt, ge_iff_le, Int.not_lt, Int.not_le] at h7)
          try (exfalso; first | contradiction | omega)
          all_goals
            refine wl_no rfl rfl rfl (ltn rfl) ?_
            refine wl_no rfl rfl rfl (ltn rfl) ?_
            refine wl_no rfl rfl rfl (ltn rfl) ?_
            refine wl_val (r_pick_f rfl rfl) (ltn rfl) ?_
            refine wl_nil ?_
            refine wq_seq ?_
            refine wc_cond_f rfl ?_
            refine wc_skip ?_
            refine wq_block_normal ?_
            refine wq_seq ?_
            refine wc_region ?_
            refine wl_val (r_add rfl rfl (by omega)) (ltn rfl) ?_
            refine wl_val (r_move rfl) (ltn rfl) ?_
            refine wl_nil ?_
            refine wq_roundD ((k + 1, _)) ?_ ?_ ?_ ?_
            · exact (Sub.cons rfl (Sub.nil _))
            · exact (Sub.cons rfl (Sub.cons rfl (Sub.cons rfl (Sub.cons rfl (Sub.cons rfl (Sub.nil _))))))
            · (try dsimp only)
              exact ⟨by omega, H14m.f3.right.f6.f3.f6.f6.f6.f6⟩
            · (try dsimp only); omega
  · (try simp only [beq_iff_eq, bne_iff_ne, ne_eq, decide_eq_true_eq, decide_eq_false_iff_not, beq_eq_false_iff_ne, bne_eq_false_iff_eq, Bool.not_eq_true', Bool.not_eq_false', Bool.not_eq_eq_eq_not, Bool.not_true, Bool.not_false, gt_iff_lt, ge_iff_le, Int.not_lt, Int.not_le] at h1)
    try (exfalso; first | contradiction | omega)
    all_goals
      
      refine wc_exit ?_
      refine wq_then_exit ?_
      refine wq_then_exit ?_
      refine wq_block_hit ?_
      refine wq_seq ?_
      refine wc_seq ?_
      have H15d14 := HL.drew
      have hS15d14 := Holds.kp (H15d14.f6.f6.f6.f6.f6.f6)
      refine wd_beginK [2] hS15d14 (by kernel_rfl) (by kernel_rfl) rfl ?_
      refine wd_takeT 0 rfl (by kernel_rfl) (by kernel_rfl) hS15d14 (fun _ => r_move rfl) (ltn rfl) ?_
      refine wd_take 2 rfl (by kernel_rfl) (by kernel_rfl) hS15d14 (by decide) (fun W hW => r_load (plain_of Try.underlying23 rfl) rfl (cell_of_blk ((Kp.h hW).f2).get.2 rfl)) (ltn rfl) ?_
      refine wd_takeT 3 rfl (by kernel_rfl) (by kernel_rfl) hS15d14 (fun _ => r_lenS (hv _ (H15d14.right.right.right.right.right.right)) Try.underlying23 rfl) (ltn rfl) ?_
      refine wd_eff 1 rfl (by kernel_rfl) (e_call (r_call rfl Try.func14 rfl rfl) (ring_len_ret H15d14.f6)) (ltn rfl) ?_
      rintro _ _ ⟨rfl, rfl⟩
      have hS15n := Holds.kp (H15d14.f6.f6.f6.f6.f6.f6)
      refine keepK hS15n (fun W hW => (Kp.h hW).f6.f6.f6.f6.f6.f6) ?_
      refine wd_takeT 4 rfl (by kernel_rfl) (by kernel_rfl) hS15n (fun _ => r_known_t (r_eql rfl rfl) (by simp)) (ltn rfl) ?_
      refine wd_eff0 5 rfl (by kernel_rfl) (e_storeL 0 (l' := [_]) H15d14.f4 Try.sizeOf4 rfl rfl (by first | rfl | assumption) rfl rfl) ?_
      rintro _ w16 H16
      have hS16n := Holds.kp (H16.f6.f6.f6.f6.f6.f6)
      refine keepX hS16n (by kernel_rfl) ?_
      refine wd_done (by kernel_rfl) ?_
      refine wq_seq ?_
      refine wc_ret ?_
      refine wq_endM (.inl rfl) (H16.f2) (fun w17 H17 => ?_)
      refine ⟨_, resC1 Try.results21 rfl (plain_of Try.underlying4 rfl) (cell_of_blk (H17).get.2 rfl), ?_⟩
      exact ⟨rfl, H17.right.right.right.right⟩
end
end Go.Proofs.Ytkjkfbkapingbaa
