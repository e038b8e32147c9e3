/- The document's list of edits: Add. -/
import Derived.Test.YtaabgcfeghcmnaaRList3
set_option linter.unusedSimpArgs false
set_option linter.unusedVariables false
namespace Go.Proofs.Ytaabgcfeghcmnaa
open Go.RowKit
section
variable {w0 w : World} {F : HP} {p : Nat} {G : List (List EdA)} {N : List EdA} {op a : Int} {d z : Value} {dl il : List Int}
theorem rl_add_ret (H : Holds w0 w (RList p G N op • F)) (hd : FRdI w0 F .i32 d dl) (hi : FRdI w0 F .i32 z il) (b2 : dl.length ≤ 35184372087808) (b3 : il.length ≤ 35184372087808) :
    Ret Try.prog 22 #[.pointer (some ⟨p, 0, none⟩), edV a d z] w fun v w' => v = .int .i64 (addE G N a dl il) ∧ Holds w0 w' (RList p (addG G N op a dl il) (addN G N op a dl il) op • F) := by
  refine ret_enter Try.func22 rfl Try.ntmps22 (Nat.le_of_ble_eq_true rfl) ?_
  dsimp only [slots0, Nat.reduceAdd]
  refine wc_seq ?_
  refine wc_region ?_
  refine wl_eff (e_boxL (l := [_, _, _]) H rfl rfl) (ltn rfl) ?_
  rintro _ w1 ⟨b1, rfl, H1⟩
  refine wl_val (r_assign rfl) (ltn rfl) ?_
  refine wl_nil ?_
  refine wq_seq ?_
  refine wc_seq ?_
  refine wc_block ?_
  refine wc_seq ?_
  refine wc_region ?_
  refine wl_val ((by first | exact r_field0 1 Try.underlying24 rfl rfl Try.sizeOf22 (by decide) rfl | exact r_field 1 Try.underlying24 rfl rfl Try.sizeOf22 (by decide) rfl)) (ltn rfl) ?_
  refine wl_val (r_load (plain_of Try.underlying22 rfl) rfl (cell_of_blk (H1).get.2 rfl)) (ltn rfl) ?_
  refine wl_val (r_lenR (hd _ (H1.right.right)) Try.underlying22 rfl) (ltn rfl) ?_
  refine wl_val (r_eql rfl rfl) (ltn rfl) ?_
  refine wl_split rfl (ltn rfl) (fun h1 => ?_) (fun h1 => ?_)
  · (try simp only [beq_iff_eq, bne_iff_ne, ne_eq, decide_eq_true_eq, decide_eq_false_iff_not, beq_eq_false_iff_ne, bne_eq_false_iff_eq, Bool.not_eq_true', Bool.not_eq_false', Bool.not_eq_eq_eq_not, Bool.not_true, Bool.not_false, gt_iff_lt, ge_iff_le, Int.not_lt, Int.not_le] at h1)
    refine wl_yes rfl rfl ?_
    refine wl_val ((by first | exact r_field0 2 Try.underlying24 rfl rfl Try.sizeOf22 (by decide) rfl | exact r_field 2 Try.underlying24 rfl rfl Try.sizeOf22 (by decide) rfl)) (ltn rfl) ?_
    refine wl_yes rfl rfl ?_
    refine wl_val (r_load (plain_of Try.underlying22 rfl) rfl (cell_of_blk (H1).get.2 rfl)) (ltn rfl) ?_
    refine wl_yes rfl rfl ?_
    refine wl_val (r_lenR (hi _ (H1.right.right)) Try.underlying22 rfl) (ltn rfl) ?_
    refine wl_yes rfl rfl ?_
    refine wl_val (r_eql rfl rfl) (ltn rfl) ?_
    refine wl_val (r_pick_t rfl rfl) (ltn rfl) ?_
    refine wl_split rfl (ltn rfl) (fun h2 => ?_) (fun h2 => ?_)
    · (try simp only [beq_iff_eq, bne_iff_ne, ne_eq, decide_eq_true_eq, decide_eq_false_iff_not, beq_eq_false_iff_ne, bne_eq_false_iff_eq, Bool.not_eq_true', Bool.not_eq_false', Bool.not_eq_eq_eq_not, Bool.not_true, Bool.not_false, gt_iff_lt, ge_iff_le, Int.not_lt, Int.not_le] at h2)
      refine wl_no rfl rfl rfl (ltn rfl) ?_
      refine wl_no rfl rfl rfl (ltn rfl) ?_
      refine wl_no rfl rfl rfl (ltn rfl) ?_
      refine wl_val (r_pick_t rfl rfl) (ltn rfl) ?_
      refine wl_val (r_assign rfl) (ltn rfl) ?_
      refine wl_nil ?_
      refine wq_seq ?_
      refine wc_cond_t rfl ?_
      refine wc_seq ?_
      refine wc_region ?_
      refine wl_val (r_assign rfl) (ltn rfl) ?_
      refine wl_nil ?_
      refine wq_seq ?_
      refine wc_ret ?_
      refine wq_block_ret ?_
      refine wq_then_ret ?_
      refine wq_end1 (.inl rfl) Try.results22 rfl ?_
      have e : addE G N a dl il = 1 := by unfold addE; rw [if_pos (by omega)]
      rw [addG_not (by rw [e]; decide), addN_not (by rw [e]; decide), e]
      exact ⟨rfl, H1.right⟩
    · (try simp only [beq_iff_eq, bne_iff_ne, ne_eq, decide_eq_true_eq, decide_eq_false_iff_not, beq_eq_false_iff_ne, bne_eq_false_iff_eq, Bool.not_eq_true', Bool.not_eq_false', Bool.not_eq_eq_eq_not, Bool.not_true, Bool.not_false, gt_iff_lt, ge_iff_le, Int.not_lt, Int.not_le] at h2)
      refine wl_yes rfl rfl ?_
      refine wl_val ((by first | exact r_field0 0 Try.underlying24 rfl rfl Try.sizeOf3 (by decide) rfl | exact r_field 0 Try.underlying24 rfl rfl Try.sizeOf3 (by decide) rfl)) (ltn rfl) ?_
      refine wl_yes rfl rfl ?_
      refine wl_val (r_load (plain_of Try.underlying3 rfl) rfl (cell_of_blk (H1).get.2 rfl)) (ltn rfl) ?_
      refine wl_yes rfl rfl ?_
      refine wl_val (r_lss rfl rfl) (ltn rfl) ?_
      refine wl_val (r_pick_f rfl rfl) (ltn rfl) ?_
      refine wl_val (r_assign rfl) (ltn rfl) ?_
      refine wl_nil ?_
      refine wq_seq ?_
      refine wc_cond rfl (fun h3 => ?_) (fun h3 => ?_)
      · (try simp only [beq_iff_eq, bne_iff_ne, ne_eq, decide_eq_true_eq, decide_eq_false_iff_not, beq_eq_false_iff_ne, bne_eq_false_iff_eq, Bool.not_eq_true', Bool.not_eq_false', Bool.not_eq_eq_eq_not, Bool.not_true, Bool.not_false, gt_iff_lt, ge_iff_le, Int.not_lt, Int.not_le] at h3)
        
        refine wc_seq ?_
        refine wc_region ?_
        refine wl_val (r_assign rfl) (ltn rfl) ?_
        refine wl_nil ?_
        refine wq_seq ?_
        refine wc_ret ?_
        refine wq_block_ret ?_
        refine wq_then_ret ?_
        refine wq_end1 (.inl rfl) Try.results22 rfl ?_
        have e : addE G N a dl il = 1 := by unfold addE; rw [if_pos (by omega)]
        rw [addG_not (by rw [e]; decide), addN_not (by rw [e]; decide), e]
        exact ⟨rfl, H1.right⟩
      · (try simp only [beq_iff_eq, bne_iff_ne, ne_eq, decide_eq_true_eq, decide_eq_false_iff_not, beq_eq_false_iff_ne, bne_eq_false_iff_eq, Bool.not_eq_true', Bool.not_eq_false', Bool.not_eq_eq_eq_not, Bool.not_true, Bool.not_false, gt_iff_lt, ge_iff_le, Int.not_lt, Int.not_le] at h3)
        
        refine wc_seq ?_
        refine wc_region ?_
        refine wl_val (r_move rfl) (ltn rfl) ?_
        refine wl_eff (e_call (r_call rfl Try.func42 rfl rfl) (rl_edits_ret H1.f2)) (ltn rfl) ?_
        rintro _ w2 ⟨rfl, H2⟩
        refine wl_val (r_geq rfl rfl) (ltn rfl) ?_
        refine wl_val (r_assign rfl) (ltn rfl) ?_
        refine wl_nil ?_
        refine wq_seq ?_
        refine wc_cond rfl (fun h4 => ?_) (fun h4 => ?_)
        · (try simp only [beq_iff_eq, bne_iff_ne, ne_eq, decide_eq_true_eq, decide_eq_false_iff_not, beq_eq_false_iff_ne, bne_eq_false_iff_eq, Bool.not_eq_true', Bool.not_eq_false', Bool.not_eq_eq_eq_not, Bool.not_true, Bool.not_false, gt_iff_lt, ge_iff_le, Int.not_lt, Int.not_le] at h4)
          
          refine wc_seq ?_
          refine wc_region ?_
          refine wl_val (r_assign rfl) (ltn rfl) ?_
          refine wl_nil ?_
          refine wq_seq ?_
          refine wc_ret ?_
          refine wq_block_ret ?_
          refine wq_then_ret ?_
          refine wq_end1 (.inl rfl) Try.results22 rfl ?_
          have e : addE G N a dl il = 3 := by unfold addE; rw [if_neg (by omega), if_pos (by omega)]
          rw [addG_not (by rw [e]; decide), addN_not (by rw [e]; decide), e]
          exact ⟨rfl, H2.f2.right⟩
        · (try simp only [beq_iff_eq, bne_iff_ne, ne_eq, decide_eq_true_eq, decide_eq_false_iff_not, beq_eq_false_iff_ne, bne_eq_false_iff_eq, Bool.not_eq_true', Bool.not_eq_false', Bool.not_eq_eq_eq_not, Bool.not_true, Bool.not_false, gt_iff_lt, ge_iff_le, Int.not_lt, Int.not_le] at h4)
          
          refine wc_skip ?_
          refine wq_block_normal ?_
          refine wq_seq ?_
          refine wc_seq ?_
          refine wc_seq ?_
          obtain ⟨gw_p, nw_p, gs_p, now_p, k1_p, k2_p, k3_p, k4_p, k5_p, k6_p, HU_p⟩ := (H2).rlist
          refine wc_region ?_
          refine wl_val (r_move rfl) (ltn rfl) ?_
          refine wl_val (r_nil rfl) (ltn rfl) ?_
          refine wl_val ((by first | exact r_field0 1 Try.underlying45 rfl rfl Try.sizeOf3 (by decide) rfl | exact r_field 1 Try.underlying45 rfl rfl Try.sizeOf3 (by decide) rfl)) (ltn rfl) ?_
          refine wl_val (r_load (plain_of Try.underlying3 rfl) rfl (cell_of_blk (HU_p).get.2 rfl)) (ltn rfl) ?_
          refine wl_val (r_gtr rfl rfl) (ltn rfl) ?_
          refine wl_nil ?_
          refine wq_seq ?_
          refine wc_cond rfl (fun h5 => ?_) (fun h5 => ?_)
          · (try simp only [beq_iff_eq, bne_iff_ne, ne_eq, decide_eq_true_eq, decide_eq_false_iff_not, beq_eq_false_iff_ne, bne_eq_false_iff_eq, Bool.not_eq_true', Bool.not_eq_false', Bool.not_eq_eq_eq_not, Bool.not_true, Bool.not_false, gt_iff_lt, ge_iff_le, Int.not_lt, Int.not_le] at h5)
            
            have H6d3 := HU_p.drew
            have hS6d3 := Holds.kp (H6d3.f6.f6.f6.f6.f6.f6)
            refine wd_beginK [4, 5] hS6d3 (by kernel_rfl) (by kernel_rfl) rfl ?_
            refine wd_takeT 0 rfl (by kernel_rfl) (by kernel_rfl) hS6d3 (fun _ => r_move rfl) (ltn rfl) ?_
            refine wd_takeT 1 rfl (by kernel_rfl) (by kernel_rfl) hS6d3 (fun _ => r_move rfl) (ltn rfl) ?_
            refine wd_takeT 2 rfl (by kernel_rfl) (by kernel_rfl) hS6d3 (fun _ => r_nil rfl) (ltn rfl) ?_
            refine wd_takeT 3 rfl (by kernel_rfl) (by kernel_rfl) hS6d3 (fun _ => (by first | exact r_field0 2 Try.underlying45 rfl rfl Try.sizeOf39 (by decide) rfl | exact r_field 2 Try.underlying45 rfl rfl Try.sizeOf39 (by decide) rfl)) (ltn rfl) ?_
            refine wd_take 4 rfl (by kernel_rfl) (by kernel_rfl) hS6d3 (by decide) (fun W hW => r_load (plain_of Try.underlying39 rfl) rfl (cell_of_blk ((Kp.h hW)).get.2 rfl)) (ltn rfl) ?_
            refine wd_take 5 rfl (by kernel_rfl) (by kernel_rfl) hS6d3 (by decide) (fun W hW => r_load_whole Try.underlying24 rfl Try.sizeOf24 rfl rfl ((Kp.h hW).f6).get.2) (ltn rfl) ?_
            refine wd_eff 6 rfl (by kernel_rfl) (e_call (r_call rfl Try.func20 rfl rfl) (ref_clone_ret H6d3 (fun W HW => hd _ (HW.right.right.right.right.right.right)) (fun W HW => hi _ (HW.right.right.right.right.right.right)) (by omega) (by omega))) (ltn rfl) ?_
            rintro _ w4 ⟨d4, s4, rfl, H4⟩
            have hS4n := Holds.kp (H4.f8.f8.f8.f8.f8.f8.f8.f8)
            refine keepK hS4n (fun W hW => (Kp.h hW).right.right.f6.f6.f6.f6.f6.f6) ?_
            refine wd_eff 7 rfl (by kernel_rfl) (e_lit_one H4 Try.underlying39 Try.sizeOf24 Try.zeroValue24 rfl rfl rfl (by decide) (by decide)) (ltn rfl) ?_
            rintro l5 w5 H5
            have hS5n := Holds.kp (H5.f9.f9.f9.f9.f9.f9.f9.f9.f9)
            refine keepK hS5n (fun W hW => (Kp.h hW).right.f8.f8.f8.f8.f8.f8.f8.f8) ?_
            refine wd_eff 8 rfl (by kernel_rfl) (e_append H5.f7 Try.underlying39 (show (Try.prog.info? 24).map (fun i => (i.zero, i.size, i.bytes)) = some (some (.agg #[.int .i64 0, .slice none 0 0, .slice none 0 0]), 3, 56) by kernel_rfl) rfl rfl rfl ((H5).row_rd) (ones_cons (by first | rfl | assumption) (ones_cons (by first | rfl | exact Rd.one ((H5.f2).row_rd)) (ones_cons (by first | rfl | exact Rd.one ((H5.f3).row_rd)) ones_nil))) (by omega) (by omega)) (ltn rfl) ?_
            rintro l6 w6 H6
            have Hd7 := H6.f2.right
            have hS7n := Holds.kp (Hd7.f8.f8.f8.f8.f8.f8.f8.f8)
            refine keepX hS7n (by kernel_rfl) ?_
            refine wd_takeT 9 rfl (by kernel_rfl) (by kernel_rfl) hS7n (fun _ => r_nil rfl) (ltn rfl) ?_
            refine wd_takeT 10 rfl (by kernel_rfl) (by kernel_rfl) hS7n (fun _ => (by first | exact r_field0 2 Try.underlying45 rfl rfl Try.sizeOf39 (by decide) rfl | exact r_field 2 Try.underlying45 rfl rfl Try.sizeOf39 (by decide) rfl)) (ltn rfl) ?_
            refine wd_eff0 11 rfl (by kernel_rfl) (e_storeL 2 (l' := [_, _, _]) Hd7.f4 Try.sizeOf39 rfl rfl (by first | rfl | exact Rd.one ((Hd7).row_rd)) rfl rfl) ?_
            rintro _ w8 H8
            have hS8n := Holds.kp (H8.f8.f8.f8.f8.f8.f8.f8.f8)
            refine keepX hS8n (by kernel_rfl) ?_
            have hadd : 0 < op := by omega
            have X := (H8.f8.right.f6.f6.f3.f7.f5.f7.f7).freezeI.swap.freezeI.swap
            have X2 := Holds.edL_snoc X.f3
            have HR : addE G N a dl il = 0 → Holds w0 w8 (RList p (addG G N op a dl il) (addN G N op a dl il) op • F) := fun e => by
              have hu : ¬ 16384 ≤ uTot G N := by omega
              rw [addG_in e hadd, addN_in e hadd]
              exact Holds.mk_rlist (gv := gw_p) (nv := l6) (gs := gs_p) (now := now_p ++ [⟨a, d4, dl, s4, il⟩]) ⟨k1_p.1, by rw [uTot_in]; omega, k1_p.2.2.1, k1_p.2.2.2.1, k1_p.2.2.2.2.1, EB_snoc k1_p.2.2.2.2.2 ⟨b2, b3⟩⟩ k2_p (by rw [List.map_append, k3_p]; rfl) (X2.of_eq (by unfold EdLL; ac_rfl))
            refine wd_done (by kernel_rfl) ?_
            refine wq_seq ?_
            refine wc_seq ?_
            refine wc_region ?_
            refine wl_val (r_assign rfl) (ltn rfl) ?_
            refine wl_nil ?_
            refine wq_seq ?_
            refine wc_ret ?_
            refine wq_end1 (.inl rfl) Try.results22 rfl ?_
            have e : addE G N a dl il = 0 := by unfold addE; rw [if_neg (by omega), if_neg (by omega)]
            have h9 := HR e
            rw [e]
            exact ⟨rfl, h9⟩
          · (try simp only [beq_iff_eq, bne_iff_ne, ne_eq, decide_eq_true_eq, decide_eq_false_iff_not, beq_eq_false_iff_ne, bne_eq_false_iff_eq, Bool.not_eq_true', Bool.not_eq_false', Bool.not_eq_eq_eq_not, Bool.not_true, Bool.not_false, gt_iff_lt, ge_iff_le, Int.not_lt, Int.not_le] at h5)
            
            have H7d8 := HU_p.drew
            have hS7d8 := Holds.kp (H7d8.f6.f6.f6.f6.f6.f6)
            refine wd_beginK [4, 5] hS7d8 (by kernel_rfl) (by kernel_rfl) rfl ?_
            refine wd_takeT 0 rfl (by kernel_rfl) (by kernel_rfl) hS7d8 (fun _ => r_move rfl) (ltn rfl) ?_
            refine wd_takeT 1 rfl (by kernel_rfl) (by kernel_rfl) hS7d8 (fun _ => r_move rfl) (ltn rfl) ?_
            refine wd_takeT 2 rfl (by kernel_rfl) (by kernel_rfl) hS7d8 (fun _ => r_nil rfl) (ltn rfl) ?_
            refine wd_takeT 3 rfl (by kernel_rfl) (by kernel_rfl) hS7d8 (fun _ => (by first | exact r_field0 0 Try.underlying45 rfl rfl Try.sizeOf43 (by decide) rfl | exact r_field 0 Try.underlying45 rfl rfl Try.sizeOf43 (by decide) rfl)) (ltn rfl) ?_
            refine wd_take 4 rfl (by kernel_rfl) (by kernel_rfl) hS7d8 (by decide) (fun W hW => r_load (plain_of Try.underlying43 rfl) rfl (cell_of_blk ((Kp.h hW)).get.2 rfl)) (ltn rfl) ?_
            refine wd_take 5 rfl (by kernel_rfl) (by kernel_rfl) hS7d8 (by decide) (fun W hW => r_load_whole Try.underlying24 rfl Try.sizeOf24 rfl rfl ((Kp.h hW).f6).get.2) (ltn rfl) ?_
            refine wd_eff 6 rfl (by kernel_rfl) (e_call (r_call rfl Try.func20 rfl rfl) (ref_clone_ret H7d8 (fun W HW => hd _ (HW.right.right.right.right.right.right)) (fun W HW => hi _ (HW.right.right.right.right.right.right)) (by omega) (by omega))) (ltn rfl) ?_
            rintro _ w9 ⟨d9, s9, rfl, H9⟩
            have hS9n := Holds.kp (H9.f8.f8.f8.f8.f8.f8.f8.f8)
            refine keepK hS9n (fun W hW => (Kp.h hW).right.right.f6.f6.f6.f6.f6.f6) ?_
            refine wd_eff 7 rfl (by kernel_rfl) (e_lit_one H9 Try.underlying39 Try.sizeOf24 Try.zeroValue24 rfl rfl rfl (by decide) (by decide)) (ltn rfl) ?_
            rintro l10 w10 H10
            have hS10n := Holds.kp (H10.f9.f9.f9.f9.f9.f9.f9.f9.f9)
            refine keepK hS10n (fun W hW => (Kp.h hW).right.f8.f8.f8.f8.f8.f8.f8.f8) ?_
            refine wd_eff 8 rfl (by kernel_rfl) (e_lit_row (vs := [_]) H10 Try.underlying43 Try.sizeOf39 Try.zeroValue39 rfl rfl rfl (by decide) (ones_cons (by first | rfl | exact Rd.one ((H10).row_rd)) ones_nil)) (ltn rfl) ?_
            rintro l11 w11 H11
            have hS11n := Holds.kp (H11.f10.f10.f10.f10.f10.f10.f10.f10.f10.f10)
            refine keepK hS11n (fun W hW => (Kp.h hW).right.f9.f9.f9.f9.f9.f9.f9.f9.f9) ?_
            refine wd_eff 9 rfl (by kernel_rfl) (e_append H11.f6 Try.underlying43 (show (Try.prog.info? 39).map (fun i => (i.zero, i.size, i.bytes)) = some (some (.slice none 0 0), 1, 24) by kernel_rfl) rfl rfl rfl ((H11).row_rd) (ones_cons (by first | rfl | exact Rd.one ((H11.f2).row_rd)) ones_nil) (by omega) (by omega)) (ltn rfl) ?_
            rintro l12 w12 H12
            have Hd13 := H12.f2.right
            have hS13n := Holds.kp (Hd13.f9.f9.f9.f9.f9.f9.f9.f9.f9)
            refine keepX hS13n (by kernel_rfl) ?_
            refine wd_takeT 10 rfl (by kernel_rfl) (by kernel_rfl) hS13n (fun _ => r_nil rfl) (ltn rfl) ?_
            refine wd_takeT 11 rfl (by kernel_rfl) (by kernel_rfl) hS13n (fun _ => (by first | exact r_field0 0 Try.underlying45 rfl rfl Try.sizeOf43 (by decide) rfl | exact r_field 0 Try.underlying45 rfl rfl Try.sizeOf43 (by decide) rfl)) (ltn rfl) ?_
            refine wd_eff0 12 rfl (by kernel_rfl) (e_storeL 0 (l' := [_, _, _]) Hd13.f5 Try.sizeOf43 rfl rfl (by first | rfl | exact Rd.one ((Hd13).row_rd)) rfl rfl) ?_
            rintro _ w14 H14
            have hS14n := Holds.kp (H14.f9.f9.f9.f9.f9.f9.f9.f9.f9)
            refine keepX hS14n (by kernel_rfl) ?_
            have hadd : ¬ 0 < op := by omega
            have X := (H14.f9.right.f8.f8.f3.f8.f5.f6.f8.f8).freezeI.swap.freezeI.swap
            have X2 := Holds.edL_snoc (es := []) X.edsK_nil.f3.f3.f4
            have X4 := Holds.edLL_snoc X2.edL_freeze.swap
            have HR : addE G N a dl il = 0 → Holds w0 w14 (RList p (addG G N op a dl il) (addN G N op a dl il) op • F) := fun e => by
              have hu : ¬ 16384 ≤ uTot G N := by omega
              rw [addG_out e hadd, addN_out e hadd]
              exact Holds.mk_rlist (gv := l12) (nv := nw_p) (gs := gs_p ++ [(l10, [⟨a, d9, dl, s9, il⟩])]) (now := now_p) ⟨nn_snoc k1_p.1 (List.cons_ne_nil _ _), by rw [uTot_out]; omega, k1_p.2.2.1, k1_p.2.2.2.1, EBs_snoc k1_p.2.2.2.2.1 (by intro e he; rw [List.mem_singleton.1 he]; exact ⟨b2, b3⟩), k1_p.2.2.2.2.2⟩ (by rw [List.map_append, k2_p]; rfl) k3_p (X4.of_eq (by unfold EdL; ac_rfl))
            refine wd_done (by kernel_rfl) ?_
            refine wq_seq ?_
            refine wc_seq ?_
            refine wc_region ?_
            refine wl_val (r_assign rfl) (ltn rfl) ?_
            refine wl_nil ?_
            refine wq_seq ?_
            refine wc_ret ?_
            refine wq_end1 (.inl rfl) Try.results22 rfl ?_
            have e : addE G N a dl il = 0 := by unfold addE; rw [if_neg (by omega), if_neg (by omega)]
            have h9 := HR e
            rw [e]
            exact ⟨rfl, h9⟩
  · (try simp only [beq_iff_eq, bne_iff_ne, ne_eq, decide_eq_true_eq, decide_eq_false_iff_not, beq_eq_false_iff_ne, bne_eq_false_iff_eq, Bool.not_eq_true', Bool.not_eq_false', Bool.not_eq_eq_eq_not, Bool.not_true, Bool.not_false, gt_iff_lt, ge_iff_le, Int.not_lt, Int.not_le] at h1)
    refine wl_no rfl rfl rfl (ltn rfl) ?_
    refine wl_no rfl rfl rfl (ltn rfl) ?_
    refine wl_no rfl rfl rfl (ltn rfl) ?_
    refine wl_no rfl rfl rfl (ltn rfl) ?_
    refine wl_val (r_pick_f rfl rfl) (ltn rfl) ?_
    refine wl_val (r_move rfl) (ltn rfl) ?_
    refine wl_yes rfl rfl ?_
    refine wl_val ((by first | exact r_field0 0 Try.underlying24 rfl rfl Try.sizeOf3 (by decide) rfl | exact r_field 0 Try.underlying24 rfl rfl Try.sizeOf3 (by decide) rfl)) (ltn rfl) ?_
    refine wl_yes rfl rfl ?_
    refine wl_val (r_load (plain_of Try.underlying3 rfl) rfl (cell_of_blk (H1).get.2 rfl)) (ltn rfl) ?_
    refine wl_yes rfl rfl ?_
    refine wl_val (r_lss rfl rfl) (ltn rfl) ?_
    refine wl_val (r_pick_f rfl rfl) (ltn rfl) ?_
    refine wl_val (r_assign rfl) (ltn rfl) ?_
    refine wl_nil ?_
    refine wq_seq ?_
    refine wc_cond rfl (fun h6 => ?_) (fun h6 => ?_)
    · (try simp only [beq_iff_eq, bne_iff_ne, ne_eq, decide_eq_true_eq, decide_eq_false_iff_not, beq_eq_false_iff_ne, bne_eq_false_iff_eq, Bool.not_eq_true', Bool.not_eq_false', Bool.not_eq_eq_eq_not, Bool.not_true, Bool.not_false, gt_iff_lt, ge_iff_le, Int.not_lt, Int.not_le] at h6)
      
      refine wc_seq ?_
      refine wc_region ?_
      refine wl_val (r_assign rfl) (ltn rfl) ?_
      refine wl_nil ?_
      refine wq_seq ?_
      refine wc_ret ?_
      refine wq_block_ret ?_
      refine wq_then_ret ?_
      refine wq_end1 (.inl rfl) Try.results22 rfl ?_
      have e : addE G N a dl il = 1 := by unfold addE; rw [if_pos (by omega)]
      rw [addG_not (by rw [e]; decide), addN_not (by rw [e]; decide), e]
      exact ⟨rfl, H1.right⟩
    · (try simp only [beq_iff_eq, bne_iff_ne, ne_eq, decide_eq_true_eq, decide_eq_false_iff_not, beq_eq_false_iff_ne, bne_eq_false_iff_eq, Bool.not_eq_true', Bool.not_eq_false', Bool.not_eq_eq_eq_not, Bool.not_true, Bool.not_false, gt_iff_lt, ge_iff_le, Int.not_lt, Int.not_le] at h6)
      
      refine wc_seq ?_
      refine wc_region ?_
      refine wl_val (r_move rfl) (ltn rfl) ?_
      refine wl_eff (e_call (r_call rfl Try.func42 rfl rfl) (rl_edits_ret H1.f2)) (ltn rfl) ?_
      rintro _ w15 ⟨rfl, H15⟩
      refine wl_val (r_geq rfl rfl) (ltn rfl) ?_
      refine wl_val (r_assign rfl) (ltn rfl) ?_
      refine wl_nil ?_
      refine wq_seq ?_
      refine wc_cond rfl (fun h7 => ?_) (fun h7 => ?_)
      · (try simp only [beq_iff_eq, bne_iff_ne, ne_eq, decide_eq_true_eq, decide_eq_false_iff_not, beq_eq_false_iff_ne, bne_eq_false_iff_eq, Bool.not_eq_true', Bool.not_eq_false', Bool.not_eq_eq_eq_not, Bool.not_true, Bool.not_false, gt_iff_lt, ge_iff_le, Int.not_lt, Int.not_le] at h7)
        
        refine wc_seq ?_
        refine wc_region ?_
        refine wl_val (r_assign rfl) (ltn rfl) ?_
        refine wl_nil ?_
        refine wq_seq ?_
        refine wc_ret ?_
        refine wq_block_ret ?_
        refine wq_then_ret ?_
        refine wq_end1 (.inl rfl) Try.results22 rfl ?_
        have e : addE G N a dl il = 3 := by unfold addE; rw [if_neg (by omega), if_pos (by omega)]
        rw [addG_not (by rw [e]; decide), addN_not (by rw [e]; decide), e]
        exact ⟨rfl, H15.f2.right⟩
      · (try simp only [beq_iff_eq, bne_iff_ne, ne_eq, decide_eq_true_eq, decide_eq_false_iff_not, beq_eq_false_iff_ne, bne_eq_false_iff_eq, Bool.not_eq_true', Bool.not_eq_false', Bool.not_eq_eq_eq_not, Bool.not_true, Bool.not_false, gt_iff_lt, ge_iff_le, Int.not_lt, Int.not_le] at h7)
        
        refine wc_skip ?_
        refine wq_block_normal ?_
        refine wq_seq ?_
        refine wc_seq ?_
        refine wc_seq ?_
        obtain ⟨gw_p, nw_p, gs_p, now_p, k1_p, k2_p, k3_p, k4_p, k5_p, k6_p, HU_p⟩ := (H15).rlist
        refine wc_region ?_
        refine wl_val (r_move rfl) (ltn rfl) ?_
        refine wl_val (r_nil rfl) (ltn rfl) ?_
        refine wl_val ((by first | exact r_field0 1 Try.underlying45 rfl rfl Try.sizeOf3 (by decide) rfl | exact r_field 1 Try.underlying45 rfl rfl Try.sizeOf3 (by decide) rfl)) (ltn rfl) ?_
        refine wl_val (r_load (plain_of Try.underlying3 rfl) rfl (cell_of_blk (HU_p).get.2 rfl)) (ltn rfl) ?_
        refine wl_val (r_gtr rfl rfl) (ltn rfl) ?_
        refine wl_nil ?_
        refine wq_seq ?_
        refine wc_cond rfl (fun h8 => ?_) (fun h8 => ?_)
        · (try simp only [beq_iff_eq, bne_iff_ne, ne_eq, decide_eq_true_eq, decide_eq_false_iff_not, beq_eq_false_iff_ne, bne_eq_false_iff_eq, Bool.not_eq_true', Bool.not_eq_false', Bool.not_eq_eq_eq_not, Bool.not_true, Bool.not_false, gt_iff_lt, ge_iff_le, Int.not_lt, Int.not_le] at h8)
          
          have H6d16 := HU_p.drew
          have hS6d16 := Holds.kp (H6d16.f6.f6.f6.f6.f6.f6)
          refine wd_beginK [4, 5] hS6d16 (by kernel_rfl) (by kernel_rfl) rfl ?_
          refine wd_takeT 0 rfl (by kernel_rfl) (by kernel_rfl) hS6d16 (fun _ => r_move rfl) (ltn rfl) ?_
          refine wd_takeT 1 rfl (by kernel_rfl) (by kernel_rfl) hS6d16 (fun _ => r_move rfl) (ltn rfl) ?_
          refine wd_takeT 2 rfl (by kernel_rfl) (by kernel_rfl) hS6d16 (fun _ => r_nil rfl) (ltn rfl) ?_
          refine wd_takeT 3 rfl (by kernel_rfl) (by kernel_rfl) hS6d16 (fun _ => (by first | exact r_field0 2 Try.underlying45 rfl rfl Try.sizeOf39 (by decide) rfl | exact r_field 2 Try.underlying45 rfl rfl Try.sizeOf39 (by decide) rfl)) (ltn rfl) ?_
          refine wd_take 4 rfl (by kernel_rfl) (by kernel_rfl) hS6d16 (by decide) (fun W hW => r_load (plain_of Try.underlying39 rfl) rfl (cell_of_blk ((Kp.h hW)).get.2 rfl)) (ltn rfl) ?_
          refine wd_take 5 rfl (by kernel_rfl) (by kernel_rfl) hS6d16 (by decide) (fun W hW => r_load_whole Try.underlying24 rfl Try.sizeOf24 rfl rfl ((Kp.h hW).f6).get.2) (ltn rfl) ?_
          refine wd_eff 6 rfl (by kernel_rfl) (e_call (r_call rfl Try.func20 rfl rfl) (ref_clone_ret H6d16 (fun W HW => hd _ (HW.right.right.right.right.right.right)) (fun W HW => hi _ (HW.right.right.right.right.right.right)) (by omega) (by omega))) (ltn rfl) ?_
          rintro _ w17 ⟨d17, s17, rfl, H17⟩
          have hS17n := Holds.kp (H17.f8.f8.f8.f8.f8.f8.f8.f8)
          refine keepK hS17n (fun W hW => (Kp.h hW).right.right.f6.f6.f6.f6.f6.f6) ?_
          refine wd_eff 7 rfl (by kernel_rfl) (e_lit_one H17 Try.underlying39 Try.sizeOf24 Try.zeroValue24 rfl rfl rfl (by decide) (by decide)) (ltn rfl) ?_
          rintro l18 w18 H18
          have hS18n := Holds.kp (H18.f9.f9.f9.f9.f9.f9.f9.f9.f9)
          refine keepK hS18n (fun W hW => (Kp.h hW).right.f8.f8.f8.f8.f8.f8.f8.f8) ?_
          refine wd_eff 8 rfl (by kernel_rfl) (e_append H18.f7 Try.underlying39 (show (Try.prog.info? 24).map (fun i => (i.zero, i.size, i.bytes)) = some (some (.agg #[.int .i64 0, .slice none 0 0, .slice none 0 0]), 3, 56) by kernel_rfl) rfl rfl rfl ((H18).row_rd) (ones_cons (by first | rfl | assumption) (ones_cons (by first | rfl | exact Rd.one ((H18.f2).row_rd)) (ones_cons (by first | rfl | exact Rd.one ((H18.f3).row_rd)) ones_nil))) (by omega) (by omega)) (ltn rfl) ?_
          rintro l19 w19 H19
          have Hd20 := H19.f2.right
          have hS20n := Holds.kp (Hd20.f8.f8.f8.f8.f8.f8.f8.f8)
          refine keepX hS20n (by kernel_rfl) ?_
          refine wd_takeT 9 rfl (by kernel_rfl) (by kernel_rfl) hS20n (fun _ => r_nil rfl) (ltn rfl) ?_
          refine wd_takeT 10 rfl (by kernel_rfl) (by kernel_rfl) hS20n (fun _ => (by first | exact r_field0 2 Try.underlying45 rfl rfl Try.sizeOf39 (by decide) rfl | exact r_field 2 Try.underlying45 rfl rfl Try.sizeOf39 (by decide) rfl)) (ltn rfl) ?_
          refine wd_eff0 11 rfl (by kernel_rfl) (e_storeL 2 (l' := [_, _, _]) Hd20.f4 Try.sizeOf39 rfl rfl (by first | rfl | exact Rd.one ((Hd20).row_rd)) rfl rfl) ?_
          rintro _ w21 H21
          have hS21n := Holds.kp (H21.f8.f8.f8.f8.f8.f8.f8.f8)
          refine keepX hS21n (by kernel_rfl) ?_
          have hadd : 0 < op := by omega
          have X := (H21.f8.right.f6.f6.f3.f7.f5.f7.f7).freezeI.swap.freezeI.swap
          have X2 := Holds.edL_snoc X.f3
          have HR : addE G N a dl il = 0 → Holds w0 w21 (RList p (addG G N op a dl il) (addN G N op a dl il) op • F) := fun e => by
            have hu : ¬ 16384 ≤ uTot G N := by omega
            rw [addG_in e hadd, addN_in e hadd]
            exact Holds.mk_rlist (gv := gw_p) (nv := l19) (gs := gs_p) (now := now_p ++ [⟨a, d17, dl, s17, il⟩]) ⟨k1_p.1, by rw [uTot_in]; omega, k1_p.2.2.1, k1_p.2.2.2.1, k1_p.2.2.2.2.1, EB_snoc k1_p.2.2.2.2.2 ⟨b2, b3⟩⟩ k2_p (by rw [List.map_append, k3_p]; rfl) (X2.of_eq (by unfold EdLL; ac_rfl))
          refine wd_done (by kernel_rfl) ?_
          refine wq_seq ?_
          refine wc_seq ?_
          refine wc_region ?_
          refine wl_val (r_assign rfl) (ltn rfl) ?_
          refine wl_nil ?_
          refine wq_seq ?_
          refine wc_ret ?_
          refine wq_end1 (.inl rfl) Try.results22 rfl ?_
          have e : addE G N a dl il = 0 := by unfold addE; rw [if_neg (by omega), if_neg (by omega)]
          have h9 := HR e
          rw [e]
          exact ⟨rfl, h9⟩
        · (try simp only [beq_iff_eq, bne_iff_ne, ne_eq, decide_eq_true_eq, decide_eq_false_iff_not, beq_eq_false_iff_ne, bne_eq_false_iff_eq, Bool.not_eq_true', Bool.not_eq_false', Bool.not_eq_eq_eq_not, Bool.not_true, Bool.not_false, gt_iff_lt, ge_iff_le, Int.not_lt, Int.not_le] at h8)
          
          have H7d21 := HU_p.drew
          have hS7d21 := Holds.kp (H7d21.f6.f6.f6.f6.f6.f6)
          refine wd_beginK [4, 5] hS7d21 (by kernel_rfl) (by kernel_rfl) rfl ?_
          refine wd_takeT 0 rfl (by kernel_rfl) (by kernel_rfl) hS7d21 (fun _ => r_move rfl) (ltn rfl) ?_
          refine wd_takeT 1 rfl (by kernel_rfl) (by kernel_rfl) hS7d21 (fun _ => r_move rfl) (ltn rfl) ?_
          refine wd_takeT 2 rfl (by kernel_rfl) (by kernel_rfl) hS7d21 (fun _ => r_nil rfl) (ltn rfl) ?_
          refine wd_takeT 3 rfl (by kernel_rfl) (by kernel_rfl) hS7d21 (fun _ => (by first | exact r_field0 0 Try.underlying45 rfl rfl Try.sizeOf43 (by decide) rfl | exact r_field 0 Try.underlying45 rfl rfl Try.sizeOf43 (by decide) rfl)) (ltn rfl) ?_
          refine wd_take 4 rfl (by kernel_rfl) (by kernel_rfl) hS7d21 (by decide) (fun W hW => r_load (plain_of Try.underlying43 rfl) rfl (cell_of_blk ((Kp.h hW)).get.2 rfl)) (ltn rfl) ?_
          refine wd_take 5 rfl (by kernel_rfl) (by kernel_rfl) hS7d21 (by decide) (fun W hW => r_load_whole Try.underlying24 rfl Try.sizeOf24 rfl rfl ((Kp.h hW).f6).get.2) (ltn rfl) ?_
          refine wd_eff 6 rfl (by kernel_rfl) (e_call (r_call rfl Try.func20 rfl rfl) (ref_clone_ret H7d21 (fun W HW => hd _ (HW.right.right.right.right.right.right)) (fun W HW => hi _ (HW.right.right.right.right.right.right)) (by omega) (by omega))) (ltn rfl) ?_
          rintro _ w22 ⟨d22, s22, rfl, H22⟩
          have hS22n := Holds.kp (H22.f8.f8.f8.f8.f8.f8.f8.f8)
          refine keepK hS22n (fun W hW => (Kp.h hW).right.right.f6.f6.f6.f6.f6.f6) ?_
          refine wd_eff 7 rfl (by kernel_rfl) (e_lit_one H22 Try.underlying39 Try.sizeOf24 Try.zeroValue24 rfl rfl rfl (by decide) (by decide)) (ltn rfl) ?_
          rintro l23 w23 H23
          have hS23n := Holds.kp (H23.f9.f9.f9.f9.f9.f9.f9.f9.f9)
          refine keepK hS23n (fun W hW => (Kp.h hW).right.f8.f8.f8.f8.f8.f8.f8.f8) ?_
          refine wd_eff 8 rfl (by kernel_rfl) (e_lit_row (vs := [_]) H23 Try.underlying43 Try.sizeOf39 Try.zeroValue39 rfl rfl rfl (by decide) (ones_cons (by first | rfl | exact Rd.one ((H23).row_rd)) ones_nil)) (ltn rfl) ?_
          rintro l24 w24 H24
          have hS24n := Holds.kp (H24.f10.f10.f10.f10.f10.f10.f10.f10.f10.f10)
          refine keepK hS24n (fun W hW => (Kp.h hW).right.f9.f9.f9.f9.f9.f9.f9.f9.f9) ?_
          refine wd_eff 9 rfl (by kernel_rfl) (e_append H24.f6 Try.underlying43 (show (Try.prog.info? 39).map (fun i => (i.zero, i.size, i.bytes)) = some (some (.slice none 0 0), 1, 24) by kernel_rfl) rfl rfl rfl ((H24).row_rd) (ones_cons (by first | rfl | exact Rd.one ((H24.f2).row_rd)) ones_nil) (by omega) (by omega)) (ltn rfl) ?_
          rintro l25 w25 H25
          have Hd26 := H25.f2.right
          have hS26n := Holds.kp (Hd26.f9.f9.f9.f9.f9.f9.f9.f9.f9)
          refine keepX hS26n (by kernel_rfl) ?_
          refine wd_takeT 10 rfl (by kernel_rfl) (by kernel_rfl) hS26n (fun _ => r_nil rfl) (ltn rfl) ?_
          refine wd_takeT 11 rfl (by kernel_rfl) (by kernel_rfl) hS26n (fun _ => (by first | exact r_field0 0 Try.underlying45 rfl rfl Try.sizeOf43 (by decide) rfl | exact r_field 0 Try.underlying45 rfl rfl Try.sizeOf43 (by decide) rfl)) (ltn rfl) ?_
          refine wd_eff0 12 rfl (by kernel_rfl) (e_storeL 0 (l' := [_, _, _]) Hd26.f5 Try.sizeOf43 rfl rfl (by first | rfl | exact Rd.one ((Hd26).row_rd)) rfl rfl) ?_
          rintro _ w27 H27
          have hS27n := Holds.kp (H27.f9.f9.f9.f9.f9.f9.f9.f9.f9)
          refine keepX hS27n (by kernel_rfl) ?_
          have hadd : ¬ 0 < op := by omega
          have X := (H27.f9.right.f8.f8.f3.f8.f5.f6.f8.f8).freezeI.swap.freezeI.swap
          have X2 := Holds.edL_snoc (es := []) X.edsK_nil.f3.f3.f4
          have X4 := Holds.edLL_snoc X2.edL_freeze.swap
          have HR : addE G N a dl il = 0 → Holds w0 w27 (RList p (addG G N op a dl il) (addN G N op a dl il) op • F) := fun e => by
            have hu : ¬ 16384 ≤ uTot G N := by omega
            rw [addG_out e hadd, addN_out e hadd]
            exact Holds.mk_rlist (gv := l25) (nv := nw_p) (gs := gs_p ++ [(l23, [⟨a, d22, dl, s22, il⟩])]) (now := now_p) ⟨nn_snoc k1_p.1 (List.cons_ne_nil _ _), by rw [uTot_out]; omega, k1_p.2.2.1, k1_p.2.2.2.1, EBs_snoc k1_p.2.2.2.2.1 (by intro e he; rw [List.mem_singleton.1 he]; exact ⟨b2, b3⟩), k1_p.2.2.2.2.2⟩ (by rw [List.map_append, k2_p]; rfl) k3_p (X4.of_eq (by unfold EdL; ac_rfl))
          refine wd_done (by kernel_rfl) ?_
          refine wq_seq ?_
          refine wc_seq ?_
          refine wc_region ?_
          refine wl_val (r_assign rfl) (ltn rfl) ?_
          refine wl_nil ?_
          refine wq_seq ?_
          refine wc_ret ?_
          refine wq_end1 (.inl rfl) Try.results22 rfl ?_
          have e : addE G N a dl il = 0 := by unfold addE; rw [if_neg (by omega), if_neg (by omega)]
          have h9 := HR e
          rw [e]
          exact ⟨rfl, h9⟩
end
end Go.Proofs.Ytaabgcfeghcmnaa
