/- Decoding and encoding, walked: Go's utf8, the document's. -/
import Derived.Test.YtmkmffoadapmnaaDoorUtf
import Derived.Test.YtmkmffoadapmnaaDoorRefTab
set_option linter.unusedSimpArgs false
set_option linter.unusedVariables false
namespace Go.Proofs.YtmkmffoadapmnaaDoor
open Go.RowKit
theorem enc_valid {r : Int} (h : validM r = false) : Lib.encodeRuneZ r = [239, 191, 189] := Lib.encodeRuneZ_bad (by
  unfold validM at h
  simp only [decide_eq_false_iff_not] at h
  omega)
section
variable {w0 w : World} {F : HP} {v : Value} {b l : List Int} {r x y : Int}
theorem decode_ret (H : Holds w0 w F) (hT : UTabs w0) (hv : FRdI w0 F .u8 v b) (hb : Byts b) (hne : b ≠ []) : Ret Tryd.prog 49 #[v] w fun v' w' => v' = .tuple #[.int .i32 (decM b).1, .int .i64 ((decM b).2 : Nat)] ∧ Holds w0 w' F := by
  have hl := List.length_pos_iff.2 hne
  have y0 := byt_at hb 0
  refine ret_enter Tryd.func49 rfl Tryd.ntmps49 (Nat.le_of_ble_eq_true rfl) ?_
  dsimp only [slots0, Nat.reduceAdd]
  refine wc_seq ?_
  refine wc_region ?_
  refine wl_val (r_assign rfl) (ltn rfl) ?_
  refine wl_val (r_assign rfl) (ltn rfl) ?_
  refine wl_nil ?_
  refine wq_seq ?_
  refine wc_seq ?_
  refine wc_seq ?_
  refine wc_region ?_
  refine wl_val (r_move rfl) (ltn rfl) ?_
  refine wl_val (r_lenR (hv _ (H)) Tryd.underlying39 rfl) (ltn rfl) ?_
  refine wl_val (r_move rfl) (ltn rfl) ?_
  refine wl_nil ?_
  refine wq_seq ?_
  refine wc_block ?_
  obtain ⟨av, cv, ev, -⟩ := RdI.open (hv _ (H))
  subst ev
  refine wc_loop [(0, _), (6, _), (7, _)] (fun (k : Nat) => [(8, .int .i64 (k : Int))]) (fun (k : Nat) W => k = 0 ∧ Holds w0 W F) (fun (k : Nat) => 0) (0) (Sub.cons rfl (Sub.cons rfl (Sub.cons rfl (Sub.nil _)))) (Sub.cons rfl (Sub.nil _)) ⟨rfl, H⟩ ?_
  rintro k w2 ⟨rfl, HL⟩
  dsimp only [List.cons_append, List.nil_append]
  refine wc_seq ?_
  refine wc_region ?_
  refine wl_val (r_lss rfl rfl) (ltn rfl) ?_
  refine wl_nil ?_
  refine wq_seq ?_
  refine wc_seq ?_
  refine wc_cond rfl (fun h1 => ?_) (fun h => by exfalso; (try simp only [beq_iff_eq, bne_iff_ne, ne_eq, decide_eq_true_eq, decide_eq_false_iff_not, beq_eq_false_iff_ne, bne_eq_false_iff_eq, Bool.not_eq_true', Bool.not_eq_false', Bool.not_eq_eq_eq_not, Bool.not_true, Bool.not_false, gt_iff_lt, ge_iff_le, Int.not_lt, Int.not_le] at h); first | contradiction | omega | (simp at h <;> omega))
  (try simp only [beq_iff_eq, bne_iff_ne, ne_eq, decide_eq_true_eq, decide_eq_false_iff_not, beq_eq_false_iff_ne, bne_eq_false_iff_eq, Bool.not_eq_true', Bool.not_eq_false', Bool.not_eq_eq_eq_not, Bool.not_true, Bool.not_false, gt_iff_lt, ge_iff_le, Int.not_lt, Int.not_le] at h1)
  refine wc_skip ?_
  refine wq_seq ?_
  refine wc_seq ?_
  refine wc_block ?_
  refine wc_seq ?_
  refine wc_region ?_
  obtain ⟨bv, ov, rfl⟩ := RdI.pos (hv _ (HL)) (by omega)
  refine wl_val (r_index Tryd.underlying39 Tryd.sizeOf5 rfl rfl (by omega)) (ltn rfl) ?_
  refine wl_val (r_load (plain_of Tryd.underlying5 rfl) rfl (by first | exact RdI.at1n (hv _ (HL)) (by omega) | exact RdI.at0 (hv _ (HL)) (by omega) | exact RdI.at1 (hv _ (HL)) (by omega))) (ltn rfl) ?_
  simp only [Int.natCast_zero]
  refine wl_val (r_assign rfl) (ltn rfl) ?_
  refine wl_nil ?_
  refine wq_seq ?_
  refine wc_seq ?_
  refine wc_seq ?_
  refine wc_region ?_
  refine wl_val (r_move rfl) (ltn rfl) ?_
  refine wl_val (r_lss rfl rfl) (ltn rfl) ?_
  refine wl_nil ?_
  refine wq_seq ?_
  refine wc_cond rfl (fun h2 => ?_) (fun h2 => ?_)
  · (try simp only [beq_iff_eq, bne_iff_ne, ne_eq, decide_eq_true_eq, decide_eq_false_iff_not, beq_eq_false_iff_ne, bne_eq_false_iff_eq, Bool.not_eq_true', Bool.not_eq_false', Bool.not_eq_eq_eq_not, Bool.not_true, Bool.not_false, gt_iff_lt, ge_iff_le, Int.not_lt, Int.not_le] at h2)
    
    refine wc_seq ?_
    refine wc_region ?_
    refine wl_val (r_move rfl) (ltn rfl) ?_
    refine wl_val (r_conv_int rfl (by rw [Tryd.underlying5]; rfl) Tryd.underlying21 (fit_i32 (by omega))) (ltn rfl) ?_
    refine wl_val (r_assign rfl) (ltn rfl) ?_
    refine wl_val (r_assign rfl) (ltn rfl) ?_
    refine wl_nil ?_
    refine wq_seq ?_
    refine wc_ret ?_
    refine wq_then_ret ?_
    refine wq_block_ret ?_
    refine wq_then_ret ?_
    refine wq_then_ret ?_
    refine wq_block_ret ?_
    refine wq_then_ret ?_
    refine wq_end2 (.inl rfl) Tryd.results49 rfl rfl ?_
    exact ⟨by rw [decM_ascii hne (by omega)]; rfl, HL⟩
  · (try simp only [beq_iff_eq, bne_iff_ne, ne_eq, decide_eq_true_eq, decide_eq_false_iff_not, beq_eq_false_iff_ne, bne_eq_false_iff_eq, Bool.not_eq_true', Bool.not_eq_false', Bool.not_eq_eq_eq_not, Bool.not_true, Bool.not_false, gt_iff_lt, ge_iff_le, Int.not_lt, Int.not_le] at h2)
    
    refine wc_skip ?_
    refine wq_seq ?_
    refine wc_exit ?_
    refine wq_block_miss (by decide) ?_
    refine wq_then_exit ?_
    refine wq_then_exit ?_
    refine wq_block_hit ?_
    refine wq_seq ?_
    refine wc_seq ?_
    refine wc_region ?_
    refine wl_val (r_move rfl) (ltn rfl) ?_
    refine wl_eff (e_call (r_call rfl Tryd.func55 rfl rfl) (slow_ret HL hT (fun W HW => hv _ (HW)) (by assumption) (by assumption))) (ltn rfl) ?_
    rintro _ w3 ⟨rfl, H3⟩
    refine wl_val (r_move rfl) (ltn rfl) ?_
    refine wl_val (r_extract rfl rfl) (ltn rfl) ?_
    refine wl_val (r_extract rfl rfl) (ltn rfl) ?_
    refine wl_val (r_assign rfl) (ltn rfl) ?_
    refine wl_val (r_assign rfl) (ltn rfl) ?_
    refine wl_nil ?_
    refine wq_seq ?_
    refine wc_ret ?_
    refine wq_end2 (.inl rfl) Tryd.results49 rfl rfl ?_
    exact ⟨rfl, H3⟩
theorem full_ret (H : Holds w0 w F) (hT : UTabs w0) (hv : FRdI w0 F .u8 v b) (hb : Byts b) (hne : b ≠ []) : Ret Tryd.prog 48 #[v] w fun v' w' => v' = .bool (!partM b) ∧ Holds w0 w' F := by
  have hl := List.length_pos_iff.2 hne
  have y0 := byt_at hb 0
  have hf := first_at y0
  have hfb : 0 ≤ firstM (b.getD 0 0).toNat ∧ firstM (b.getD 0 0).toNat < 256 := by
    rcases hf with h1 | h1 | h1
    · omega
    · omega
    · exact ⟨h1.1, Int.lt_trans h1.2.1 (by decide)⟩
  have hn4 := needM_le (b.getD 0 0)
  have hn8 : (needM (b.getD 0 0) : Int) ≤ firstM (b.getD 0 0).toNat % 8 ∨ b.getD 0 0 < 128 := by
    rcases hf with h1 | h1 | h1
    · exact .inr h1.2
    · left; rw [h1.1, h1.2.1]; decide
    · left; rw [h1.2.2.1]; exact Int.le_refl _
  have hn1 : b.getD 0 0 < 128 → needM (b.getD 0 0) = 1 := fun h => by unfold needM; rw [if_pos h]
  refine ret_enter Tryd.func48 rfl Tryd.ntmps48 (Nat.le_of_ble_eq_true rfl) ?_
  dsimp only [slots0, Nat.reduceAdd]
  refine wc_seq ?_
  refine wc_region ?_
  refine wl_val (r_assign rfl) (ltn rfl) ?_
  refine wl_nil ?_
  refine wq_seq ?_
  refine wc_seq ?_
  refine wc_region ?_
  refine wl_val (r_move rfl) (ltn rfl) ?_
  refine wl_val (r_lenR (hv _ (H)) Tryd.underlying39 rfl) (ltn rfl) ?_
  refine wl_val (r_assign rfl) (ltn rfl) ?_
  refine wl_nil ?_
  refine wq_seq ?_
  refine wc_seq ?_
  refine wc_seq ?_
  refine wc_region ?_
  refine wl_val (r_move rfl) (ltn rfl) ?_
  refine wl_val (r_eql rfl rfl) (ltn rfl) ?_
  refine wl_nil ?_
  refine wq_seq ?_
  refine wc_cond rfl (fun h => by exfalso; (try simp only [beq_iff_eq, bne_iff_ne, ne_eq, decide_eq_true_eq, decide_eq_false_iff_not, beq_eq_false_iff_ne, bne_eq_false_iff_eq, Bool.not_eq_true', Bool.not_eq_false', Bool.not_eq_eq_eq_not, Bool.not_true, Bool.not_false, gt_iff_lt, ge_iff_le, Int.not_lt, Int.not_le] at h); first | contradiction | omega | (simp at h <;> omega)) (fun h1 => ?_)
  (try simp only [beq_iff_eq, bne_iff_ne, ne_eq, decide_eq_true_eq, decide_eq_false_iff_not, beq_eq_false_iff_ne, bne_eq_false_iff_eq, Bool.not_eq_true', Bool.not_eq_false', Bool.not_eq_eq_eq_not, Bool.not_true, Bool.not_false, gt_iff_lt, ge_iff_le, Int.not_lt, Int.not_le] at h1)
  refine wc_skip ?_
  refine wq_seq ?_
  refine wc_seq ?_
  refine wc_region ?_
  refine wl_val (r_move rfl) (ltn rfl) ?_
  obtain ⟨bv, ov, cv, ev⟩ := RdI.posV (hv _ (H)) (by omega)
  cases ev
  refine wl_val (r_index Tryd.underlying39 Tryd.sizeOf5 rfl rfl (by omega)) (ltn rfl) ?_
  refine wl_val (r_load (plain_of Tryd.underlying5 rfl) rfl (RdI.atC 0 (hv _ (H)) (by omega))) (ltn rfl) ?_
  refine wl_val (r_index_arr Tryd.underlying77 Tryd.sizeOf5 rfl rfl (by omega)) (ltn rfl) ?_
  refine wl_val (r_load (plain_of Tryd.underlying5 rfl) rfl (by rw [show 0 + (b.getD 0 0).toNat * 1 = (b.getD 0 0).toNat from by omega]; exact H.cell (hT.first _ (by omega)))) (ltn rfl) ?_
  refine wl_val (r_assign rfl) (ltn rfl) ?_
  refine wl_nil ?_
  refine wq_seq ?_
  refine wc_seq ?_
  refine wc_seq ?_
  refine wc_region ?_
  refine wl_val (r_move rfl) (ltn rfl) ?_
  refine wl_val (r_move rfl) (ltn rfl) ?_
  refine wl_val (r_and_u8 3 7 8 (by decide) (by decide) (by decide) rfl rfl (by omega)) (ltn rfl) ?_
  refine wl_val (r_conv_int rfl (by rw [Tryd.underlying5]; rfl) Tryd.underlying3 (fit_i64 (by omega))) (ltn rfl) ?_
  refine wl_val (r_geq rfl rfl) (ltn rfl) ?_
  refine wl_nil ?_
  refine wq_seq ?_
  refine wc_cond rfl (fun h2 => ?_) (fun h2 => ?_)
  · (try simp only [beq_iff_eq, bne_iff_ne, ne_eq, decide_eq_true_eq, decide_eq_false_iff_not, beq_eq_false_iff_ne, bne_eq_false_iff_eq, Bool.not_eq_true', Bool.not_eq_false', Bool.not_eq_eq_eq_not, Bool.not_true, Bool.not_false, gt_iff_lt, ge_iff_le, Int.not_lt, Int.not_le] at h2)
    
    refine wc_seq ?_
    refine wc_region ?_
    refine wl_val (r_assign rfl) (ltn rfl) ?_
    refine wl_nil ?_
    refine wq_seq ?_
    refine wc_ret ?_
    refine wq_then_ret ?_
    refine wq_end1 (.inl rfl) Tryd.results48 rfl ?_
    refine ⟨?_, H⟩
    rw [partM_no]
    · rfl
    · rcases hn8 with h1 | h1
      · omega
      · rw [hn1 h1]; exact hl
  · (try simp only [beq_iff_eq, bne_iff_ne, ne_eq, decide_eq_true_eq, decide_eq_false_iff_not, beq_eq_false_iff_ne, bne_eq_false_iff_eq, Bool.not_eq_true', Bool.not_eq_false', Bool.not_eq_eq_eq_not, Bool.not_true, Bool.not_false, gt_iff_lt, ge_iff_le, Int.not_lt, Int.not_le] at h2)
    
    refine wc_skip ?_
    refine wq_seq ?_
    refine wc_seq ?_
    have hf2 : 0 ≤ firstM (b.getD 0 0).toNat ∧ firstM (b.getD 0 0).toNat < 240 ∧ firstM (b.getD 0 0).toNat % 8 = (needM (b.getD 0 0) : Int) ∧ 2 ≤ needM (b.getD 0 0) ∧ 128 ≤ b.getD 0 0 ∧ firstM (b.getD 0 0).toNat / 16 < 5 ∧ accL.getD (firstM (b.getD 0 0).toNat / 16).toNat (0, 0) = (lowM (b.getD 0 0), highM (b.getD 0 0)) := by
      rcases hf with h1 | h1 | h1
      · exfalso; have := h1.1; omega
      · exfalso; have := h1.1; omega
      · exact h1
    obtain ⟨q1, q2, q3, q4, q5, q6, q7⟩ := hf2
    have hacc := hT.acc (firstM (b.getD 0 0).toNat / 16).toNat (by omega)
    rw [q7] at hacc
    refine wc_region ?_
    refine wl_val (r_move rfl) (ltn rfl) ?_
    refine wl_val (r_shr 4 16 (by decide) (by decide) rfl rfl) (ltn rfl) ?_
    refine wl_val (r_index_arr Tryd.underlying80 Tryd.sizeOf79 rfl rfl (by omega)) (ltn rfl) ?_
    refine wl_val (r_load_agg (cs := [.int .u8 (lowM (b.getD 0 0)), .int .u8 (highM (b.getD 0 0))]) (by rw [Tryd.underlying79]; rfl) (plain_no Tryd.underlying79 rfl) Tryd.sizeOf79 rfl rfl (two_cells (by rw [Nat.zero_add]; exact H.cell hacc.1) (by rw [Nat.zero_add]; exact H.cell hacc.2))) (ltn rfl) ?_
    refine wl_eff (e_allocL (l := [_, _]) H Tryd.zeroValue79 rfl) (ltn rfl) ?_
    rintro _ w1 ⟨b1, rfl, H1⟩
    refine wl_eff0 (e_storePL 0 (l' := [_, _]) (us := [_, _]) H1 Tryd.sizeOf79 rfl rfl rfl (ones_cons (by first | rfl | assumption) (ones_cons (by first | rfl | assumption) ones_nil)) rfl rfl) ?_
    rintro _ w2 H2
    refine wl_nil ?_
    refine wq_seq ?_
    refine wc_seq ?_
    refine wc_seq ?_
    have H8d2 := H2.drew
    have hS8d2 := Holds.kp (H8d2)
    refine wd_beginK [5, 7, 11, 14] hS8d2 (by kernel_rfl) (by kernel_rfl) rfl ?_
    refine wd_takeT 0 rfl (by kernel_rfl) (by kernel_rfl) hS8d2 (fun _ => r_move rfl) (ltn rfl) ?_
    refine wd_takeT 1 rfl (by kernel_rfl) (by kernel_rfl) hS8d2 (fun _ => r_gtr rfl rfl) (ltn rfl) ?_
    refine wd_split 2 rfl rfl (by kernel_rfl) (by kernel_rfl) hS8d2 (ltn rfl) (fun h3 => ?_) (fun h3 => ?_)
    · (try simp only [beq_iff_eq, bne_iff_ne, ne_eq, decide_eq_true_eq, decide_eq_false_iff_not, beq_eq_false_iff_ne, bne_eq_false_iff_eq, Bool.not_eq_true', Bool.not_eq_false', Bool.not_eq_eq_eq_not, Bool.not_true, Bool.not_false, gt_iff_lt, ge_iff_le, Int.not_lt, Int.not_le] at h3)
      refine wd_takeT_yes 3 rfl rfl rfl (by kernel_rfl) (by kernel_rfl) hS8d2 (fun _ => r_move rfl) (ltn rfl) ?_
      refine wd_takeT_yes 4 rfl rfl rfl (by kernel_rfl) (by kernel_rfl) hS8d2 (fun _ => r_index Tryd.underlying39 Tryd.sizeOf5 rfl rfl (by omega)) (ltn rfl) ?_
      refine wd_take_yes 5 rfl rfl rfl (by kernel_rfl) (by kernel_rfl) hS8d2 (by decide) (fun W hW => r_load (plain_of Tryd.underlying5 rfl) rfl (RdI.atC 1 (hv _ ((Kp.h hW).right)) (by omega))) (ltn rfl) ?_
      refine wd_takeT_yes 6 rfl rfl rfl (by kernel_rfl) (by kernel_rfl) hS8d2 (fun _ => (by first | exact r_field0 0 Tryd.underlying79 rfl rfl Tryd.sizeOf5 (by decide) rfl | exact r_field 0 Tryd.underlying79 rfl rfl Tryd.sizeOf5 (by decide) rfl)) (ltn rfl) ?_
      refine wd_take_yes 7 rfl rfl rfl (by kernel_rfl) (by kernel_rfl) hS8d2 (by decide) (fun W hW => r_load (plain_of Tryd.underlying5 rfl) rfl (cell_of_blk ((Kp.h hW)).get.2 rfl)) (ltn rfl) ?_
      refine wd_takeT_yes 8 rfl rfl rfl (by kernel_rfl) (by kernel_rfl) hS8d2 (fun _ => r_lss rfl rfl) (ltn rfl) ?_
      refine wd_split_yes 9 rfl rfl rfl rfl (by kernel_rfl) (by kernel_rfl) hS8d2 (ltn rfl) (fun h4 => ?_) (fun h4 => ?_)
      · (try simp only [beq_iff_eq, bne_iff_ne, ne_eq, decide_eq_true_eq, decide_eq_false_iff_not, beq_eq_false_iff_ne, bne_eq_false_iff_eq, Bool.not_eq_true', Bool.not_eq_false', Bool.not_eq_eq_eq_not, Bool.not_true, Bool.not_false, gt_iff_lt, ge_iff_le, Int.not_lt, Int.not_le] at h4)
        refine wd_no 10 rfl rfl rfl rfl (by kernel_rfl) (by kernel_rfl) hS8d2 (ltn rfl) ?_
        refine wd_no 11 rfl rfl rfl rfl (by kernel_rfl) (by kernel_rfl) hS8d2 (ltn rfl) ?_
        refine wd_no 12 rfl rfl rfl rfl (by kernel_rfl) (by kernel_rfl) hS8d2 (ltn rfl) ?_
        refine wd_no 13 rfl rfl rfl rfl (by kernel_rfl) (by kernel_rfl) hS8d2 (ltn rfl) ?_
        refine wd_no 14 rfl rfl rfl rfl (by kernel_rfl) (by kernel_rfl) hS8d2 (ltn rfl) ?_
        refine wd_no 15 rfl rfl rfl rfl (by kernel_rfl) (by kernel_rfl) hS8d2 (ltn rfl) ?_
        refine wd_takeT_yes 16 rfl rfl rfl (by kernel_rfl) (by kernel_rfl) hS8d2 (fun _ => r_pick_t rfl rfl) (ltn rfl) ?_
        refine wd_takeT 17 rfl (by kernel_rfl) (by kernel_rfl) hS8d2 (fun _ => r_pick_t rfl rfl) (ltn rfl) ?_
        refine wd_done (by kernel_rfl) ?_
        refine wq_seq ?_
        refine wc_cond_t rfl ?_
        refine wc_seq ?_
        refine wc_region ?_
        refine wl_val (r_assign rfl) (ltn rfl) ?_
        refine wl_nil ?_
        refine wq_seq ?_
        refine wc_ret ?_
        refine wq_then_ret ?_
        refine wq_end1 (.inl rfl) Tryd.results48 rfl ?_
        exact ⟨by rw [partM_bad (j := 1) (by omega) (not1 (by omega)) (by omega)]; rfl, H8d2.right⟩
      · (try simp only [beq_iff_eq, bne_iff_ne, ne_eq, decide_eq_true_eq, decide_eq_false_iff_not, beq_eq_false_iff_ne, bne_eq_false_iff_eq, Bool.not_eq_true', Bool.not_eq_false', Bool.not_eq_eq_eq_not, Bool.not_true, Bool.not_false, gt_iff_lt, ge_iff_le, Int.not_lt, Int.not_le] at h4)
        refine wd_takeT_yes 10 rfl rfl rfl (by kernel_rfl) (by kernel_rfl) hS8d2 (fun _ => (by first | exact r_field0 1 Tryd.underlying79 rfl rfl Tryd.sizeOf5 (by decide) rfl | exact r_field 1 Tryd.underlying79 rfl rfl Tryd.sizeOf5 (by decide) rfl)) (ltn rfl) ?_
        refine wd_take_yes 11 rfl rfl rfl (by kernel_rfl) (by kernel_rfl) hS8d2 (by decide) (fun W hW => r_load (plain_of Tryd.underlying5 rfl) rfl (cell_of_blk ((Kp.h hW)).get.2 rfl)) (ltn rfl) ?_
        refine wd_takeT_yes 12 rfl rfl rfl (by kernel_rfl) (by kernel_rfl) hS8d2 (fun _ => r_move rfl) (ltn rfl) ?_
        refine wd_takeT_yes 13 rfl rfl rfl (by kernel_rfl) (by kernel_rfl) hS8d2 (fun _ => r_index Tryd.underlying39 Tryd.sizeOf5 rfl rfl (by omega)) (ltn rfl) ?_
        refine wd_take_yes 14 rfl rfl rfl (by kernel_rfl) (by kernel_rfl) hS8d2 (by decide) (fun W hW => r_load (plain_of Tryd.underlying5 rfl) rfl (RdI.atC 1 (hv _ ((Kp.h hW).right)) (by omega))) (ltn rfl) ?_
        refine wd_takeT_yes 15 rfl rfl rfl (by kernel_rfl) (by kernel_rfl) hS8d2 (fun _ => r_lss rfl rfl) (ltn rfl) ?_
        refine wd_takeT_yes 16 rfl rfl rfl (by kernel_rfl) (by kernel_rfl) hS8d2 (fun _ => r_pick_f rfl rfl) (ltn rfl) ?_
        refine wd_takeT 17 rfl (by kernel_rfl) (by kernel_rfl) hS8d2 (fun _ => r_pick_t rfl rfl) (ltn rfl) ?_
        refine wd_done (by kernel_rfl) ?_
        refine wq_seq ?_
        refine wc_cond rfl (fun h5 => ?_) (fun h5 => ?_)
        · (try simp only [beq_iff_eq, bne_iff_ne, ne_eq, decide_eq_true_eq, decide_eq_false_iff_not, beq_eq_false_iff_ne, bne_eq_false_iff_eq, Bool.not_eq_true', Bool.not_eq_false', Bool.not_eq_eq_eq_not, Bool.not_true, Bool.not_false, gt_iff_lt, ge_iff_le, Int.not_lt, Int.not_le] at h5)
          
          refine wc_seq ?_
          refine wc_region ?_
          refine wl_val (r_assign rfl) (ltn rfl) ?_
          refine wl_nil ?_
          refine wq_seq ?_
          refine wc_ret ?_
          refine wq_then_ret ?_
          refine wq_end1 (.inl rfl) Tryd.results48 rfl ?_
          exact ⟨by rw [partM_bad (j := 1) (by omega) (not1 (by omega)) (by omega)]; rfl, H8d2.right⟩
        · (try simp only [beq_iff_eq, bne_iff_ne, ne_eq, decide_eq_true_eq, decide_eq_false_iff_not, beq_eq_false_iff_ne, bne_eq_false_iff_eq, Bool.not_eq_true', Bool.not_eq_false', Bool.not_eq_eq_eq_not, Bool.not_true, Bool.not_false, gt_iff_lt, ge_iff_le, Int.not_lt, Int.not_le] at h5)
          
          refine wc_seq ?_
          refine wc_region ?_
          refine wl_val (r_move rfl) (ltn rfl) ?_
          refine wl_val (r_gtr rfl rfl) (ltn rfl) ?_
          refine wl_split rfl (ltn rfl) (fun h6 => ?_) (fun h6 => ?_)
          · (try simp only [beq_iff_eq, bne_iff_ne, ne_eq, decide_eq_true_eq, decide_eq_false_iff_not, beq_eq_false_iff_ne, bne_eq_false_iff_eq, Bool.not_eq_true', Bool.not_eq_false', Bool.not_eq_eq_eq_not, Bool.not_true, Bool.not_false, gt_iff_lt, ge_iff_le, Int.not_lt, Int.not_le] at h6)
            refine wl_yes rfl rfl ?_
            refine wl_val (r_move rfl) (ltn rfl) ?_
            refine wl_yes rfl rfl ?_
            refine wl_val (r_index Tryd.underlying39 Tryd.sizeOf5 rfl rfl (by omega)) (ltn rfl) ?_
            refine wl_yes rfl rfl ?_
            refine wl_val (r_load (plain_of Tryd.underlying5 rfl) rfl (RdI.atC 2 (hv _ (H8d2.right)) (by omega))) (ltn rfl) ?_
            refine wl_yes rfl rfl ?_
            refine wl_val (r_lss rfl rfl) (ltn rfl) ?_
            refine wl_yes rfl rfl ?_
            refine wl_split rfl (ltn rfl) (fun h7 => ?_) (fun h7 => ?_)
            · (try simp only [beq_iff_eq, bne_iff_ne, ne_eq, decide_eq_true_eq, decide_eq_false_iff_not, beq_eq_false_iff_ne, bne_eq_false_iff_eq, Bool.not_eq_true', Bool.not_eq_false', Bool.not_eq_eq_eq_not, Bool.not_true, Bool.not_false, gt_iff_lt, ge_iff_le, Int.not_lt, Int.not_le] at h7)
              refine wl_no rfl rfl rfl (ltn rfl) ?_
              refine wl_no rfl rfl rfl (ltn rfl) ?_
              refine wl_no rfl rfl rfl (ltn rfl) ?_
              refine wl_no rfl rfl rfl (ltn rfl) ?_
              refine wl_yes rfl rfl ?_
              refine wl_val (r_pick_t rfl rfl) (ltn rfl) ?_
              refine wl_val (r_pick_t rfl rfl) (ltn rfl) ?_
              refine wl_nil ?_
              refine wq_seq ?_
              refine wc_cond_t rfl ?_
              refine wc_seq ?_
              refine wc_region ?_
              refine wl_val (r_assign rfl) (ltn rfl) ?_
              refine wl_nil ?_
              refine wq_seq ?_
              refine wc_ret ?_
              refine wq_then_ret ?_
              refine wq_end1 (.inl rfl) Tryd.results48 rfl ?_
              exact ⟨by rw [partM_bad (j := 2) (by omega) (notj (by decide) (by omega)) (by omega)]; rfl, H8d2.right⟩
            · (try simp only [beq_iff_eq, bne_iff_ne, ne_eq, decide_eq_true_eq, decide_eq_false_iff_not, beq_eq_false_iff_ne, bne_eq_false_iff_eq, Bool.not_eq_true', Bool.not_eq_false', Bool.not_eq_eq_eq_not, Bool.not_true, Bool.not_false, gt_iff_lt, ge_iff_le, Int.not_lt, Int.not_le] at h7)
              refine wl_yes rfl rfl ?_
              refine wl_val (r_move rfl) (ltn rfl) ?_
              refine wl_yes rfl rfl ?_
              refine wl_val (r_index Tryd.underlying39 Tryd.sizeOf5 rfl rfl (by omega)) (ltn rfl) ?_
              refine wl_yes rfl rfl ?_
              refine wl_val (r_load (plain_of Tryd.underlying5 rfl) rfl (RdI.atC 2 (hv _ (H8d2.right)) (by omega))) (ltn rfl) ?_
              refine wl_yes rfl rfl ?_
              refine wl_val (r_lss rfl rfl) (ltn rfl) ?_
              refine wl_yes rfl rfl ?_
              refine wl_val (r_pick_f rfl rfl) (ltn rfl) ?_
              refine wl_val (r_pick_t rfl rfl) (ltn rfl) ?_
              refine wl_nil ?_
              refine wq_seq ?_
              refine wc_cond rfl (fun h8 => ?_) (fun h8 => ?_)
              · (try simp only [beq_iff_eq, bne_iff_ne, ne_eq, decide_eq_true_eq, decide_eq_false_iff_not, beq_eq_false_iff_ne, bne_eq_false_iff_eq, Bool.not_eq_true', Bool.not_eq_false', Bool.not_eq_eq_eq_not, Bool.not_true, Bool.not_false, gt_iff_lt, ge_iff_le, Int.not_lt, Int.not_le] at h8)
                
                refine wc_seq ?_
                refine wc_region ?_
                refine wl_val (r_assign rfl) (ltn rfl) ?_
                refine wl_nil ?_
                refine wq_seq ?_
                refine wc_ret ?_
                refine wq_then_ret ?_
                refine wq_end1 (.inl rfl) Tryd.results48 rfl ?_
                exact ⟨by rw [partM_bad (j := 2) (by omega) (notj (by decide) (by omega)) (by omega)]; rfl, H8d2.right⟩
              · (try simp only [beq_iff_eq, bne_iff_ne, ne_eq, decide_eq_true_eq, decide_eq_false_iff_not, beq_eq_false_iff_ne, bne_eq_false_iff_eq, Bool.not_eq_true', Bool.not_eq_false', Bool.not_eq_eq_eq_not, Bool.not_true, Bool.not_false, gt_iff_lt, ge_iff_le, Int.not_lt, Int.not_le] at h8)
                
                refine wc_skip ?_
                refine wq_seq ?_
                refine wc_seq ?_
                refine wc_region ?_
                refine wl_val (r_assign rfl) (ltn rfl) ?_
                refine wl_nil ?_
                refine wq_seq ?_
                refine wc_ret ?_
                refine wq_end1 (.inl rfl) Tryd.results48 rfl ?_
                refine ⟨?_, H8d2.right⟩
                rw [partM_yes hne (by omega)]
                · rfl
                · rcases (show b.length = 1 ∨ b.length = 2 ∨ b.length = 3 by omega) with e | e | e
                  · rw [e]; rfl
                  · rw [e]; simp only [goodB, ok0, Bool.and_true, Bool.true_and]; exact ok1 (by omega) (by omega)
                  · rw [e]; simp only [goodB, ok0, Bool.and_true, Bool.true_and, ok1 (b := b) (by omega) (by omega)]; exact okj (by decide) (by omega)
          · (try simp only [beq_iff_eq, bne_iff_ne, ne_eq, decide_eq_true_eq, decide_eq_false_iff_not, beq_eq_false_iff_ne, bne_eq_false_iff_eq, Bool.not_eq_true', Bool.not_eq_false', Bool.not_eq_eq_eq_not, Bool.not_true, Bool.not_false, gt_iff_lt, ge_iff_le, Int.not_lt, Int.not_le] at h6)
            refine wl_no rfl rfl rfl (ltn rfl) ?_
            refine wl_no rfl rfl rfl (ltn rfl) ?_
            refine wl_no rfl rfl rfl (ltn rfl) ?_
            refine wl_no rfl rfl rfl (ltn rfl) ?_
            refine wl_no rfl rfl rfl (ltn rfl) ?_
            refine wl_nou rfl rfl (ltn rfl) ?_
            refine wl_nou rfl rfl (ltn rfl) ?_
            refine wl_nou rfl rfl (ltn rfl) ?_
            refine wl_nou rfl rfl (ltn rfl) ?_
            refine wl_no rfl rfl rfl (ltn rfl) ?_
            refine wl_val (r_pick_f rfl rfl) (ltn rfl) ?_
            refine wl_nil ?_
            refine wq_seq ?_
            refine wc_cond_f rfl ?_
            refine wc_skip ?_
            refine wq_seq ?_
            refine wc_seq ?_
            refine wc_region ?_
            refine wl_val (r_assign rfl) (ltn rfl) ?_
            refine wl_nil ?_
            refine wq_seq ?_
            refine wc_ret ?_
            refine wq_end1 (.inl rfl) Tryd.results48 rfl ?_
            refine ⟨?_, H8d2.right⟩
            rw [partM_yes hne (by omega)]
            · rfl
            · rcases (show b.length = 1 ∨ b.length = 2 ∨ b.length = 3 by omega) with e | e | e
              · rw [e]; rfl
              · rw [e]; simp only [goodB, ok0, Bool.and_true, Bool.true_and]; exact ok1 (by omega) (by omega)
              · rw [e]; simp only [goodB, ok0, Bool.and_true, Bool.true_and, ok1 (b := b) (by omega) (by omega)]; exact okj (by decide) (by omega)
    · (try simp only [beq_iff_eq, bne_iff_ne, ne_eq, decide_eq_true_eq, decide_eq_false_iff_not, beq_eq_false_iff_ne, bne_eq_false_iff_eq, Bool.not_eq_true', Bool.not_eq_false', Bool.not_eq_eq_eq_not, Bool.not_true, Bool.not_false, gt_iff_lt, ge_iff_le, Int.not_lt, Int.not_le] at h3)
      refine wd_no 3 rfl rfl rfl rfl (by kernel_rfl) (by kernel_rfl) hS8d2 (ltn rfl) ?_
      refine wd_no 4 rfl rfl rfl rfl (by kernel_rfl) (by kernel_rfl) hS8d2 (ltn rfl) ?_
      refine wd_no 5 rfl rfl rfl rfl (by kernel_rfl) (by kernel_rfl) hS8d2 (ltn rfl) ?_
      refine wd_no 6 rfl rfl rfl rfl (by kernel_rfl) (by kernel_rfl) hS8d2 (ltn rfl) ?_
      refine wd_no 7 rfl rfl rfl rfl (by kernel_rfl) (by kernel_rfl) hS8d2 (ltn rfl) ?_
      refine wd_no 8 rfl rfl rfl rfl (by kernel_rfl) (by kernel_rfl) hS8d2 (ltn rfl) ?_
      refine wd_no 9 rfl rfl rfl rfl (by kernel_rfl) (by kernel_rfl) hS8d2 (ltn rfl) ?_
      refine wd_nou 10 rfl rfl rfl (by kernel_rfl) (by kernel_rfl) hS8d2 (ltn rfl) ?_
      refine wd_nou 11 rfl rfl rfl (by kernel_rfl) (by kernel_rfl) hS8d2 (ltn rfl) ?_
      refine wd_nou 12 rfl rfl rfl (by kernel_rfl) (by kernel_rfl) hS8d2 (ltn rfl) ?_
      refine wd_nou 13 rfl rfl rfl (by kernel_rfl) (by kernel_rfl) hS8d2 (ltn rfl) ?_
      refine wd_nou 14 rfl rfl rfl (by kernel_rfl) (by kernel_rfl) hS8d2 (ltn rfl) ?_
      refine wd_nou 15 rfl rfl rfl (by kernel_rfl) (by kernel_rfl) hS8d2 (ltn rfl) ?_
      refine wd_no 16 rfl rfl rfl rfl (by kernel_rfl) (by kernel_rfl) hS8d2 (ltn rfl) ?_
      refine wd_takeT 17 rfl (by kernel_rfl) (by kernel_rfl) hS8d2 (fun _ => r_pick_f rfl rfl) (ltn rfl) ?_
      refine wd_done (by kernel_rfl) ?_
      refine wq_seq ?_
      refine wc_cond_f rfl ?_
      refine wc_seq ?_
      refine wc_region ?_
      refine wl_val (r_move rfl) (ltn rfl) ?_
      refine wl_val (r_gtr rfl rfl) (ltn rfl) ?_
      refine wl_split rfl (ltn rfl) (fun h9 => ?_) (fun h9 => ?_)
      · (try simp only [beq_iff_eq, bne_iff_ne, ne_eq, decide_eq_true_eq, decide_eq_false_iff_not, beq_eq_false_iff_ne, bne_eq_false_iff_eq, Bool.not_eq_true', Bool.not_eq_false', Bool.not_eq_eq_eq_not, Bool.not_true, Bool.not_false, gt_iff_lt, ge_iff_le, Int.not_lt, Int.not_le] at h9)
        refine wl_yes rfl rfl ?_
        refine wl_val (r_move rfl) (ltn rfl) ?_
        refine wl_yes rfl rfl ?_
        refine wl_val (r_index Tryd.underlying39 Tryd.sizeOf5 rfl rfl (by omega)) (ltn rfl) ?_
        refine wl_yes rfl rfl ?_
        refine wl_val (r_load (plain_of Tryd.underlying5 rfl) rfl (RdI.atC 2 (hv _ (H8d2.right)) (by omega))) (ltn rfl) ?_
        refine wl_yes rfl rfl ?_
        refine wl_val (r_lss rfl rfl) (ltn rfl) ?_
        refine wl_yes rfl rfl ?_
        refine wl_split rfl (ltn rfl) (fun h10 => ?_) (fun h10 => ?_)
        · (try simp only [beq_iff_eq, bne_iff_ne, ne_eq, decide_eq_true_eq, decide_eq_false_iff_not, beq_eq_false_iff_ne, bne_eq_false_iff_eq, Bool.not_eq_true', Bool.not_eq_false', Bool.not_eq_eq_eq_not, Bool.not_true, Bool.not_false, gt_iff_lt, ge_iff_le, Int.not_lt, Int.not_le] at h10)
          refine wl_no rfl rfl rfl (ltn rfl) ?_
          refine wl_no rfl rfl rfl (ltn rfl) ?_
          refine wl_no rfl rfl rfl (ltn rfl) ?_
          refine wl_no rfl rfl rfl (ltn rfl) ?_
          refine wl_yes rfl rfl ?_
          refine wl_val (r_pick_t rfl rfl) (ltn rfl) ?_
          refine wl_val (r_pick_t rfl rfl) (ltn rfl) ?_
          refine wl_nil ?_
          refine wq_seq ?_
          refine wc_cond_t rfl ?_
          refine wc_seq ?_
          refine wc_region ?_
          refine wl_val (r_assign rfl) (ltn rfl) ?_
          refine wl_nil ?_
          refine wq_seq ?_
          refine wc_ret ?_
          refine wq_then_ret ?_
          refine wq_end1 (.inl rfl) Tryd.results48 rfl ?_
          exact ⟨by rw [partM_bad (j := 2) (by omega) (notj (by decide) (by omega)) (by omega)]; rfl, H8d2.right⟩
        · (try simp only [beq_iff_eq, bne_iff_ne, ne_eq, decide_eq_true_eq, decide_eq_false_iff_not, beq_eq_false_iff_ne, bne_eq_false_iff_eq, Bool.not_eq_true', Bool.not_eq_false', Bool.not_eq_eq_eq_not, Bool.not_true, Bool.not_false, gt_iff_lt, ge_iff_le, Int.not_lt, Int.not_le] at h10)
          refine wl_yes rfl rfl ?_
          refine wl_val (r_move rfl) (ltn rfl) ?_
          refine wl_yes rfl rfl ?_
          refine wl_val (r_index Tryd.underlying39 Tryd.sizeOf5 rfl rfl (by omega)) (ltn rfl) ?_
          refine wl_yes rfl rfl ?_
          refine wl_val (r_load (plain_of Tryd.underlying5 rfl) rfl (RdI.atC 2 (hv _ (H8d2.right)) (by omega))) (ltn rfl) ?_
          refine wl_yes rfl rfl ?_
          refine wl_val (r_lss rfl rfl) (ltn rfl) ?_
          refine wl_yes rfl rfl ?_
          refine wl_val (r_pick_f rfl rfl) (ltn rfl) ?_
          refine wl_val (r_pick_t rfl rfl) (ltn rfl) ?_
          refine wl_nil ?_
          refine wq_seq ?_
          refine wc_cond rfl (fun h11 => ?_) (fun h11 => ?_)
          · (try simp only [beq_iff_eq, bne_iff_ne, ne_eq, decide_eq_true_eq, decide_eq_false_iff_not, beq_eq_false_iff_ne, bne_eq_false_iff_eq, Bool.not_eq_true', Bool.not_eq_false', Bool.not_eq_eq_eq_not, Bool.not_true, Bool.not_false, gt_iff_lt, ge_iff_le, Int.not_lt, Int.not_le] at h11)
            
            refine wc_seq ?_
            refine wc_region ?_
            refine wl_val (r_assign rfl) (ltn rfl) ?_
            refine wl_nil ?_
            refine wq_seq ?_
            refine wc_ret ?_
            refine wq_then_ret ?_
            refine wq_end1 (.inl rfl) Tryd.results48 rfl ?_
            exact ⟨by rw [partM_bad (j := 2) (by omega) (notj (by decide) (by omega)) (by omega)]; rfl, H8d2.right⟩
          · (try simp only [beq_iff_eq, bne_iff_ne, ne_eq, decide_eq_true_eq, decide_eq_false_iff_not, beq_eq_false_iff_ne, bne_eq_false_iff_eq, Bool.not_eq_true', Bool.not_eq_false', Bool.not_eq_eq_eq_not, Bool.not_true, Bool.not_false, gt_iff_lt, ge_iff_le, Int.not_lt, Int.not_le] at h11)
            
            refine wc_skip ?_
            refine wq_seq ?_
            refine wc_seq ?_
            refine wc_region ?_
            refine wl_val (r_assign rfl) (ltn rfl) ?_
            refine wl_nil ?_
            refine wq_seq ?_
            refine wc_ret ?_
            refine wq_end1 (.inl rfl) Tryd.results48 rfl ?_
            refine ⟨?_, H8d2.right⟩
            rw [partM_yes hne (by omega)]
            · rfl
            · rcases (show b.length = 1 ∨ b.length = 2 ∨ b.length = 3 by omega) with e | e | e
              · rw [e]; rfl
              · rw [e]; simp only [goodB, ok0, Bool.and_true, Bool.true_and]; exact ok1 (by omega) (by omega)
              · rw [e]; simp only [goodB, ok0, Bool.and_true, Bool.true_and, ok1 (b := b) (by omega) (by omega)]; exact okj (by decide) (by omega)
      · (try simp only [beq_iff_eq, bne_iff_ne, ne_eq, decide_eq_true_eq, decide_eq_false_iff_not, beq_eq_false_iff_ne, bne_eq_false_iff_eq, Bool.not_eq_true', Bool.not_eq_false', Bool.not_eq_eq_eq_not, Bool.not_true, Bool.not_false, gt_iff_lt, ge_iff_le, Int.not_lt, Int.not_le] at h9)
        refine wl_no rfl rfl rfl (ltn rfl) ?_
        refine wl_no rfl rfl rfl (ltn rfl) ?_
        refine wl_no rfl rfl rfl (ltn rfl) ?_
        refine wl_no rfl rfl rfl (ltn rfl) ?_
        refine wl_no rfl rfl rfl (ltn rfl) ?_
        refine wl_nou rfl rfl (ltn rfl) ?_
        refine wl_nou rfl rfl (ltn rfl) ?_
        refine wl_nou rfl rfl (ltn rfl) ?_
        refine wl_nou rfl rfl (ltn rfl) ?_
        refine wl_no rfl rfl rfl (ltn rfl) ?_
        refine wl_val (r_pick_f rfl rfl) (ltn rfl) ?_
        refine wl_nil ?_
        refine wq_seq ?_
        refine wc_cond_f rfl ?_
        refine wc_skip ?_
        refine wq_seq ?_
        refine wc_seq ?_
        refine wc_region ?_
        refine wl_val (r_assign rfl) (ltn rfl) ?_
        refine wl_nil ?_
        refine wq_seq ?_
        refine wc_ret ?_
        refine wq_end1 (.inl rfl) Tryd.results48 rfl ?_
        refine ⟨?_, H8d2.right⟩
        rw [partM_yes hne (by omega)]
        · rfl
        · rcases (show b.length = 1 ∨ b.length = 2 ∨ b.length = 3 by omega) with e | e | e
          · rw [e]; rfl
          · rw [e]; simp only [goodB, ok0, Bool.and_true, Bool.true_and]; exact ok1 (by omega) (by omega)
          · rw [e]; simp only [goodB, ok0, Bool.and_true, Bool.true_and, ok1 (b := b) (by omega) (by omega)]; exact okj (by decide) (by omega)
theorem app_non_ret (H : Holds w0 w (RowI 5 .u8 v l • F)) (hl : l.length ≤ 70368744177664) (hr : ¬ (0 ≤ r ∧ r ≤ 127)) (hw : -2147483648 ≤ r ∧ r < 2147483648) :
    Ret Tryd.prog 58 #[v, .int .i32 r] w fun v' w' => Holds w0 w' (RowI 5 .u8 v' (l ++ Lib.encodeRuneZ r) • F) := by
  refine ret_enter Tryd.func58 rfl Tryd.ntmps58 (Nat.le_of_ble_eq_true rfl) ?_
  dsimp only [slots0, Nat.reduceAdd]
  refine wc_seq ?_
  refine wc_region ?_
  refine wl_val (r_assign rfl) (ltn rfl) ?_
  refine wl_nil ?_
  refine wq_seq ?_
  refine wc_seq ?_
  refine wc_region ?_
  refine wl_val (r_move rfl) (ltn rfl) ?_
  refine wl_val (r_conv_u32 rfl (by rw [Tryd.underlying21]; rfl) Tryd.underlying83) (ltn rfl) ?_
  refine wl_val (r_assign rfl) (ltn rfl) ?_
  refine wl_nil ?_
  refine wq_seq ?_
  refine wc_block ?_
  refine wc_seq ?_
  refine wc_region ?_
  refine wl_val (r_move rfl) (ltn rfl) ?_
  refine wl_val (r_leq rfl rfl) (ltn rfl) ?_
  refine wl_val (r_assign rfl) (ltn rfl) ?_
  refine wl_nil ?_
  refine wq_seq ?_
  refine wc_cond rfl (fun h1 => ?_) (fun h1 => ?_)
  · (try simp only [beq_iff_eq, bne_iff_ne, ne_eq, decide_eq_true_eq, decide_eq_false_iff_not, beq_eq_false_iff_ne, bne_eq_false_iff_eq, Bool.not_eq_true', Bool.not_eq_false', Bool.not_eq_eq_eq_not, Bool.not_true, Bool.not_false, gt_iff_lt, ge_iff_le, Int.not_lt, Int.not_le] at h1)
    
    refine wc_seq ?_
    refine wc_region ?_
    refine wl_val (r_move rfl) (ltn rfl) ?_
    refine wl_val (r_move rfl) (ltn rfl) ?_
    refine wl_val (r_shr 6 64 (by decide) (by decide) rfl rfl) (ltn rfl) ?_
    refine wl_val (r_conv_u8 rfl (by rw [Tryd.underlying21]; rfl) Tryd.underlying5) (ltn rfl) ?_
    refine wl_val (r_or_u8 6 64 (by decide) rfl rfl (by omega)) (ltn rfl) ?_
    refine wl_val (r_move rfl) (ltn rfl) ?_
    refine wl_val (r_conv_u8 rfl (by rw [Tryd.underlying21]; rfl) Tryd.underlying5) (ltn rfl) ?_
    refine wl_val (r_and_u8 6 63 64 (by decide) (by decide) (by decide) rfl rfl (by omega)) (ltn rfl) ?_
    refine wl_val (r_or_u8 7 128 (by decide) rfl rfl (by omega)) (ltn rfl) ?_
    refine wl_eff (e_lit_ints (k := .u8) (l := [_, _]) H Tryd.underlying39 Tryd.sizeOf5 Tryd.zeroValue5 rfl rfl rfl (by decide)) (ltn rfl) ?_
    rintro l1 w1 H1
    refine wl_eff (e_append_ints H1.f2 ((H1).row_rd) Tryd.underlying39 (show (Tryd.prog.info? 5).map (fun i => (i.zero, i.size, i.bytes)) = some (some (.int .u8 0), 1, 1) by kernel_rfl) rfl rfl (by first | omega | (simp only [List.length_append, List.length_nil, List.length_cons]; omega) | (simp; omega)) (by first | omega | (simp only [List.length_append, List.length_nil, List.length_cons]; omega) | (simp; omega))) (ltn rfl) ?_
    rintro l2 w2 H2
    try simp only [List.nil_append] at H2
    refine wl_val (r_assign rfl) (ltn rfl) ?_
    refine wl_nil ?_
    refine wq_seq ?_
    refine wc_ret ?_
    refine wq_block_ret ?_
    refine wq_end1 (.inl rfl) Tryd.results58 rfl ?_
    rw [Lib.encodeRuneZ_two (by omega) (by omega)]
    have HX := H2.f2.right
    rw [show r / 64 % 256 = r / 64 from by omega, show r % 256 % 64 = r % 64 from by omega] at HX
    exact HX
  · (try simp only [beq_iff_eq, bne_iff_ne, ne_eq, decide_eq_true_eq, decide_eq_false_iff_not, beq_eq_false_iff_ne, bne_eq_false_iff_eq, Bool.not_eq_true', Bool.not_eq_false', Bool.not_eq_eq_eq_not, Bool.not_true, Bool.not_false, gt_iff_lt, ge_iff_le, Int.not_lt, Int.not_le] at h1)
    
    refine wc_seq ?_
    refine wc_seq ?_
    refine wc_region ?_
    refine wl_val (r_move rfl) (ltn rfl) ?_
    refine wl_val (r_lss rfl rfl) (ltn rfl) ?_
    refine wl_val (r_assign rfl) (ltn rfl) ?_
    refine wl_nil ?_
    refine wq_seq ?_
    refine wc_cond rfl (fun h2 => ?_) (fun h2 => ?_)
    · (try simp only [beq_iff_eq, bne_iff_ne, ne_eq, decide_eq_true_eq, decide_eq_false_iff_not, beq_eq_false_iff_ne, bne_eq_false_iff_eq, Bool.not_eq_true', Bool.not_eq_false', Bool.not_eq_eq_eq_not, Bool.not_true, Bool.not_false, gt_iff_lt, ge_iff_le, Int.not_lt, Int.not_le] at h2)
      
      refine wc_skip ?_
      refine wq_seq ?_
      refine wc_cond rfl (fun h3 => ?_) (fun h3 => ?_)
      · (try simp only [beq_iff_eq, bne_iff_ne, ne_eq, decide_eq_true_eq, decide_eq_false_iff_not, beq_eq_false_iff_ne, bne_eq_false_iff_eq, Bool.not_eq_true', Bool.not_eq_false', Bool.not_eq_eq_eq_not, Bool.not_true, Bool.not_false, gt_iff_lt, ge_iff_le, Int.not_lt, Int.not_le] at h3)
        
        refine wc_seq ?_
        refine wc_region ?_
        refine wl_val (r_move rfl) (ltn rfl) ?_
        refine wl_val (r_move rfl) (ltn rfl) ?_
        refine wl_val (r_shr 12 4096 (by decide) (by decide) rfl rfl) (ltn rfl) ?_
        refine wl_val (r_conv_u8 rfl (by rw [Tryd.underlying21]; rfl) Tryd.underlying5) (ltn rfl) ?_
        refine wl_val (r_or_u8 5 32 (by decide) rfl rfl (by omega)) (ltn rfl) ?_
        refine wl_val (r_move rfl) (ltn rfl) ?_
        refine wl_val (r_shr 6 64 (by decide) (by decide) rfl rfl) (ltn rfl) ?_
        refine wl_val (r_conv_u8 rfl (by rw [Tryd.underlying21]; rfl) Tryd.underlying5) (ltn rfl) ?_
        refine wl_val (r_and_u8 6 63 64 (by decide) (by decide) (by decide) rfl rfl (by omega)) (ltn rfl) ?_
        refine wl_val (r_or_u8 7 128 (by decide) rfl rfl (by omega)) (ltn rfl) ?_
        refine wl_val (r_move rfl) (ltn rfl) ?_
        refine wl_val (r_conv_u8 rfl (by rw [Tryd.underlying21]; rfl) Tryd.underlying5) (ltn rfl) ?_
        refine wl_val (r_and_u8 6 63 64 (by decide) (by decide) (by decide) rfl rfl (by omega)) (ltn rfl) ?_
        refine wl_val (r_or_u8 7 128 (by decide) rfl rfl (by omega)) (ltn rfl) ?_
        refine wl_eff (e_lit_ints (k := .u8) (l := [_, _, _]) H Tryd.underlying39 Tryd.sizeOf5 Tryd.zeroValue5 rfl rfl rfl (by decide)) (ltn rfl) ?_
        rintro l3 w3 H3
        refine wl_eff (e_append_ints H3.f2 ((H3).row_rd) Tryd.underlying39 (show (Tryd.prog.info? 5).map (fun i => (i.zero, i.size, i.bytes)) = some (some (.int .u8 0), 1, 1) by kernel_rfl) rfl rfl (by first | omega | (simp only [List.length_append, List.length_nil, List.length_cons]; omega) | (simp; omega)) (by first | omega | (simp only [List.length_append, List.length_nil, List.length_cons]; omega) | (simp; omega))) (ltn rfl) ?_
        rintro l4 w4 H4
        try simp only [List.nil_append] at H4
        refine wl_val (r_assign rfl) (ltn rfl) ?_
        refine wl_nil ?_
        refine wq_seq ?_
        refine wc_ret ?_
        refine wq_block_ret ?_
        refine wq_end1 (.inl rfl) Tryd.results58 rfl ?_
        rw [Lib.encodeRuneZ_three (by omega)]
        have HX := H4.f2.right
        rw [show r / 4096 % 256 = r / 4096 from by omega, show r / 64 % 256 % 64 = r / 64 % 64 from by omega, show r % 256 % 64 = r % 64 from by omega] at HX
        exact HX
      · (try simp only [beq_iff_eq, bne_iff_ne, ne_eq, decide_eq_true_eq, decide_eq_false_iff_not, beq_eq_false_iff_ne, bne_eq_false_iff_eq, Bool.not_eq_true', Bool.not_eq_false', Bool.not_eq_eq_eq_not, Bool.not_true, Bool.not_false, gt_iff_lt, ge_iff_le, Int.not_lt, Int.not_le] at h3)
        
        refine wc_seq ?_
        refine wc_region ?_
        refine wl_val (r_move rfl) (ltn rfl) ?_
        refine wl_val (r_gtr rfl rfl) (ltn rfl) ?_
        refine wl_split rfl (ltn rfl) (fun h4 => ?_) (fun h4 => ?_)
        · (try simp only [beq_iff_eq, bne_iff_ne, ne_eq, decide_eq_true_eq, decide_eq_false_iff_not, beq_eq_false_iff_ne, bne_eq_false_iff_eq, Bool.not_eq_true', Bool.not_eq_false', Bool.not_eq_eq_eq_not, Bool.not_true, Bool.not_false, gt_iff_lt, ge_iff_le, Int.not_lt, Int.not_le] at h4)
          refine wl_yes rfl rfl ?_
          refine wl_val (r_move rfl) (ltn rfl) ?_
          refine wl_yes rfl rfl ?_
          refine wl_val (r_leq rfl rfl) (ltn rfl) ?_
          refine wl_val (r_pick_t rfl rfl) (ltn rfl) ?_
          refine wl_val (r_assign rfl) (ltn rfl) ?_
          refine wl_nil ?_
          refine wq_seq ?_
          refine wc_cond rfl (fun h5 => ?_) (fun h5 => ?_)
          · (try simp only [beq_iff_eq, bne_iff_ne, ne_eq, decide_eq_true_eq, decide_eq_false_iff_not, beq_eq_false_iff_ne, bne_eq_false_iff_eq, Bool.not_eq_true', Bool.not_eq_false', Bool.not_eq_eq_eq_not, Bool.not_true, Bool.not_false, gt_iff_lt, ge_iff_le, Int.not_lt, Int.not_le] at h5)
            
            refine wc_seq ?_
            refine wc_region ?_
            refine wl_val (r_move rfl) (ltn rfl) ?_
            refine wl_val (r_move rfl) (ltn rfl) ?_
            refine wl_val (r_shr 18 262144 (by decide) (by decide) rfl rfl) (ltn rfl) ?_
            refine wl_val (r_conv_u8 rfl (by rw [Tryd.underlying21]; rfl) Tryd.underlying5) (ltn rfl) ?_
            refine wl_val (r_or_u8 4 16 (by decide) rfl rfl (by omega)) (ltn rfl) ?_
            refine wl_val (r_move rfl) (ltn rfl) ?_
            refine wl_val (r_shr 12 4096 (by decide) (by decide) rfl rfl) (ltn rfl) ?_
            refine wl_val (r_conv_u8 rfl (by rw [Tryd.underlying21]; rfl) Tryd.underlying5) (ltn rfl) ?_
            refine wl_val (r_and_u8 6 63 64 (by decide) (by decide) (by decide) rfl rfl (by omega)) (ltn rfl) ?_
            refine wl_val (r_or_u8 7 128 (by decide) rfl rfl (by omega)) (ltn rfl) ?_
            refine wl_val (r_move rfl) (ltn rfl) ?_
            refine wl_val (r_shr 6 64 (by decide) (by decide) rfl rfl) (ltn rfl) ?_
            refine wl_val (r_conv_u8 rfl (by rw [Tryd.underlying21]; rfl) Tryd.underlying5) (ltn rfl) ?_
            refine wl_val (r_and_u8 6 63 64 (by decide) (by decide) (by decide) rfl rfl (by omega)) (ltn rfl) ?_
            refine wl_val (r_or_u8 7 128 (by decide) rfl rfl (by omega)) (ltn rfl) ?_
            refine wl_val (r_move rfl) (ltn rfl) ?_
            refine wl_val (r_conv_u8 rfl (by rw [Tryd.underlying21]; rfl) Tryd.underlying5) (ltn rfl) ?_
            refine wl_val (r_and_u8 6 63 64 (by decide) (by decide) (by decide) rfl rfl (by omega)) (ltn rfl) ?_
            refine wl_val (r_or_u8 7 128 (by decide) rfl rfl (by omega)) (ltn rfl) ?_
            refine wl_eff (e_lit_ints (k := .u8) (l := [_, _, _, _]) H Tryd.underlying39 Tryd.sizeOf5 Tryd.zeroValue5 rfl rfl rfl (by decide)) (ltn rfl) ?_
            rintro l5 w5 H5
            refine wl_eff (e_append_ints H5.f2 ((H5).row_rd) Tryd.underlying39 (show (Tryd.prog.info? 5).map (fun i => (i.zero, i.size, i.bytes)) = some (some (.int .u8 0), 1, 1) by kernel_rfl) rfl rfl (by first | omega | (simp only [List.length_append, List.length_nil, List.length_cons]; omega) | (simp; omega)) (by first | omega | (simp only [List.length_append, List.length_nil, List.length_cons]; omega) | (simp; omega))) (ltn rfl) ?_
            rintro l6 w6 H6
            try simp only [List.nil_append] at H6
            refine wl_val (r_assign rfl) (ltn rfl) ?_
            refine wl_nil ?_
            refine wq_seq ?_
            refine wc_ret ?_
            refine wq_block_ret ?_
            refine wq_end1 (.inl rfl) Tryd.results58 rfl ?_
            rw [Lib.encodeRuneZ_four (by omega) (by omega)]
            have HX := H6.f2.right
            rw [show r / 262144 % 256 = r / 262144 from by omega, show r / 4096 % 256 % 64 = r / 4096 % 64 from by omega, show r / 64 % 256 % 64 = r / 64 % 64 from by omega, show r % 256 % 64 = r % 64 from by omega] at HX
            exact HX
          · (try simp only [beq_iff_eq, bne_iff_ne, ne_eq, decide_eq_true_eq, decide_eq_false_iff_not, beq_eq_false_iff_ne, bne_eq_false_iff_eq, Bool.not_eq_true', Bool.not_eq_false', Bool.not_eq_eq_eq_not, Bool.not_true, Bool.not_false, gt_iff_lt, ge_iff_le, Int.not_lt, Int.not_le] at h5)
            
            refine wc_seq ?_
            refine wc_region ?_
            refine wl_val (r_move rfl) (ltn rfl) ?_
            refine wl_eff (e_lit_ints (k := .u8) (l := [239, 191, 189]) H Tryd.underlying39 Tryd.sizeOf5 Tryd.zeroValue5 rfl rfl rfl (by decide)) (ltn rfl) ?_
            rintro l7 w7 H7
            refine wl_eff (e_append_ints H7.f2 ((H7).row_rd) Tryd.underlying39 (show (Tryd.prog.info? 5).map (fun i => (i.zero, i.size, i.bytes)) = some (some (.int .u8 0), 1, 1) by kernel_rfl) rfl rfl (by first | omega | (simp only [List.length_append, List.length_nil, List.length_cons]; omega) | (simp; omega)) (by first | omega | (simp only [List.length_append, List.length_nil, List.length_cons]; omega) | (simp; omega))) (ltn rfl) ?_
            rintro l8 w8 H8
            try simp only [List.nil_append] at H8
            refine wl_val (r_assign rfl) (ltn rfl) ?_
            refine wl_nil ?_
            refine wq_seq ?_
            refine wc_ret ?_
            refine wq_block_ret ?_
            refine wq_end1 (.inl rfl) Tryd.results58 rfl ?_
            rw [Lib.encodeRuneZ_bad (by omega)]
            exact H8.f2.right
        · (try simp only [beq_iff_eq, bne_iff_ne, ne_eq, decide_eq_true_eq, decide_eq_false_iff_not, beq_eq_false_iff_ne, bne_eq_false_iff_eq, Bool.not_eq_true', Bool.not_eq_false', Bool.not_eq_eq_eq_not, Bool.not_true, Bool.not_false, gt_iff_lt, ge_iff_le, Int.not_lt, Int.not_le] at h4)
          refine wl_no rfl rfl rfl (ltn rfl) ?_
          refine wl_no rfl rfl rfl (ltn rfl) ?_
          refine wl_val (r_pick_f rfl rfl) (ltn rfl) ?_
          refine wl_val (r_assign rfl) (ltn rfl) ?_
          refine wl_nil ?_
          refine wq_seq ?_
          refine wc_cond_f rfl ?_
          refine wc_seq ?_
          refine wc_region ?_
          refine wl_val (r_move rfl) (ltn rfl) ?_
          refine wl_eff (e_lit_ints (k := .u8) (l := [239, 191, 189]) H Tryd.underlying39 Tryd.sizeOf5 Tryd.zeroValue5 rfl rfl rfl (by decide)) (ltn rfl) ?_
          rintro l9 w9 H9
          refine wl_eff (e_append_ints H9.f2 ((H9).row_rd) Tryd.underlying39 (show (Tryd.prog.info? 5).map (fun i => (i.zero, i.size, i.bytes)) = some (some (.int .u8 0), 1, 1) by kernel_rfl) rfl rfl (by first | omega | (simp only [List.length_append, List.length_nil, List.length_cons]; omega) | (simp; omega)) (by first | omega | (simp only [List.length_append, List.length_nil, List.length_cons]; omega) | (simp; omega))) (ltn rfl) ?_
          rintro l10 w10 H10
          try simp only [List.nil_append] at H10
          refine wl_val (r_assign rfl) (ltn rfl) ?_
          refine wl_nil ?_
          refine wq_seq ?_
          refine wc_ret ?_
          refine wq_block_ret ?_
          refine wq_end1 (.inl rfl) Tryd.results58 rfl ?_
          rw [Lib.encodeRuneZ_bad (by omega)]
          exact H10.f2.right
    · (try simp only [beq_iff_eq, bne_iff_ne, ne_eq, decide_eq_true_eq, decide_eq_false_iff_not, beq_eq_false_iff_ne, bne_eq_false_iff_eq, Bool.not_eq_true', Bool.not_eq_false', Bool.not_eq_eq_eq_not, Bool.not_true, Bool.not_false, gt_iff_lt, ge_iff_le, Int.not_lt, Int.not_le] at h2)
      
      refine wc_region ?_
      refine wl_val (r_move rfl) (ltn rfl) ?_
      refine wl_val (r_lss rfl rfl) (ltn rfl) ?_
      refine wl_split rfl (ltn rfl) (fun h6 => ?_) (fun h6 => ?_)
      · (try simp only [beq_iff_eq, bne_iff_ne, ne_eq, decide_eq_true_eq, decide_eq_false_iff_not, beq_eq_false_iff_ne, bne_eq_false_iff_eq, Bool.not_eq_true', Bool.not_eq_false', Bool.not_eq_eq_eq_not, Bool.not_true, Bool.not_false, gt_iff_lt, ge_iff_le, Int.not_lt, Int.not_le] at h6)
        refine wl_yes rfl rfl ?_
        refine wl_val (r_move rfl) (ltn rfl) ?_
        refine wl_yes rfl rfl ?_
        refine wl_val (r_leq rfl rfl) (ltn rfl) ?_
        refine wl_val (r_pick_t rfl rfl) (ltn rfl) ?_
        refine wl_val (r_assign rfl) (ltn rfl) ?_
        refine wl_nil ?_
        refine wq_seq ?_
        refine wc_cond rfl (fun h7 => ?_) (fun h7 => ?_)
        · (try simp only [beq_iff_eq, bne_iff_ne, ne_eq, decide_eq_true_eq, decide_eq_false_iff_not, beq_eq_false_iff_ne, bne_eq_false_iff_eq, Bool.not_eq_true', Bool.not_eq_false', Bool.not_eq_eq_eq_not, Bool.not_true, Bool.not_false, gt_iff_lt, ge_iff_le, Int.not_lt, Int.not_le] at h7)
          
          refine wc_seq ?_
          refine wc_region ?_
          refine wl_val (r_move rfl) (ltn rfl) ?_
          refine wl_val (r_move rfl) (ltn rfl) ?_
          refine wl_val (r_shr 12 4096 (by decide) (by decide) rfl rfl) (ltn rfl) ?_
          refine wl_val (r_conv_u8 rfl (by rw [Tryd.underlying21]; rfl) Tryd.underlying5) (ltn rfl) ?_
          refine wl_val (r_or_u8 5 32 (by decide) rfl rfl (by omega)) (ltn rfl) ?_
          refine wl_val (r_move rfl) (ltn rfl) ?_
          refine wl_val (r_shr 6 64 (by decide) (by decide) rfl rfl) (ltn rfl) ?_
          refine wl_val (r_conv_u8 rfl (by rw [Tryd.underlying21]; rfl) Tryd.underlying5) (ltn rfl) ?_
          refine wl_val (r_and_u8 6 63 64 (by decide) (by decide) (by decide) rfl rfl (by omega)) (ltn rfl) ?_
          refine wl_val (r_or_u8 7 128 (by decide) rfl rfl (by omega)) (ltn rfl) ?_
          refine wl_val (r_move rfl) (ltn rfl) ?_
          refine wl_val (r_conv_u8 rfl (by rw [Tryd.underlying21]; rfl) Tryd.underlying5) (ltn rfl) ?_
          refine wl_val (r_and_u8 6 63 64 (by decide) (by decide) (by decide) rfl rfl (by omega)) (ltn rfl) ?_
          refine wl_val (r_or_u8 7 128 (by decide) rfl rfl (by omega)) (ltn rfl) ?_
          refine wl_eff (e_lit_ints (k := .u8) (l := [_, _, _]) H Tryd.underlying39 Tryd.sizeOf5 Tryd.zeroValue5 rfl rfl rfl (by decide)) (ltn rfl) ?_
          rintro l11 w11 H11
          refine wl_eff (e_append_ints H11.f2 ((H11).row_rd) Tryd.underlying39 (show (Tryd.prog.info? 5).map (fun i => (i.zero, i.size, i.bytes)) = some (some (.int .u8 0), 1, 1) by kernel_rfl) rfl rfl (by first | omega | (simp only [List.length_append, List.length_nil, List.length_cons]; omega) | (simp; omega)) (by first | omega | (simp only [List.length_append, List.length_nil, List.length_cons]; omega) | (simp; omega))) (ltn rfl) ?_
          rintro l12 w12 H12
          try simp only [List.nil_append] at H12
          refine wl_val (r_assign rfl) (ltn rfl) ?_
          refine wl_nil ?_
          refine wq_seq ?_
          refine wc_ret ?_
          refine wq_block_ret ?_
          refine wq_end1 (.inl rfl) Tryd.results58 rfl ?_
          rw [Lib.encodeRuneZ_three (by omega)]
          have HX := H12.f2.right
          rw [show r / 4096 % 256 = r / 4096 from by omega, show r / 64 % 256 % 64 = r / 64 % 64 from by omega, show r % 256 % 64 = r % 64 from by omega] at HX
          exact HX
        · (try simp only [beq_iff_eq, bne_iff_ne, ne_eq, decide_eq_true_eq, decide_eq_false_iff_not, beq_eq_false_iff_ne, bne_eq_false_iff_eq, Bool.not_eq_true', Bool.not_eq_false', Bool.not_eq_eq_eq_not, Bool.not_true, Bool.not_false, gt_iff_lt, ge_iff_le, Int.not_lt, Int.not_le] at h7)
          
          refine wc_seq ?_
          refine wc_region ?_
          refine wl_val (r_move rfl) (ltn rfl) ?_
          refine wl_val (r_gtr rfl rfl) (ltn rfl) ?_
          refine wl_split rfl (ltn rfl) (fun h8 => ?_) (fun h8 => ?_)
          · (try simp only [beq_iff_eq, bne_iff_ne, ne_eq, decide_eq_true_eq, decide_eq_false_iff_not, beq_eq_false_iff_ne, bne_eq_false_iff_eq, Bool.not_eq_true', Bool.not_eq_false', Bool.not_eq_eq_eq_not, Bool.not_true, Bool.not_false, gt_iff_lt, ge_iff_le, Int.not_lt, Int.not_le] at h8)
            refine wl_yes rfl rfl ?_
            refine wl_val (r_move rfl) (ltn rfl) ?_
            refine wl_yes rfl rfl ?_
            refine wl_val (r_leq rfl rfl) (ltn rfl) ?_
            refine wl_val (r_pick_t rfl rfl) (ltn rfl) ?_
            refine wl_val (r_assign rfl) (ltn rfl) ?_
            refine wl_nil ?_
            refine wq_seq ?_
            refine wc_cond rfl (fun h9 => ?_) (fun h9 => ?_)
            · (try simp only [beq_iff_eq, bne_iff_ne, ne_eq, decide_eq_true_eq, decide_eq_false_iff_not, beq_eq_false_iff_ne, bne_eq_false_iff_eq, Bool.not_eq_true', Bool.not_eq_false', Bool.not_eq_eq_eq_not, Bool.not_true, Bool.not_false, gt_iff_lt, ge_iff_le, Int.not_lt, Int.not_le] at h9)
              
              refine wc_seq ?_
              refine wc_region ?_
              refine wl_val (r_move rfl) (ltn rfl) ?_
              refine wl_val (r_move rfl) (ltn rfl) ?_
              refine wl_val (r_shr 18 262144 (by decide) (by decide) rfl rfl) (ltn rfl) ?_
              refine wl_val (r_conv_u8 rfl (by rw [Tryd.underlying21]; rfl) Tryd.underlying5) (ltn rfl) ?_
              refine wl_val (r_or_u8 4 16 (by decide) rfl rfl (by omega)) (ltn rfl) ?_
              refine wl_val (r_move rfl) (ltn rfl) ?_
              refine wl_val (r_shr 12 4096 (by decide) (by decide) rfl rfl) (ltn rfl) ?_
              refine wl_val (r_conv_u8 rfl (by rw [Tryd.underlying21]; rfl) Tryd.underlying5) (ltn rfl) ?_
              refine wl_val (r_and_u8 6 63 64 (by decide) (by decide) (by decide) rfl rfl (by omega)) (ltn rfl) ?_
              refine wl_val (r_or_u8 7 128 (by decide) rfl rfl (by omega)) (ltn rfl) ?_
              refine wl_val (r_move rfl) (ltn rfl) ?_
              refine wl_val (r_shr 6 64 (by decide) (by decide) rfl rfl) (ltn rfl) ?_
              refine wl_val (r_conv_u8 rfl (by rw [Tryd.underlying21]; rfl) Tryd.underlying5) (ltn rfl) ?_
              refine wl_val (r_and_u8 6 63 64 (by decide) (by decide) (by decide) rfl rfl (by omega)) (ltn rfl) ?_
              refine wl_val (r_or_u8 7 128 (by decide) rfl rfl (by omega)) (ltn rfl) ?_
              refine wl_val (r_move rfl) (ltn rfl) ?_
              refine wl_val (r_conv_u8 rfl (by rw [Tryd.underlying21]; rfl) Tryd.underlying5) (ltn rfl) ?_
              refine wl_val (r_and_u8 6 63 64 (by decide) (by decide) (by decide) rfl rfl (by omega)) (ltn rfl) ?_
              refine wl_val (r_or_u8 7 128 (by decide) rfl rfl (by omega)) (ltn rfl) ?_
              refine wl_eff (e_lit_ints (k := .u8) (l := [_, _, _, _]) H Tryd.underlying39 Tryd.sizeOf5 Tryd.zeroValue5 rfl rfl rfl (by decide)) (ltn rfl) ?_
              rintro l13 w13 H13
              refine wl_eff (e_append_ints H13.f2 ((H13).row_rd) Tryd.underlying39 (show (Tryd.prog.info? 5).map (fun i => (i.zero, i.size, i.bytes)) = some (some (.int .u8 0), 1, 1) by kernel_rfl) rfl rfl (by first | omega | (simp only [List.length_append, List.length_nil, List.length_cons]; omega) | (simp; omega)) (by first | omega | (simp only [List.length_append, List.length_nil, List.length_cons]; omega) | (simp; omega))) (ltn rfl) ?_
              rintro l14 w14 H14
              try simp only [List.nil_append] at H14
              refine wl_val (r_assign rfl) (ltn rfl) ?_
              refine wl_nil ?_
              refine wq_seq ?_
              refine wc_ret ?_
              refine wq_block_ret ?_
              refine wq_end1 (.inl rfl) Tryd.results58 rfl ?_
              rw [Lib.encodeRuneZ_four (by omega) (by omega)]
              have HX := H14.f2.right
              rw [show r / 262144 % 256 = r / 262144 from by omega, show r / 4096 % 256 % 64 = r / 4096 % 64 from by omega, show r / 64 % 256 % 64 = r / 64 % 64 from by omega, show r % 256 % 64 = r % 64 from by omega] at HX
              exact HX
            · (try simp only [beq_iff_eq, bne_iff_ne, ne_eq, decide_eq_true_eq, decide_eq_false_iff_not, beq_eq_false_iff_ne, bne_eq_false_iff_eq, Bool.not_eq_true', Bool.not_eq_false', Bool.not_eq_eq_eq_not, Bool.not_true, Bool.not_false, gt_iff_lt, ge_iff_le, Int.not_lt, Int.not_le] at h9)
              
              refine wc_seq ?_
              refine wc_region ?_
              refine wl_val (r_move rfl) (ltn rfl) ?_
              refine wl_eff (e_lit_ints (k := .u8) (l := [239, 191, 189]) H Tryd.underlying39 Tryd.sizeOf5 Tryd.zeroValue5 rfl rfl rfl (by decide)) (ltn rfl) ?_
              rintro l15 w15 H15
              refine wl_eff (e_append_ints H15.f2 ((H15).row_rd) Tryd.underlying39 (show (Tryd.prog.info? 5).map (fun i => (i.zero, i.size, i.bytes)) = some (some (.int .u8 0), 1, 1) by kernel_rfl) rfl rfl (by first | omega | (simp only [List.length_append, List.length_nil, List.length_cons]; omega) | (simp; omega)) (by first | omega | (simp only [List.length_append, List.length_nil, List.length_cons]; omega) | (simp; omega))) (ltn rfl) ?_
              rintro l16 w16 H16
              try simp only [List.nil_append] at H16
              refine wl_val (r_assign rfl) (ltn rfl) ?_
              refine wl_nil ?_
              refine wq_seq ?_
              refine wc_ret ?_
              refine wq_block_ret ?_
              refine wq_end1 (.inl rfl) Tryd.results58 rfl ?_
              rw [Lib.encodeRuneZ_bad (by omega)]
              exact H16.f2.right
          · (try simp only [beq_iff_eq, bne_iff_ne, ne_eq, decide_eq_true_eq, decide_eq_false_iff_not, beq_eq_false_iff_ne, bne_eq_false_iff_eq, Bool.not_eq_true', Bool.not_eq_false', Bool.not_eq_eq_eq_not, Bool.not_true, Bool.not_false, gt_iff_lt, ge_iff_le, Int.not_lt, Int.not_le] at h8)
            refine wl_no rfl rfl rfl (ltn rfl) ?_
            refine wl_no rfl rfl rfl (ltn rfl) ?_
            refine wl_val (r_pick_f rfl rfl) (ltn rfl) ?_
            refine wl_val (r_assign rfl) (ltn rfl) ?_
            refine wl_nil ?_
            refine wq_seq ?_
            refine wc_cond_f rfl ?_
            refine wc_seq ?_
            refine wc_region ?_
            refine wl_val (r_move rfl) (ltn rfl) ?_
            refine wl_eff (e_lit_ints (k := .u8) (l := [239, 191, 189]) H Tryd.underlying39 Tryd.sizeOf5 Tryd.zeroValue5 rfl rfl rfl (by decide)) (ltn rfl) ?_
            rintro l17 w17 H17
            refine wl_eff (e_append_ints H17.f2 ((H17).row_rd) Tryd.underlying39 (show (Tryd.prog.info? 5).map (fun i => (i.zero, i.size, i.bytes)) = some (some (.int .u8 0), 1, 1) by kernel_rfl) rfl rfl (by first | omega | (simp only [List.length_append, List.length_nil, List.length_cons]; omega) | (simp; omega)) (by first | omega | (simp only [List.length_append, List.length_nil, List.length_cons]; omega) | (simp; omega))) (ltn rfl) ?_
            rintro l18 w18 H18
            try simp only [List.nil_append] at H18
            refine wl_val (r_assign rfl) (ltn rfl) ?_
            refine wl_nil ?_
            refine wq_seq ?_
            refine wc_ret ?_
            refine wq_block_ret ?_
            refine wq_end1 (.inl rfl) Tryd.results58 rfl ?_
            rw [Lib.encodeRuneZ_bad (by omega)]
            exact H18.f2.right
      · (try simp only [beq_iff_eq, bne_iff_ne, ne_eq, decide_eq_true_eq, decide_eq_false_iff_not, beq_eq_false_iff_ne, bne_eq_false_iff_eq, Bool.not_eq_true', Bool.not_eq_false', Bool.not_eq_eq_eq_not, Bool.not_true, Bool.not_false, gt_iff_lt, ge_iff_le, Int.not_lt, Int.not_le] at h6)
        refine wl_no rfl rfl rfl (ltn rfl) ?_
        refine wl_no rfl rfl rfl (ltn rfl) ?_
        refine wl_val (r_pick_f rfl rfl) (ltn rfl) ?_
        refine wl_val (r_assign rfl) (ltn rfl) ?_
        refine wl_nil ?_
        refine wq_seq ?_
        refine wc_cond_f rfl ?_
        refine wc_seq ?_
        refine wc_region ?_
        refine wl_val (r_move rfl) (ltn rfl) ?_
        refine wl_val (r_gtr rfl rfl) (ltn rfl) ?_
        refine wl_split rfl (ltn rfl) (fun h10 => ?_) (fun h10 => ?_)
        · (try simp only [beq_iff_eq, bne_iff_ne, ne_eq, decide_eq_true_eq, decide_eq_false_iff_not, beq_eq_false_iff_ne, bne_eq_false_iff_eq, Bool.not_eq_true', Bool.not_eq_false', Bool.not_eq_eq_eq_not, Bool.not_true, Bool.not_false, gt_iff_lt, ge_iff_le, Int.not_lt, Int.not_le] at h10)
          refine wl_yes rfl rfl ?_
          refine wl_val (r_move rfl) (ltn rfl) ?_
          refine wl_yes rfl rfl ?_
          refine wl_val (r_leq rfl rfl) (ltn rfl) ?_
          refine wl_val (r_pick_t rfl rfl) (ltn rfl) ?_
          refine wl_val (r_assign rfl) (ltn rfl) ?_
          refine wl_nil ?_
          refine wq_seq ?_
          refine wc_cond rfl (fun h11 => ?_) (fun h11 => ?_)
          · (try simp only [beq_iff_eq, bne_iff_ne, ne_eq, decide_eq_true_eq, decide_eq_false_iff_not, beq_eq_false_iff_ne, bne_eq_false_iff_eq, Bool.not_eq_true', Bool.not_eq_false', Bool.not_eq_eq_eq_not, Bool.not_true, Bool.not_false, gt_iff_lt, ge_iff_le, Int.not_lt, Int.not_le] at h11)
            
            refine wc_seq ?_
            refine wc_region ?_
            refine wl_val (r_move rfl) (ltn rfl) ?_
            refine wl_val (r_move rfl) (ltn rfl) ?_
            refine wl_val (r_shr 18 262144 (by decide) (by decide) rfl rfl) (ltn rfl) ?_
            refine wl_val (r_conv_u8 rfl (by rw [Tryd.underlying21]; rfl) Tryd.underlying5) (ltn rfl) ?_
            refine wl_val (r_or_u8 4 16 (by decide) rfl rfl (by omega)) (ltn rfl) ?_
            refine wl_val (r_move rfl) (ltn rfl) ?_
            refine wl_val (r_shr 12 4096 (by decide) (by decide) rfl rfl) (ltn rfl) ?_
            refine wl_val (r_conv_u8 rfl (by rw [Tryd.underlying21]; rfl) Tryd.underlying5) (ltn rfl) ?_
            refine wl_val (r_and_u8 6 63 64 (by decide) (by decide) (by decide) rfl rfl (by omega)) (ltn rfl) ?_
            refine wl_val (r_or_u8 7 128 (by decide) rfl rfl (by omega)) (ltn rfl) ?_
            refine wl_val (r_move rfl) (ltn rfl) ?_
            refine wl_val (r_shr 6 64 (by decide) (by decide) rfl rfl) (ltn rfl) ?_
            refine wl_val (r_conv_u8 rfl (by rw [Tryd.underlying21]; rfl) Tryd.underlying5) (ltn rfl) ?_
            refine wl_val (r_and_u8 6 63 64 (by decide) (by decide) (by decide) rfl rfl (by omega)) (ltn rfl) ?_
            refine wl_val (r_or_u8 7 128 (by decide) rfl rfl (by omega)) (ltn rfl) ?_
            refine wl_val (r_move rfl) (ltn rfl) ?_
            refine wl_val (r_conv_u8 rfl (by rw [Tryd.underlying21]; rfl) Tryd.underlying5) (ltn rfl) ?_
            refine wl_val (r_and_u8 6 63 64 (by decide) (by decide) (by decide) rfl rfl (by omega)) (ltn rfl) ?_
            refine wl_val (r_or_u8 7 128 (by decide) rfl rfl (by omega)) (ltn rfl) ?_
            refine wl_eff (e_lit_ints (k := .u8) (l := [_, _, _, _]) H Tryd.underlying39 Tryd.sizeOf5 Tryd.zeroValue5 rfl rfl rfl (by decide)) (ltn rfl) ?_
            rintro l19 w19 H19
            refine wl_eff (e_append_ints H19.f2 ((H19).row_rd) Tryd.underlying39 (show (Tryd.prog.info? 5).map (fun i => (i.zero, i.size, i.bytes)) = some (some (.int .u8 0), 1, 1) by kernel_rfl) rfl rfl (by first | omega | (simp only [List.length_append, List.length_nil, List.length_cons]; omega) | (simp; omega)) (by first | omega | (simp only [List.length_append, List.length_nil, List.length_cons]; omega) | (simp; omega))) (ltn rfl) ?_
            rintro l20 w20 H20
            try simp only [List.nil_append] at H20
            refine wl_val (r_assign rfl) (ltn rfl) ?_
            refine wl_nil ?_
            refine wq_seq ?_
            refine wc_ret ?_
            refine wq_block_ret ?_
            refine wq_end1 (.inl rfl) Tryd.results58 rfl ?_
            rw [Lib.encodeRuneZ_four (by omega) (by omega)]
            have HX := H20.f2.right
            rw [show r / 262144 % 256 = r / 262144 from by omega, show r / 4096 % 256 % 64 = r / 4096 % 64 from by omega, show r / 64 % 256 % 64 = r / 64 % 64 from by omega, show r % 256 % 64 = r % 64 from by omega] at HX
            exact HX
          · (try simp only [beq_iff_eq, bne_iff_ne, ne_eq, decide_eq_true_eq, decide_eq_false_iff_not, beq_eq_false_iff_ne, bne_eq_false_iff_eq, Bool.not_eq_true', Bool.not_eq_false', Bool.not_eq_eq_eq_not, Bool.not_true, Bool.not_false, gt_iff_lt, ge_iff_le, Int.not_lt, Int.not_le] at h11)
            
            refine wc_seq ?_
            refine wc_region ?_
            refine wl_val (r_move rfl) (ltn rfl) ?_
            refine wl_eff (e_lit_ints (k := .u8) (l := [239, 191, 189]) H Tryd.underlying39 Tryd.sizeOf5 Tryd.zeroValue5 rfl rfl rfl (by decide)) (ltn rfl) ?_
            rintro l21 w21 H21
            refine wl_eff (e_append_ints H21.f2 ((H21).row_rd) Tryd.underlying39 (show (Tryd.prog.info? 5).map (fun i => (i.zero, i.size, i.bytes)) = some (some (.int .u8 0), 1, 1) by kernel_rfl) rfl rfl (by first | omega | (simp only [List.length_append, List.length_nil, List.length_cons]; omega) | (simp; omega)) (by first | omega | (simp only [List.length_append, List.length_nil, List.length_cons]; omega) | (simp; omega))) (ltn rfl) ?_
            rintro l22 w22 H22
            try simp only [List.nil_append] at H22
            refine wl_val (r_assign rfl) (ltn rfl) ?_
            refine wl_nil ?_
            refine wq_seq ?_
            refine wc_ret ?_
            refine wq_block_ret ?_
            refine wq_end1 (.inl rfl) Tryd.results58 rfl ?_
            rw [Lib.encodeRuneZ_bad (by omega)]
            exact H22.f2.right
        · (try simp only [beq_iff_eq, bne_iff_ne, ne_eq, decide_eq_true_eq, decide_eq_false_iff_not, beq_eq_false_iff_ne, bne_eq_false_iff_eq, Bool.not_eq_true', Bool.not_eq_false', Bool.not_eq_eq_eq_not, Bool.not_true, Bool.not_false, gt_iff_lt, ge_iff_le, Int.not_lt, Int.not_le] at h10)
          refine wl_no rfl rfl rfl (ltn rfl) ?_
          refine wl_no rfl rfl rfl (ltn rfl) ?_
          refine wl_val (r_pick_f rfl rfl) (ltn rfl) ?_
          refine wl_val (r_assign rfl) (ltn rfl) ?_
          refine wl_nil ?_
          refine wq_seq ?_
          refine wc_cond_f rfl ?_
          refine wc_seq ?_
          refine wc_region ?_
          refine wl_val (r_move rfl) (ltn rfl) ?_
          refine wl_eff (e_lit_ints (k := .u8) (l := [239, 191, 189]) H Tryd.underlying39 Tryd.sizeOf5 Tryd.zeroValue5 rfl rfl rfl (by decide)) (ltn rfl) ?_
          rintro l23 w23 H23
          refine wl_eff (e_append_ints H23.f2 ((H23).row_rd) Tryd.underlying39 (show (Tryd.prog.info? 5).map (fun i => (i.zero, i.size, i.bytes)) = some (some (.int .u8 0), 1, 1) by kernel_rfl) rfl rfl (by first | omega | (simp only [List.length_append, List.length_nil, List.length_cons]; omega) | (simp; omega)) (by first | omega | (simp only [List.length_append, List.length_nil, List.length_cons]; omega) | (simp; omega))) (ltn rfl) ?_
          rintro l24 w24 H24
          try simp only [List.nil_append] at H24
          refine wl_val (r_assign rfl) (ltn rfl) ?_
          refine wl_nil ?_
          refine wq_seq ?_
          refine wc_ret ?_
          refine wq_block_ret ?_
          refine wq_end1 (.inl rfl) Tryd.results58 rfl ?_
          rw [Lib.encodeRuneZ_bad (by omega)]
          exact H24.f2.right
end
end Go.Proofs.YtmkmffoadapmnaaDoor
