/- Decoding and encoding, walked: the document's Head, value, Form. -/
import Derived.Test.YtmkmffoadapmnaaDoorUtf3
set_option linter.unusedSimpArgs false
set_option linter.unusedVariables false
namespace Go.Proofs.YtmkmffoadapmnaaDoor
open Go.RowKit
theorem okAt_1 {b : List Int} (h : okAt b 1 = false) : ¬ (128 ≤ b.getD 1 0 ∧ b.getD 1 0 ≤ 191 ∧ lowM (b.getD 0 0) ≤ b.getD 1 0 ∧ b.getD 1 0 ≤ highM (b.getD 0 0)) := fun h2 => by
  rw [ok1 h2.2.2.1 h2.2.2.2] at h; cases h
section
variable {w0 w : World} {F : HP} {v : Value} {b l : List Int} {r x y : Int}
theorem head_ret (H : Holds w0 w F) (hv : FRdI w0 F .u8 v b) (hb : Byts b) : Ret Tryd.prog 50 #[v] w fun v' w' => v' = .tuple #[.int .i64 ((headM b).1 : Nat), .int .i64 ((headM b).2 : Nat)] ∧ Holds w0 w' F := by
  have y0 := byt_at hb 0
  have hn4 := needM_le (b.getD 0 0)
  obtain ⟨_, cv, _, hcv1, hcv2, _⟩ := (hv _ H).open
  refine ret_enter Tryd.func50 rfl Tryd.ntmps50 (Nat.le_of_ble_eq_true rfl) ?_
  dsimp only [slots0, Nat.reduceAdd]
  refine wc_seq ?_
  refine wc_region ?_
  refine wl_val (r_assign rfl) (ltn rfl) ?_
  refine wl_val (r_assign rfl) (ltn rfl) ?_
  refine wl_nil ?_
  refine wq_seq ?_
  refine wc_seq ?_
  refine wc_seq ?_
  refine wc_region ?_
  refine wl_val (r_move rfl) (ltn rfl) ?_
  refine wl_val (r_lenR (hv _ (H)) Tryd.underlying39 rfl) (ltn rfl) ?_
  refine wl_val (r_eql rfl rfl) (ltn rfl) ?_
  refine wl_nil ?_
  refine wq_seq ?_
  refine wc_cond rfl (fun h1 => ?_) (fun h1 => ?_)
  · (try simp only [beq_iff_eq, bne_iff_ne, ne_eq, decide_eq_true_eq, decide_eq_false_iff_not, beq_eq_false_iff_ne, bne_eq_false_iff_eq, Bool.not_eq_true', Bool.not_eq_false', Bool.not_eq_eq_eq_not, Bool.not_true, Bool.not_false, gt_iff_lt, ge_iff_le, Int.not_lt, Int.not_le] at h1)
    
    refine wc_seq ?_
    refine wc_region ?_
    refine wl_val (r_assign rfl) (ltn rfl) ?_
    refine wl_val (r_assign rfl) (ltn rfl) ?_
    refine wl_nil ?_
    refine wq_seq ?_
    refine wc_ret ?_
    refine wq_then_ret ?_
    refine wq_end2 (.inl rfl) Tryd.results50 rfl rfl ?_
    obtain rfl : b = [] := List.eq_nil_of_length_eq_zero (by omega)
    exact ⟨rfl, H⟩
  · (try simp only [beq_iff_eq, bne_iff_ne, ne_eq, decide_eq_true_eq, decide_eq_false_iff_not, beq_eq_false_iff_ne, bne_eq_false_iff_eq, Bool.not_eq_true', Bool.not_eq_false', Bool.not_eq_eq_eq_not, Bool.not_true, Bool.not_false, gt_iff_lt, ge_iff_le, Int.not_lt, Int.not_le] at h1)
    
    refine wc_skip ?_
    refine wq_seq ?_
    refine wc_seq ?_
    have hne : b ≠ [] := by rintro rfl; simp at h1
    refine wc_region ?_
    refine wl_val (r_move rfl) (ltn rfl) ?_
    obtain ⟨bv, ov, cv, ev⟩ := RdI.posV (hv _ (H)) (by omega)
    cases ev
    refine wl_val (r_index Tryd.underlying39 Tryd.sizeOf5 rfl rfl (by omega)) (ltn rfl) ?_
    refine wl_val (r_load (plain_of Tryd.underlying5 rfl) rfl (RdI.atC 0 (hv _ (H)) (by omega))) (ltn rfl) ?_
    refine wl_eff (e_call (r_call rfl Tryd.func56 rfl rfl) (need_ret (by omega))) (ltn rfl) ?_
    rintro _ _ ⟨rfl, rfl⟩
    refine wl_val (r_assign rfl) (ltn rfl) ?_
    refine wl_nil ?_
    refine wq_seq ?_
    refine wc_seq ?_
    refine wc_seq ?_
    refine wc_region ?_
    refine wl_val (r_move rfl) (ltn rfl) ?_
    refine wl_val (r_eql rfl rfl) (ltn rfl) ?_
    refine wl_nil ?_
    refine wq_seq ?_
    refine wc_cond rfl (fun h2 => ?_) (fun h2 => ?_)
    · (try simp only [beq_iff_eq, bne_iff_ne, ne_eq, decide_eq_true_eq, decide_eq_false_iff_not, beq_eq_false_iff_ne, bne_eq_false_iff_eq, Bool.not_eq_true', Bool.not_eq_false', Bool.not_eq_eq_eq_not, Bool.not_true, Bool.not_false, gt_iff_lt, ge_iff_le, Int.not_lt, Int.not_le] at h2)
      
      refine wc_seq ?_
      refine wc_region ?_
      refine wl_val (r_assign rfl) (ltn rfl) ?_
      refine wl_val (r_assign rfl) (ltn rfl) ?_
      refine wl_nil ?_
      refine wq_seq ?_
      refine wc_ret ?_
      refine wq_then_ret ?_
      refine wq_end2 (.inl rfl) Tryd.results50 rfl rfl ?_
      exact ⟨by rw [headM_none (by omega)]; rfl, H⟩
    · (try simp only [beq_iff_eq, bne_iff_ne, ne_eq, decide_eq_true_eq, decide_eq_false_iff_not, beq_eq_false_iff_ne, bne_eq_false_iff_eq, Bool.not_eq_true', Bool.not_eq_false', Bool.not_eq_eq_eq_not, Bool.not_true, Bool.not_false, gt_iff_lt, ge_iff_le, Int.not_lt, Int.not_le] at h2)
      
      refine wc_skip ?_
      refine wq_seq ?_
      refine wc_seq ?_
      refine wc_region ?_
      refine wl_val (r_assign rfl) (ltn rfl) ?_
      refine wl_nil ?_
      refine wq_seq ?_
      refine wc_seq ?_
      refine wc_block ?_
      refine wc_loop [(0, _), (4, _)] (fun (k : Nat) => [(5, .int .i64 (k : Int))]) (fun (k : Nat) W => (1 ≤ k ∧ k ≤ needM (b.getD 0 0) ∧ k ≤ b.length ∧ goodB b k = true) ∧ Holds w0 W F) (fun (k : Nat) => needM (b.getD 0 0) - k) (1) (Sub.cons rfl (Sub.cons rfl (Sub.nil _))) (Sub.cons rfl (Sub.nil _)) ⟨⟨by omega, by omega, by omega, rfl⟩, H⟩ ?_
      rintro k w2 ⟨⟨k1, k2, k3, k4⟩, HL⟩
      dsimp only [List.cons_append, List.nil_append]
      refine wc_seq ?_
      refine wc_seq ?_
      refine wc_region ?_
      refine wl_val (r_move rfl) (ltn rfl) ?_
      refine wl_val (r_move rfl) (ltn rfl) ?_
      refine wl_val (r_lss rfl rfl) (ltn rfl) ?_
      refine wl_split rfl (ltn rfl) (fun h3 => ?_) (fun h3 => ?_)
      · (try simp only [beq_iff_eq, bne_iff_ne, ne_eq, decide_eq_true_eq, decide_eq_false_iff_not, beq_eq_false_iff_ne, bne_eq_false_iff_eq, Bool.not_eq_true', Bool.not_eq_false', Bool.not_eq_eq_eq_not, Bool.not_true, Bool.not_false, gt_iff_lt, ge_iff_le, Int.not_lt, Int.not_le] at h3)
        refine wl_yes rfl rfl ?_
        refine wl_val (r_move rfl) (ltn rfl) ?_
        refine wl_yes rfl rfl ?_
        refine wl_val (r_move rfl) (ltn rfl) ?_
        refine wl_yes rfl rfl ?_
        refine wl_val (r_len Tryd.underlying39 rfl) (ltn rfl) ?_
        refine wl_yes rfl rfl ?_
        refine wl_val (r_lss rfl rfl) (ltn rfl) ?_
        refine wl_val (r_pick_t rfl rfl) (ltn rfl) ?_
        refine wl_nil ?_
        refine wq_seq ?_
        refine wc_cond rfl (fun h4 => ?_) (fun h4 => ?_)
        · (try simp only [beq_iff_eq, bne_iff_ne, ne_eq, decide_eq_true_eq, decide_eq_false_iff_not, beq_eq_false_iff_ne, bne_eq_false_iff_eq, Bool.not_eq_true', Bool.not_eq_false', Bool.not_eq_eq_eq_not, Bool.not_true, Bool.not_false, gt_iff_lt, ge_iff_le, Int.not_lt, Int.not_le] at h4)
          
          refine wc_skip ?_
          refine wq_seq ?_
          refine wc_block ?_
          refine wc_seq ?_
          refine wc_seq ?_
          have hk1 : k < needM (b.getD 0 0) := by omega
          have hk2 : k < b.length := by omega
          have H8d2 := HL.drew
          have hS8d2 := Holds.kp (H8d2)
          refine wd_beginK [5, 8, 16, 23] hS8d2 (by kernel_rfl) (by kernel_rfl) rfl ?_
          refine wd_takeT 0 rfl (by kernel_rfl) (by kernel_rfl) hS8d2 (fun _ => r_move rfl) (ltn rfl) ?_
          refine wd_takeT 1 rfl (by kernel_rfl) (by kernel_rfl) hS8d2 (fun _ => r_eql rfl rfl) (ltn rfl) ?_
          refine wd_split 2 rfl rfl (by kernel_rfl) (by kernel_rfl) hS8d2 (ltn rfl) (fun h5 => ?_) (fun h5 => ?_)
          · (try simp only [beq_iff_eq, bne_iff_ne, ne_eq, decide_eq_true_eq, decide_eq_false_iff_not, beq_eq_false_iff_ne, bne_eq_false_iff_eq, Bool.not_eq_true', Bool.not_eq_false', Bool.not_eq_eq_eq_not, Bool.not_true, Bool.not_false, gt_iff_lt, ge_iff_le, Int.not_lt, Int.not_le] at h5)
            refine wd_takeT_yes 3 rfl rfl rfl (by kernel_rfl) (by kernel_rfl) hS8d2 (fun _ => r_move rfl) (ltn rfl) ?_
            refine wd_takeT_yes 4 rfl rfl rfl (by kernel_rfl) (by kernel_rfl) hS8d2 (fun _ => r_index Tryd.underlying39 Tryd.sizeOf5 rfl rfl (by omega)) (ltn rfl) ?_
            refine wd_take_yes 5 rfl rfl rfl (by kernel_rfl) (by kernel_rfl) hS8d2 (by decide) (fun W hW => r_load (plain_of Tryd.underlying5 rfl) rfl (RdI.atC 0 (hv _ ((Kp.h hW))) (by omega))) (ltn rfl) ?_
            refine wd_takeT_yes 6 rfl rfl rfl (by kernel_rfl) (by kernel_rfl) hS8d2 (fun _ => r_move rfl) (ltn rfl) ?_
            refine wd_takeT_yes 7 rfl rfl rfl (by kernel_rfl) (by kernel_rfl) hS8d2 (fun _ => r_index Tryd.underlying39 Tryd.sizeOf5 rfl rfl (by omega)) (ltn rfl) ?_
            refine wd_take_yes 8 rfl rfl rfl (by kernel_rfl) (by kernel_rfl) hS8d2 (by decide) (fun W hW => r_load (plain_of Tryd.underlying5 rfl) rfl (RdI.atC 1 (hv _ ((Kp.h hW))) (by omega))) (ltn rfl) ?_
            refine wd_eff_yes 9 rfl rfl rfl (by kernel_rfl) (e_call (r_call rfl Tryd.func57 rfl rfl) (second_ret)) (ltn rfl) ?_
            rintro _ _ ⟨rfl, rfl⟩
            have hS3n := Holds.kp (H8d2)
            refine keepX hS3n (by kernel_rfl) ?_
            refine wd_takeT_yes 10 rfl rfl rfl (by kernel_rfl) (by kernel_rfl) hS3n (fun _ => r_not rfl) (ltn rfl) ?_
            refine wd_takeT 11 rfl (by kernel_rfl) (by kernel_rfl) hS3n (fun _ => r_pick_t rfl rfl) (ltn rfl) ?_
            refine wd_split 12 rfl rfl (by kernel_rfl) (by kernel_rfl) hS3n (ltn rfl) (fun h6 => ?_) (fun h6 => ?_)
            · (try simp only [beq_iff_eq, bne_iff_ne, ne_eq, decide_eq_true_eq, decide_eq_false_iff_not, beq_eq_false_iff_ne, bne_eq_false_iff_eq, Bool.not_eq_true', Bool.not_eq_false', Bool.not_eq_eq_eq_not, Bool.not_true, Bool.not_false, gt_iff_lt, ge_iff_le, Int.not_lt, Int.not_le] at h6)
              refine wd_no 13 rfl rfl rfl rfl (by kernel_rfl) (by kernel_rfl) hS3n (ltn rfl) ?_
              refine wd_no 14 rfl rfl rfl rfl (by kernel_rfl) (by kernel_rfl) hS3n (ltn rfl) ?_
              refine wd_no 15 rfl rfl rfl rfl (by kernel_rfl) (by kernel_rfl) hS3n (ltn rfl) ?_
              refine wd_no 16 rfl rfl rfl rfl (by kernel_rfl) (by kernel_rfl) hS3n (ltn rfl) ?_
              refine wd_no 17 rfl rfl rfl rfl (by kernel_rfl) (by kernel_rfl) hS3n (ltn rfl) ?_
              refine wd_takeT 18 rfl (by kernel_rfl) (by kernel_rfl) hS3n (fun _ => r_pick_t rfl rfl) (ltn rfl) ?_
              refine wd_takeT 19 rfl (by kernel_rfl) (by kernel_rfl) hS3n (fun _ => r_move rfl) (ltn rfl) ?_
              refine wd_no 20 rfl rfl rfl rfl (by kernel_rfl) (by kernel_rfl) hS3n (ltn rfl) ?_
              refine wd_no 21 rfl rfl rfl rfl (by kernel_rfl) (by kernel_rfl) hS3n (ltn rfl) ?_
              refine wd_no 22 rfl rfl rfl rfl (by kernel_rfl) (by kernel_rfl) hS3n (ltn rfl) ?_
              refine wd_no 23 rfl rfl rfl rfl (by kernel_rfl) (by kernel_rfl) hS3n (ltn rfl) ?_
              refine wd_no 24 rfl rfl rfl rfl (by kernel_rfl) (by kernel_rfl) hS3n (ltn rfl) ?_
              refine wd_takeT 25 rfl (by kernel_rfl) (by kernel_rfl) hS3n (fun _ => r_pick_t rfl rfl) (ltn rfl) ?_
              refine wd_done (by kernel_rfl) ?_
              refine wq_seq ?_
              refine wc_cond_t rfl ?_
              refine wc_seq ?_
              have hbad : okAt b k = false := by first | exact notj k1 (by omega) | (obtain rfl : k = 1 := (by omega); exact not1 (by omega))
              refine wc_region ?_
              refine wl_val (r_move rfl) (ltn rfl) ?_
              refine wl_val (r_assign rfl) (ltn rfl) ?_
              refine wl_val (r_assign rfl) (ltn rfl) ?_
              refine wl_nil ?_
              refine wq_seq ?_
              refine wc_ret ?_
              refine wq_then_ret ?_
              refine wq_block_ret ?_
              refine wq_then_ret ?_
              refine wq_block_ret ?_
              refine wq_then_ret ?_
              refine wq_end2 (.inl rfl) Tryd.results50 rfl rfl ?_
              exact ⟨by rw [headM_bad hk1 hbad hk2]; rfl, H8d2⟩
            · (try simp only [beq_iff_eq, bne_iff_ne, ne_eq, decide_eq_true_eq, decide_eq_false_iff_not, beq_eq_false_iff_ne, bne_eq_false_iff_eq, Bool.not_eq_true', Bool.not_eq_false', Bool.not_eq_eq_eq_not, Bool.not_true, Bool.not_false, gt_iff_lt, ge_iff_le, Int.not_lt, Int.not_le] at h6)
              refine wd_takeT_yes 13 rfl rfl rfl (by kernel_rfl) (by kernel_rfl) hS3n (fun _ => r_move rfl) (ltn rfl) ?_
              refine wd_takeT_yes 14 rfl rfl rfl (by kernel_rfl) (by kernel_rfl) hS3n (fun _ => r_move rfl) (ltn rfl) ?_
              refine wd_takeT_yes 15 rfl rfl rfl (by kernel_rfl) (by kernel_rfl) hS3n (fun _ => r_index Tryd.underlying39 Tryd.sizeOf5 rfl rfl (by omega)) (ltn rfl) ?_
              refine wd_take_yes 16 rfl rfl rfl (by kernel_rfl) (by kernel_rfl) hS3n (by decide) (fun W hW => r_load (plain_of Tryd.underlying5 rfl) rfl (by first | exact RdI.at1n (hv _ ((Kp.h hW))) (by omega) | exact RdI.at0 (hv _ ((Kp.h hW))) (by omega) | exact RdI.at1 (hv _ ((Kp.h hW))) (by omega))) (ltn rfl) ?_
              refine wd_takeT_yes 17 rfl rfl rfl (by kernel_rfl) (by kernel_rfl) hS3n (fun _ => r_lss rfl rfl) (ltn rfl) ?_
              refine wd_takeT 18 rfl (by kernel_rfl) (by kernel_rfl) hS3n (fun _ => r_pick_f rfl rfl) (ltn rfl) ?_
              refine wd_split 19 rfl rfl (by kernel_rfl) (by kernel_rfl) hS3n (ltn rfl) (fun h7 => ?_) (fun h7 => ?_)
              · (try simp only [beq_iff_eq, bne_iff_ne, ne_eq, decide_eq_true_eq, decide_eq_false_iff_not, beq_eq_false_iff_ne, bne_eq_false_iff_eq, Bool.not_eq_true', Bool.not_eq_false', Bool.not_eq_eq_eq_not, Bool.not_true, Bool.not_false, gt_iff_lt, ge_iff_le, Int.not_lt, Int.not_le] at h7)
                refine wd_no 20 rfl rfl rfl rfl (by kernel_rfl) (by kernel_rfl) hS3n (ltn rfl) ?_
                refine wd_no 21 rfl rfl rfl rfl (by kernel_rfl) (by kernel_rfl) hS3n (ltn rfl) ?_
                refine wd_no 22 rfl rfl rfl rfl (by kernel_rfl) (by kernel_rfl) hS3n (ltn rfl) ?_
                refine wd_no 23 rfl rfl rfl rfl (by kernel_rfl) (by kernel_rfl) hS3n (ltn rfl) ?_
                refine wd_no 24 rfl rfl rfl rfl (by kernel_rfl) (by kernel_rfl) hS3n (ltn rfl) ?_
                refine wd_takeT 25 rfl (by kernel_rfl) (by kernel_rfl) hS3n (fun _ => r_pick_t rfl rfl) (ltn rfl) ?_
                refine wd_done (by kernel_rfl) ?_
                refine wq_seq ?_
                refine wc_cond_t rfl ?_
                refine wc_seq ?_
                have hbad : okAt b k = false := by first | exact notj k1 (by omega) | (obtain rfl : k = 1 := (by omega); exact not1 (by omega))
                refine wc_region ?_
                refine wl_val (r_move rfl) (ltn rfl) ?_
                refine wl_val (r_assign rfl) (ltn rfl) ?_
                refine wl_val (r_assign rfl) (ltn rfl) ?_
                refine wl_nil ?_
                refine wq_seq ?_
                refine wc_ret ?_
                refine wq_then_ret ?_
                refine wq_block_ret ?_
                refine wq_then_ret ?_
                refine wq_block_ret ?_
                refine wq_then_ret ?_
                refine wq_end2 (.inl rfl) Tryd.results50 rfl rfl ?_
                exact ⟨by rw [headM_bad hk1 hbad hk2]; rfl, H8d2⟩
              · (try simp only [beq_iff_eq, bne_iff_ne, ne_eq, decide_eq_true_eq, decide_eq_false_iff_not, beq_eq_false_iff_ne, bne_eq_false_iff_eq, Bool.not_eq_true', Bool.not_eq_false', Bool.not_eq_eq_eq_not, Bool.not_true, Bool.not_false, gt_iff_lt, ge_iff_le, Int.not_lt, Int.not_le] at h7)
                refine wd_takeT_yes 20 rfl rfl rfl (by kernel_rfl) (by kernel_rfl) hS3n (fun _ => r_move rfl) (ltn rfl) ?_
                refine wd_takeT_yes 21 rfl rfl rfl (by kernel_rfl) (by kernel_rfl) hS3n (fun _ => r_move rfl) (ltn rfl) ?_
                refine wd_takeT_yes 22 rfl rfl rfl (by kernel_rfl) (by kernel_rfl) hS3n (fun _ => r_index Tryd.underlying39 Tryd.sizeOf5 rfl rfl (by omega)) (ltn rfl) ?_
                refine wd_take_yes 23 rfl rfl rfl (by kernel_rfl) (by kernel_rfl) hS3n (by decide) (fun W hW => r_load (plain_of Tryd.underlying5 rfl) rfl (by first | exact RdI.at1n (hv _ ((Kp.h hW))) (by omega) | exact RdI.at0 (hv _ ((Kp.h hW))) (by omega) | exact RdI.at1 (hv _ ((Kp.h hW))) (by omega))) (ltn rfl) ?_
                refine wd_takeT_yes 24 rfl rfl rfl (by kernel_rfl) (by kernel_rfl) hS3n (fun _ => r_gtr rfl rfl) (ltn rfl) ?_
                refine wd_takeT 25 rfl (by kernel_rfl) (by kernel_rfl) hS3n (fun _ => r_pick_f rfl rfl) (ltn rfl) ?_
                refine wd_done (by kernel_rfl) ?_
                refine wq_seq ?_
                refine wc_cond rfl (fun h8 => ?_) (fun h8 => ?_)
                · (try simp only [beq_iff_eq, bne_iff_ne, ne_eq, decide_eq_true_eq, decide_eq_false_iff_not, beq_eq_false_iff_ne, bne_eq_false_iff_eq, Bool.not_eq_true', Bool.not_eq_false', Bool.not_eq_eq_eq_not, Bool.not_true, Bool.not_false, gt_iff_lt, ge_iff_le, Int.not_lt, Int.not_le] at h8)
                  
                  refine wc_seq ?_
                  have hbad : okAt b k = false := by first | exact notj k1 (by omega) | (obtain rfl : k = 1 := (by omega); exact not1 (by omega))
                  refine wc_region ?_
                  refine wl_val (r_move rfl) (ltn rfl) ?_
                  refine wl_val (r_assign rfl) (ltn rfl) ?_
                  refine wl_val (r_assign rfl) (ltn rfl) ?_
                  refine wl_nil ?_
                  refine wq_seq ?_
                  refine wc_ret ?_
                  refine wq_then_ret ?_
                  refine wq_block_ret ?_
                  refine wq_then_ret ?_
                  refine wq_block_ret ?_
                  refine wq_then_ret ?_
                  refine wq_end2 (.inl rfl) Tryd.results50 rfl rfl ?_
                  exact ⟨by rw [headM_bad hk1 hbad hk2]; rfl, H8d2⟩
                · (try simp only [beq_iff_eq, bne_iff_ne, ne_eq, decide_eq_true_eq, decide_eq_false_iff_not, beq_eq_false_iff_ne, bne_eq_false_iff_eq, Bool.not_eq_true', Bool.not_eq_false', Bool.not_eq_eq_eq_not, Bool.not_true, Bool.not_false, gt_iff_lt, ge_iff_le, Int.not_lt, Int.not_le] at h8)
                  
                  refine wc_skip ?_
                  refine wq_seq ?_
                  have hok : okAt b k = true := by first | exact okj (by omega) (by omega) | (obtain rfl : k = 1 := (by omega); exact ok1 (by omega) (by omega))
                  have hgood : goodB b (k + 1) = true := by simp only [goodB, k4, hok, Bool.and_true]
                  refine wc_region ?_
                  refine wl_val (r_move rfl) (ltn rfl) ?_
                  refine wl_val (r_add rfl rfl (by omega)) (ltn rfl) ?_
                  refine wl_val (r_assign rfl) (ltn rfl) ?_
                  refine wl_nil ?_
                  refine wq_block_normal ?_
                  refine wq_round (k + 1) ?_ ?_ ?_ ?_
                  · exact (Sub.cons rfl (Sub.nil _))
                  · exact (Sub.cons rfl (Sub.cons rfl (Sub.nil _)))
                  · (try dsimp only)
                    exact ⟨⟨by omega, by omega, by omega, hgood⟩, H8d2⟩
                  · (try dsimp only); omega
          · (try simp only [beq_iff_eq, bne_iff_ne, ne_eq, decide_eq_true_eq, decide_eq_false_iff_not, beq_eq_false_iff_ne, bne_eq_false_iff_eq, Bool.not_eq_true', Bool.not_eq_false', Bool.not_eq_eq_eq_not, Bool.not_true, Bool.not_false, gt_iff_lt, ge_iff_le, Int.not_lt, Int.not_le] at h5)
            refine wd_no 3 rfl rfl rfl rfl (by kernel_rfl) (by kernel_rfl) hS8d2 (ltn rfl) ?_
            refine wd_no 4 rfl rfl rfl rfl (by kernel_rfl) (by kernel_rfl) hS8d2 (ltn rfl) ?_
            refine wd_no 5 rfl rfl rfl rfl (by kernel_rfl) (by kernel_rfl) hS8d2 (ltn rfl) ?_
            refine wd_no 6 rfl rfl rfl rfl (by kernel_rfl) (by kernel_rfl) hS8d2 (ltn rfl) ?_
            refine wd_no 7 rfl rfl rfl rfl (by kernel_rfl) (by kernel_rfl) hS8d2 (ltn rfl) ?_
            refine wd_no 8 rfl rfl rfl rfl (by kernel_rfl) (by kernel_rfl) hS8d2 (ltn rfl) ?_
            refine wd_no 9 rfl rfl rfl rfl (by kernel_rfl) (by kernel_rfl) hS8d2 (ltn rfl) ?_
            refine wd_no 10 rfl rfl rfl rfl (by kernel_rfl) (by kernel_rfl) hS8d2 (ltn rfl) ?_
            refine wd_takeT 11 rfl (by kernel_rfl) (by kernel_rfl) hS8d2 (fun _ => r_pick_f rfl rfl) (ltn rfl) ?_
            refine wd_takeT 12 rfl (by kernel_rfl) (by kernel_rfl) hS8d2 (fun _ => r_move rfl) (ltn rfl) ?_
            refine wd_takeT_yes 13 rfl rfl rfl (by kernel_rfl) (by kernel_rfl) hS8d2 (fun _ => r_move rfl) (ltn rfl) ?_
            refine wd_takeT_yes 14 rfl rfl rfl (by kernel_rfl) (by kernel_rfl) hS8d2 (fun _ => r_move rfl) (ltn rfl) ?_
            refine wd_takeT_yes 15 rfl rfl rfl (by kernel_rfl) (by kernel_rfl) hS8d2 (fun _ => r_index Tryd.underlying39 Tryd.sizeOf5 rfl rfl (by omega)) (ltn rfl) ?_
            refine wd_take_yes 16 rfl rfl rfl (by kernel_rfl) (by kernel_rfl) hS8d2 (by decide) (fun W hW => r_load (plain_of Tryd.underlying5 rfl) rfl (by first | exact RdI.at1n (hv _ ((Kp.h hW))) (by omega) | exact RdI.at0 (hv _ ((Kp.h hW))) (by omega) | exact RdI.at1 (hv _ ((Kp.h hW))) (by omega))) (ltn rfl) ?_
            refine wd_takeT_yes 17 rfl rfl rfl (by kernel_rfl) (by kernel_rfl) hS8d2 (fun _ => r_lss rfl rfl) (ltn rfl) ?_
            refine wd_takeT 18 rfl (by kernel_rfl) (by kernel_rfl) hS8d2 (fun _ => r_pick_f rfl rfl) (ltn rfl) ?_
            refine wd_split 19 rfl rfl (by kernel_rfl) (by kernel_rfl) hS8d2 (ltn rfl) (fun h9 => ?_) (fun h9 => ?_)
            · (try simp only [beq_iff_eq, bne_iff_ne, ne_eq, decide_eq_true_eq, decide_eq_false_iff_not, beq_eq_false_iff_ne, bne_eq_false_iff_eq, Bool.not_eq_true', Bool.not_eq_false', Bool.not_eq_eq_eq_not, Bool.not_true, Bool.not_false, gt_iff_lt, ge_iff_le, Int.not_lt, Int.not_le] at h9)
              refine wd_no 20 rfl rfl rfl rfl (by kernel_rfl) (by kernel_rfl) hS8d2 (ltn rfl) ?_
              refine wd_no 21 rfl rfl rfl rfl (by kernel_rfl) (by kernel_rfl) hS8d2 (ltn rfl) ?_
              refine wd_no 22 rfl rfl rfl rfl (by kernel_rfl) (by kernel_rfl) hS8d2 (ltn rfl) ?_
              refine wd_no 23 rfl rfl rfl rfl (by kernel_rfl) (by kernel_rfl) hS8d2 (ltn rfl) ?_
              refine wd_no 24 rfl rfl rfl rfl (by kernel_rfl) (by kernel_rfl) hS8d2 (ltn rfl) ?_
              refine wd_takeT 25 rfl (by kernel_rfl) (by kernel_rfl) hS8d2 (fun _ => r_pick_t rfl rfl) (ltn rfl) ?_
              refine wd_done (by kernel_rfl) ?_
              refine wq_seq ?_
              refine wc_cond_t rfl ?_
              refine wc_seq ?_
              have hbad : okAt b k = false := by first | exact notj k1 (by omega) | (obtain rfl : k = 1 := (by omega); exact not1 (by omega))
              refine wc_region ?_
              refine wl_val (r_move rfl) (ltn rfl) ?_
              refine wl_val (r_assign rfl) (ltn rfl) ?_
              refine wl_val (r_assign rfl) (ltn rfl) ?_
              refine wl_nil ?_
              refine wq_seq ?_
              refine wc_ret ?_
              refine wq_then_ret ?_
              refine wq_block_ret ?_
              refine wq_then_ret ?_
              refine wq_block_ret ?_
              refine wq_then_ret ?_
              refine wq_end2 (.inl rfl) Tryd.results50 rfl rfl ?_
              exact ⟨by rw [headM_bad hk1 hbad hk2]; rfl, H8d2⟩
            · (try simp only [beq_iff_eq, bne_iff_ne, ne_eq, decide_eq_true_eq, decide_eq_false_iff_not, beq_eq_false_iff_ne, bne_eq_false_iff_eq, Bool.not_eq_true', Bool.not_eq_false', Bool.not_eq_eq_eq_not, Bool.not_true, Bool.not_false, gt_iff_lt, ge_iff_le, Int.not_lt, Int.not_le] at h9)
              refine wd_takeT_yes 20 rfl rfl rfl (by kernel_rfl) (by kernel_rfl) hS8d2 (fun _ => r_move rfl) (ltn rfl) ?_
              refine wd_takeT_yes 21 rfl rfl rfl (by kernel_rfl) (by kernel_rfl) hS8d2 (fun _ => r_move rfl) (ltn rfl) ?_
              refine wd_takeT_yes 22 rfl rfl rfl (by kernel_rfl) (by kernel_rfl) hS8d2 (fun _ => r_index Tryd.underlying39 Tryd.sizeOf5 rfl rfl (by omega)) (ltn rfl) ?_
              refine wd_take_yes 23 rfl rfl rfl (by kernel_rfl) (by kernel_rfl) hS8d2 (by decide) (fun W hW => r_load (plain_of Tryd.underlying5 rfl) rfl (by first | exact RdI.at1n (hv _ ((Kp.h hW))) (by omega) | exact RdI.at0 (hv _ ((Kp.h hW))) (by omega) | exact RdI.at1 (hv _ ((Kp.h hW))) (by omega))) (ltn rfl) ?_
              refine wd_takeT_yes 24 rfl rfl rfl (by kernel_rfl) (by kernel_rfl) hS8d2 (fun _ => r_gtr rfl rfl) (ltn rfl) ?_
              refine wd_takeT 25 rfl (by kernel_rfl) (by kernel_rfl) hS8d2 (fun _ => r_pick_f rfl rfl) (ltn rfl) ?_
              refine wd_done (by kernel_rfl) ?_
              refine wq_seq ?_
              refine wc_cond rfl (fun h10 => ?_) (fun h10 => ?_)
              · (try simp only [beq_iff_eq, bne_iff_ne, ne_eq, decide_eq_true_eq, decide_eq_false_iff_not, beq_eq_false_iff_ne, bne_eq_false_iff_eq, Bool.not_eq_true', Bool.not_eq_false', Bool.not_eq_eq_eq_not, Bool.not_true, Bool.not_false, gt_iff_lt, ge_iff_le, Int.not_lt, Int.not_le] at h10)
                
                refine wc_seq ?_
                have hbad : okAt b k = false := by first | exact notj k1 (by omega) | (obtain rfl : k = 1 := (by omega); exact not1 (by omega))
                refine wc_region ?_
                refine wl_val (r_move rfl) (ltn rfl) ?_
                refine wl_val (r_assign rfl) (ltn rfl) ?_
                refine wl_val (r_assign rfl) (ltn rfl) ?_
                refine wl_nil ?_
                refine wq_seq ?_
                refine wc_ret ?_
                refine wq_then_ret ?_
                refine wq_block_ret ?_
                refine wq_then_ret ?_
                refine wq_block_ret ?_
                refine wq_then_ret ?_
                refine wq_end2 (.inl rfl) Tryd.results50 rfl rfl ?_
                exact ⟨by rw [headM_bad hk1 hbad hk2]; rfl, H8d2⟩
              · (try simp only [beq_iff_eq, bne_iff_ne, ne_eq, decide_eq_true_eq, decide_eq_false_iff_not, beq_eq_false_iff_ne, bne_eq_false_iff_eq, Bool.not_eq_true', Bool.not_eq_false', Bool.not_eq_eq_eq_not, Bool.not_true, Bool.not_false, gt_iff_lt, ge_iff_le, Int.not_lt, Int.not_le] at h10)
                
                refine wc_skip ?_
                refine wq_seq ?_
                have hok : okAt b k = true := by first | exact okj (by omega) (by omega) | (obtain rfl : k = 1 := (by omega); exact ok1 (by omega) (by omega))
                have hgood : goodB b (k + 1) = true := by simp only [goodB, k4, hok, Bool.and_true]
                refine wc_region ?_
                refine wl_val (r_move rfl) (ltn rfl) ?_
                refine wl_val (r_add rfl rfl (by omega)) (ltn rfl) ?_
                refine wl_val (r_assign rfl) (ltn rfl) ?_
                refine wl_nil ?_
                refine wq_block_normal ?_
                refine wq_round (k + 1) ?_ ?_ ?_ ?_
                · exact (Sub.cons rfl (Sub.nil _))
                · exact (Sub.cons rfl (Sub.cons rfl (Sub.nil _)))
                · (try dsimp only)
                  exact ⟨⟨by omega, by omega, by omega, hgood⟩, H8d2⟩
                · (try dsimp only); omega
        · (try simp only [beq_iff_eq, bne_iff_ne, ne_eq, decide_eq_true_eq, decide_eq_false_iff_not, beq_eq_false_iff_ne, bne_eq_false_iff_eq, Bool.not_eq_true', Bool.not_eq_false', Bool.not_eq_eq_eq_not, Bool.not_true, Bool.not_false, gt_iff_lt, ge_iff_le, Int.not_lt, Int.not_le] at h4)
          
          refine wc_exit ?_
          refine wq_then_exit ?_
          refine wq_then_exit ?_
          refine wq_block_hit ?_
          refine wq_seq ?_
          refine wc_seq ?_
          refine wc_region ?_
          refine wl_val (r_move rfl) (ltn rfl) ?_
          refine wl_val (r_move rfl) (ltn rfl) ?_
          refine wl_val (r_assign rfl) (ltn rfl) ?_
          refine wl_val (r_assign rfl) (ltn rfl) ?_
          refine wl_nil ?_
          refine wq_seq ?_
          refine wc_ret ?_
          refine wq_end2 (.inl rfl) Tryd.results50 rfl rfl ?_
          refine ⟨?_, HL⟩
          have hm : min (needM (b.getD 0 0)) b.length = k := by omega
          rw [headM_ok hne (by omega) (by rw [hm]; exact k4), hm]
      · (try simp only [beq_iff_eq, bne_iff_ne, ne_eq, decide_eq_true_eq, decide_eq_false_iff_not, beq_eq_false_iff_ne, bne_eq_false_iff_eq, Bool.not_eq_true', Bool.not_eq_false', Bool.not_eq_eq_eq_not, Bool.not_true, Bool.not_false, gt_iff_lt, ge_iff_le, Int.not_lt, Int.not_le] at h3)
        refine wl_no rfl rfl rfl (ltn rfl) ?_
        refine wl_no rfl rfl rfl (ltn rfl) ?_
        refine wl_no rfl rfl rfl (ltn rfl) ?_
        refine wl_no rfl rfl rfl (ltn rfl) ?_
        refine wl_val (r_pick_f rfl rfl) (ltn rfl) ?_
        refine wl_nil ?_
        refine wq_seq ?_
        refine wc_cond_f rfl ?_
        refine wc_exit ?_
        refine wq_then_exit ?_
        refine wq_then_exit ?_
        refine wq_block_hit ?_
        refine wq_seq ?_
        refine wc_seq ?_
        refine wc_region ?_
        refine wl_val (r_move rfl) (ltn rfl) ?_
        refine wl_val (r_move rfl) (ltn rfl) ?_
        refine wl_val (r_assign rfl) (ltn rfl) ?_
        refine wl_val (r_assign rfl) (ltn rfl) ?_
        refine wl_nil ?_
        refine wq_seq ?_
        refine wc_ret ?_
        refine wq_end2 (.inl rfl) Tryd.results50 rfl rfl ?_
        refine ⟨?_, HL⟩
        have hm : min (needM (b.getD 0 0)) b.length = k := by omega
        rw [headM_ok hne (by omega) (by rw [hm]; exact k4), hm]
theorem value_ret (H : Holds w0 w F) (hv : FRdI w0 F .u8 v b) (hb : Byts b) (hl : 1 ≤ b.length ∧ b.length ≤ 4) : Ret Tryd.prog 51 #[v] w fun v' w' => v' = .int .i32 (valM b b.length) ∧ Holds w0 w' F := by
  have y0 := byt_at hb 0
  have y1 := byt_at hb 1
  have y2 := byt_at hb 2
  have y3 := byt_at hb 3
  refine ret_enter Tryd.func51 rfl Tryd.ntmps51 (Nat.le_of_ble_eq_true rfl) ?_
  dsimp only [slots0, Nat.reduceAdd]
  refine wc_seq ?_
  refine wc_region ?_
  refine wl_val (r_assign rfl) (ltn rfl) ?_
  refine wl_nil ?_
  refine wq_seq ?_
  refine wc_seq ?_
  refine wc_seq ?_
  refine wc_region ?_
  refine wl_val (r_move rfl) (ltn rfl) ?_
  refine wl_val (r_lenR (hv _ (H)) Tryd.underlying39 rfl) (ltn rfl) ?_
  refine wl_nil ?_
  refine wq_seq ?_
  refine wc_block ?_
  refine wc_seq ?_
  refine wc_region ?_
  refine wl_val (r_eql rfl rfl) (ltn rfl) ?_
  refine wl_val (r_assign rfl) (ltn rfl) ?_
  refine wl_nil ?_
  refine wq_seq ?_
  refine wc_cond rfl (fun h1 => ?_) (fun h1 => ?_)
  · (try simp only [beq_iff_eq, bne_iff_ne, ne_eq, decide_eq_true_eq, decide_eq_false_iff_not, beq_eq_false_iff_ne, bne_eq_false_iff_eq, Bool.not_eq_true', Bool.not_eq_false', Bool.not_eq_eq_eq_not, Bool.not_true, Bool.not_false, gt_iff_lt, ge_iff_le, Int.not_lt, Int.not_le] at h1)
    
    refine wc_seq ?_
    refine wc_region ?_
    refine wl_val (r_move rfl) (ltn rfl) ?_
    obtain ⟨bv, ov, cv, ev⟩ := RdI.posV (hv _ (H)) (by omega)
    cases ev
    refine wl_val (r_index Tryd.underlying39 Tryd.sizeOf5 rfl rfl (by omega)) (ltn rfl) ?_
    refine wl_val (r_load (plain_of Tryd.underlying5 rfl) rfl (RdI.atC 0 (hv _ (H)) (by omega))) (ltn rfl) ?_
    refine wl_val (r_conv_int rfl (by rw [Tryd.underlying5]; rfl) Tryd.underlying21 (fit_i32 (by omega))) (ltn rfl) ?_
    refine wl_val (r_assign rfl) (ltn rfl) ?_
    refine wl_nil ?_
    refine wq_seq ?_
    refine wc_ret ?_
    refine wq_block_ret ?_
    refine wq_then_ret ?_
    refine wq_end1 (.inl rfl) Tryd.results51 rfl ?_
    exact ⟨by unfold valM; rw [if_pos (by omega)], H⟩
  · (try simp only [beq_iff_eq, bne_iff_ne, ne_eq, decide_eq_true_eq, decide_eq_false_iff_not, beq_eq_false_iff_ne, bne_eq_false_iff_eq, Bool.not_eq_true', Bool.not_eq_false', Bool.not_eq_eq_eq_not, Bool.not_true, Bool.not_false, gt_iff_lt, ge_iff_le, Int.not_lt, Int.not_le] at h1)
    
    refine wc_seq ?_
    refine wc_region ?_
    refine wl_val (r_eql rfl rfl) (ltn rfl) ?_
    refine wl_val (r_assign rfl) (ltn rfl) ?_
    refine wl_nil ?_
    refine wq_seq ?_
    refine wc_cond rfl (fun h2 => ?_) (fun h2 => ?_)
    · (try simp only [beq_iff_eq, bne_iff_ne, ne_eq, decide_eq_true_eq, decide_eq_false_iff_not, beq_eq_false_iff_ne, bne_eq_false_iff_eq, Bool.not_eq_true', Bool.not_eq_false', Bool.not_eq_eq_eq_not, Bool.not_true, Bool.not_false, gt_iff_lt, ge_iff_le, Int.not_lt, Int.not_le] at h2)
      
      refine wc_seq ?_
      have H5d0 := H.drew
      have hS5d0 := Holds.kp (H5d0)
      refine wd_beginK [2, 8] hS5d0 (by kernel_rfl) (by kernel_rfl) rfl ?_
      refine wd_takeT 0 rfl (by kernel_rfl) (by kernel_rfl) hS5d0 (fun _ => r_move rfl) (ltn rfl) ?_
      obtain ⟨bv, ov, cv, ev⟩ := RdI.posV (hv _ (H5d0)) (by omega)
      cases ev
      refine wd_takeT 1 rfl (by kernel_rfl) (by kernel_rfl) hS5d0 (fun _ => r_index Tryd.underlying39 Tryd.sizeOf5 rfl rfl (by omega)) (ltn rfl) ?_
      refine wd_take 2 rfl (by kernel_rfl) (by kernel_rfl) hS5d0 (by decide) (fun W hW => r_load (plain_of Tryd.underlying5 rfl) rfl (RdI.atC 0 (hv _ ((Kp.h hW))) (by omega))) (ltn rfl) ?_
      refine wd_takeT 3 rfl (by kernel_rfl) (by kernel_rfl) hS5d0 (fun _ => r_and_u8 5 31 32 (by decide) (by decide) (by decide) rfl rfl (by omega)) (ltn rfl) ?_
      refine wd_takeT 4 rfl (by kernel_rfl) (by kernel_rfl) hS5d0 (fun _ => r_conv_int rfl (by rw [Tryd.underlying5]; rfl) Tryd.underlying21 (fit_i32 (by omega))) (ltn rfl) ?_
      refine wd_takeT 5 rfl (by kernel_rfl) (by kernel_rfl) hS5d0 (fun _ => r_shl 6 64 (by decide) (by decide) rfl rfl (fit_i32 (by omega))) (ltn rfl) ?_
      refine wd_takeT 6 rfl (by kernel_rfl) (by kernel_rfl) hS5d0 (fun _ => r_move rfl) (ltn rfl) ?_
      refine wd_takeT 7 rfl (by kernel_rfl) (by kernel_rfl) hS5d0 (fun _ => r_index Tryd.underlying39 Tryd.sizeOf5 rfl rfl (by omega)) (ltn rfl) ?_
      refine wd_take 8 rfl (by kernel_rfl) (by kernel_rfl) hS5d0 (by decide) (fun W hW => r_load (plain_of Tryd.underlying5 rfl) rfl (RdI.atC 1 (hv _ ((Kp.h hW))) (by omega))) (ltn rfl) ?_
      refine wd_takeT 9 rfl (by kernel_rfl) (by kernel_rfl) hS5d0 (fun _ => r_and_u8 6 63 64 (by decide) (by decide) (by decide) rfl rfl (by omega)) (ltn rfl) ?_
      refine wd_takeT 10 rfl (by kernel_rfl) (by kernel_rfl) hS5d0 (fun _ => r_conv_int rfl (by rw [Tryd.underlying5]; rfl) Tryd.underlying21 (fit_i32 (by omega))) (ltn rfl) ?_
      refine wd_takeT 11 rfl (by kernel_rfl) (by kernel_rfl) hS5d0 (fun _ => r_or_i32 6 64 (by decide) rfl rfl (by omega)) (ltn rfl) ?_
      refine wd_takeT 12 rfl (by kernel_rfl) (by kernel_rfl) hS5d0 (fun _ => r_assign rfl) (ltn rfl) ?_
      refine wd_done (by kernel_rfl) ?_
      refine wq_seq ?_
      refine wc_ret ?_
      refine wq_block_ret ?_
      refine wq_then_ret ?_
      refine wq_end1 (.inl rfl) Tryd.results51 rfl ?_
      exact ⟨by unfold valM; rw [if_neg (by omega), if_pos (by omega)], H5d0⟩
    · (try simp only [beq_iff_eq, bne_iff_ne, ne_eq, decide_eq_true_eq, decide_eq_false_iff_not, beq_eq_false_iff_ne, bne_eq_false_iff_eq, Bool.not_eq_true', Bool.not_eq_false', Bool.not_eq_eq_eq_not, Bool.not_true, Bool.not_false, gt_iff_lt, ge_iff_le, Int.not_lt, Int.not_le] at h2)
      
      refine wc_seq ?_
      refine wc_region ?_
      refine wl_val (r_eql rfl rfl) (ltn rfl) ?_
      refine wl_val (r_assign rfl) (ltn rfl) ?_
      refine wl_nil ?_
      refine wq_seq ?_
      refine wc_cond rfl (fun h3 => ?_) (fun h3 => ?_)
      · (try simp only [beq_iff_eq, bne_iff_ne, ne_eq, decide_eq_true_eq, decide_eq_false_iff_not, beq_eq_false_iff_ne, bne_eq_false_iff_eq, Bool.not_eq_true', Bool.not_eq_false', Bool.not_eq_eq_eq_not, Bool.not_true, Bool.not_false, gt_iff_lt, ge_iff_le, Int.not_lt, Int.not_le] at h3)
        
        refine wc_seq ?_
        have H7d0 := H.drew
        have hS7d0 := Holds.kp (H7d0)
        refine wd_beginK [2, 8, 15] hS7d0 (by kernel_rfl) (by kernel_rfl) rfl ?_
        refine wd_takeT 0 rfl (by kernel_rfl) (by kernel_rfl) hS7d0 (fun _ => r_move rfl) (ltn rfl) ?_
        obtain ⟨bv, ov, cv, ev⟩ := RdI.posV (hv _ (H7d0)) (by omega)
        cases ev
        refine wd_takeT 1 rfl (by kernel_rfl) (by kernel_rfl) hS7d0 (fun _ => r_index Tryd.underlying39 Tryd.sizeOf5 rfl rfl (by omega)) (ltn rfl) ?_
        refine wd_take 2 rfl (by kernel_rfl) (by kernel_rfl) hS7d0 (by decide) (fun W hW => r_load (plain_of Tryd.underlying5 rfl) rfl (RdI.atC 0 (hv _ ((Kp.h hW))) (by omega))) (ltn rfl) ?_
        refine wd_takeT 3 rfl (by kernel_rfl) (by kernel_rfl) hS7d0 (fun _ => r_and_u8 4 15 16 (by decide) (by decide) (by decide) rfl rfl (by omega)) (ltn rfl) ?_
        refine wd_takeT 4 rfl (by kernel_rfl) (by kernel_rfl) hS7d0 (fun _ => r_conv_int rfl (by rw [Tryd.underlying5]; rfl) Tryd.underlying21 (fit_i32 (by omega))) (ltn rfl) ?_
        refine wd_takeT 5 rfl (by kernel_rfl) (by kernel_rfl) hS7d0 (fun _ => r_shl 12 4096 (by decide) (by decide) rfl rfl (fit_i32 (by omega))) (ltn rfl) ?_
        refine wd_takeT 6 rfl (by kernel_rfl) (by kernel_rfl) hS7d0 (fun _ => r_move rfl) (ltn rfl) ?_
        refine wd_takeT 7 rfl (by kernel_rfl) (by kernel_rfl) hS7d0 (fun _ => r_index Tryd.underlying39 Tryd.sizeOf5 rfl rfl (by omega)) (ltn rfl) ?_
        refine wd_take 8 rfl (by kernel_rfl) (by kernel_rfl) hS7d0 (by decide) (fun W hW => r_load (plain_of Tryd.underlying5 rfl) rfl (RdI.atC 1 (hv _ ((Kp.h hW))) (by omega))) (ltn rfl) ?_
        refine wd_takeT 9 rfl (by kernel_rfl) (by kernel_rfl) hS7d0 (fun _ => r_and_u8 6 63 64 (by decide) (by decide) (by decide) rfl rfl (by omega)) (ltn rfl) ?_
        refine wd_takeT 10 rfl (by kernel_rfl) (by kernel_rfl) hS7d0 (fun _ => r_conv_int rfl (by rw [Tryd.underlying5]; rfl) Tryd.underlying21 (fit_i32 (by omega))) (ltn rfl) ?_
        refine wd_takeT 11 rfl (by kernel_rfl) (by kernel_rfl) hS7d0 (fun _ => r_shl 6 64 (by decide) (by decide) rfl rfl (fit_i32 (by omega))) (ltn rfl) ?_
        refine wd_takeT 12 rfl (by kernel_rfl) (by kernel_rfl) hS7d0 (fun _ => r_or_i32 12 4096 (by decide) rfl rfl (by omega)) (ltn rfl) ?_
        refine wd_takeT 13 rfl (by kernel_rfl) (by kernel_rfl) hS7d0 (fun _ => r_move rfl) (ltn rfl) ?_
        refine wd_takeT 14 rfl (by kernel_rfl) (by kernel_rfl) hS7d0 (fun _ => r_index Tryd.underlying39 Tryd.sizeOf5 rfl rfl (by omega)) (ltn rfl) ?_
        refine wd_take 15 rfl (by kernel_rfl) (by kernel_rfl) hS7d0 (by decide) (fun W hW => r_load (plain_of Tryd.underlying5 rfl) rfl (RdI.atC 2 (hv _ ((Kp.h hW))) (by omega))) (ltn rfl) ?_
        refine wd_takeT 16 rfl (by kernel_rfl) (by kernel_rfl) hS7d0 (fun _ => r_and_u8 6 63 64 (by decide) (by decide) (by decide) rfl rfl (by omega)) (ltn rfl) ?_
        refine wd_takeT 17 rfl (by kernel_rfl) (by kernel_rfl) hS7d0 (fun _ => r_conv_int rfl (by rw [Tryd.underlying5]; rfl) Tryd.underlying21 (fit_i32 (by omega))) (ltn rfl) ?_
        refine wd_takeT 18 rfl (by kernel_rfl) (by kernel_rfl) hS7d0 (fun _ => r_or_i32 6 64 (by decide) rfl rfl (by omega)) (ltn rfl) ?_
        refine wd_takeT 19 rfl (by kernel_rfl) (by kernel_rfl) hS7d0 (fun _ => r_assign rfl) (ltn rfl) ?_
        refine wd_done (by kernel_rfl) ?_
        refine wq_seq ?_
        refine wc_ret ?_
        refine wq_block_ret ?_
        refine wq_then_ret ?_
        refine wq_end1 (.inl rfl) Tryd.results51 rfl ?_
        exact ⟨by unfold valM; rw [if_neg (by omega), if_neg (by omega), if_pos (by omega)], H7d0⟩
      · (try simp only [beq_iff_eq, bne_iff_ne, ne_eq, decide_eq_true_eq, decide_eq_false_iff_not, beq_eq_false_iff_ne, bne_eq_false_iff_eq, Bool.not_eq_true', Bool.not_eq_false', Bool.not_eq_eq_eq_not, Bool.not_true, Bool.not_false, gt_iff_lt, ge_iff_le, Int.not_lt, Int.not_le] at h3)
        
        refine wc_skip ?_
        refine wq_block_normal ?_
        refine wq_seq ?_
        refine wc_seq ?_
        have H8d0 := H.drew
        have hS8d0 := Holds.kp (H8d0)
        refine wd_beginK [2, 8, 15, 22] hS8d0 (by kernel_rfl) (by kernel_rfl) rfl ?_
        refine wd_takeT 0 rfl (by kernel_rfl) (by kernel_rfl) hS8d0 (fun _ => r_move rfl) (ltn rfl) ?_
        obtain ⟨bv, ov, cv, ev⟩ := RdI.posV (hv _ (H8d0)) (by omega)
        cases ev
        refine wd_takeT 1 rfl (by kernel_rfl) (by kernel_rfl) hS8d0 (fun _ => r_index Tryd.underlying39 Tryd.sizeOf5 rfl rfl (by omega)) (ltn rfl) ?_
        refine wd_take 2 rfl (by kernel_rfl) (by kernel_rfl) hS8d0 (by decide) (fun W hW => r_load (plain_of Tryd.underlying5 rfl) rfl (RdI.atC 0 (hv _ ((Kp.h hW))) (by omega))) (ltn rfl) ?_
        refine wd_takeT 3 rfl (by kernel_rfl) (by kernel_rfl) hS8d0 (fun _ => r_and_u8 3 7 8 (by decide) (by decide) (by decide) rfl rfl (by omega)) (ltn rfl) ?_
        refine wd_takeT 4 rfl (by kernel_rfl) (by kernel_rfl) hS8d0 (fun _ => r_conv_int rfl (by rw [Tryd.underlying5]; rfl) Tryd.underlying21 (fit_i32 (by omega))) (ltn rfl) ?_
        refine wd_takeT 5 rfl (by kernel_rfl) (by kernel_rfl) hS8d0 (fun _ => r_shl 18 262144 (by decide) (by decide) rfl rfl (fit_i32 (by omega))) (ltn rfl) ?_
        refine wd_takeT 6 rfl (by kernel_rfl) (by kernel_rfl) hS8d0 (fun _ => r_move rfl) (ltn rfl) ?_
        refine wd_takeT 7 rfl (by kernel_rfl) (by kernel_rfl) hS8d0 (fun _ => r_index Tryd.underlying39 Tryd.sizeOf5 rfl rfl (by omega)) (ltn rfl) ?_
        refine wd_take 8 rfl (by kernel_rfl) (by kernel_rfl) hS8d0 (by decide) (fun W hW => r_load (plain_of Tryd.underlying5 rfl) rfl (RdI.atC 1 (hv _ ((Kp.h hW))) (by omega))) (ltn rfl) ?_
        refine wd_takeT 9 rfl (by kernel_rfl) (by kernel_rfl) hS8d0 (fun _ => r_and_u8 6 63 64 (by decide) (by decide) (by decide) rfl rfl (by omega)) (ltn rfl) ?_
        refine wd_takeT 10 rfl (by kernel_rfl) (by kernel_rfl) hS8d0 (fun _ => r_conv_int rfl (by rw [Tryd.underlying5]; rfl) Tryd.underlying21 (fit_i32 (by omega))) (ltn rfl) ?_
        refine wd_takeT 11 rfl (by kernel_rfl) (by kernel_rfl) hS8d0 (fun _ => r_shl 12 4096 (by decide) (by decide) rfl rfl (fit_i32 (by omega))) (ltn rfl) ?_
        refine wd_takeT 12 rfl (by kernel_rfl) (by kernel_rfl) hS8d0 (fun _ => r_or_i32 18 262144 (by decide) rfl rfl (by omega)) (ltn rfl) ?_
        refine wd_takeT 13 rfl (by kernel_rfl) (by kernel_rfl) hS8d0 (fun _ => r_move rfl) (ltn rfl) ?_
        refine wd_takeT 14 rfl (by kernel_rfl) (by kernel_rfl) hS8d0 (fun _ => r_index Tryd.underlying39 Tryd.sizeOf5 rfl rfl (by omega)) (ltn rfl) ?_
        refine wd_take 15 rfl (by kernel_rfl) (by kernel_rfl) hS8d0 (by decide) (fun W hW => r_load (plain_of Tryd.underlying5 rfl) rfl (RdI.atC 2 (hv _ ((Kp.h hW))) (by omega))) (ltn rfl) ?_
        refine wd_takeT 16 rfl (by kernel_rfl) (by kernel_rfl) hS8d0 (fun _ => r_and_u8 6 63 64 (by decide) (by decide) (by decide) rfl rfl (by omega)) (ltn rfl) ?_
        refine wd_takeT 17 rfl (by kernel_rfl) (by kernel_rfl) hS8d0 (fun _ => r_conv_int rfl (by rw [Tryd.underlying5]; rfl) Tryd.underlying21 (fit_i32 (by omega))) (ltn rfl) ?_
        refine wd_takeT 18 rfl (by kernel_rfl) (by kernel_rfl) hS8d0 (fun _ => r_shl 6 64 (by decide) (by decide) rfl rfl (fit_i32 (by omega))) (ltn rfl) ?_
        refine wd_takeT 19 rfl (by kernel_rfl) (by kernel_rfl) hS8d0 (fun _ => r_or_i32 12 4096 (by decide) rfl rfl (by omega)) (ltn rfl) ?_
        refine wd_takeT 20 rfl (by kernel_rfl) (by kernel_rfl) hS8d0 (fun _ => r_move rfl) (ltn rfl) ?_
        refine wd_takeT 21 rfl (by kernel_rfl) (by kernel_rfl) hS8d0 (fun _ => r_index Tryd.underlying39 Tryd.sizeOf5 rfl rfl (by omega)) (ltn rfl) ?_
        refine wd_take 22 rfl (by kernel_rfl) (by kernel_rfl) hS8d0 (by decide) (fun W hW => r_load (plain_of Tryd.underlying5 rfl) rfl (RdI.atC 3 (hv _ ((Kp.h hW))) (by omega))) (ltn rfl) ?_
        refine wd_takeT 23 rfl (by kernel_rfl) (by kernel_rfl) hS8d0 (fun _ => r_and_u8 6 63 64 (by decide) (by decide) (by decide) rfl rfl (by omega)) (ltn rfl) ?_
        refine wd_takeT 24 rfl (by kernel_rfl) (by kernel_rfl) hS8d0 (fun _ => r_conv_int rfl (by rw [Tryd.underlying5]; rfl) Tryd.underlying21 (fit_i32 (by omega))) (ltn rfl) ?_
        refine wd_takeT 25 rfl (by kernel_rfl) (by kernel_rfl) hS8d0 (fun _ => r_or_i32 6 64 (by decide) rfl rfl (by omega)) (ltn rfl) ?_
        refine wd_takeT 26 rfl (by kernel_rfl) (by kernel_rfl) hS8d0 (fun _ => r_assign rfl) (ltn rfl) ?_
        refine wd_done (by kernel_rfl) ?_
        refine wq_seq ?_
        refine wc_ret ?_
        refine wq_end1 (.inl rfl) Tryd.results51 rfl ?_
        exact ⟨by unfold valM; rw [if_neg (by omega), if_neg (by omega), if_neg (by omega)], H8d0⟩
theorem form_ret (H : Holds w0 w F) (hw : -2147483648 ≤ r ∧ r < 2147483648) : Ret Tryd.prog 44 #[.int .i32 r] w fun v' w' => Holds w0 w' (RowI 5 .u8 v' (Lib.encodeRuneZ r) • F) := by
  refine ret_enter Tryd.func44 rfl Tryd.ntmps44 (Nat.le_of_ble_eq_true rfl) ?_
  dsimp only [slots0, Nat.reduceAdd]
  refine wc_seq ?_
  refine wc_region ?_
  refine wl_val (r_assign rfl) (ltn rfl) ?_
  refine wl_nil ?_
  refine wq_seq ?_
  refine wc_join [] (fun (q : Int) => [(0, .int .i32 q)]) (fun (q : Int) W => ((0 ≤ q ∧ q < 55296 ∨ 57343 < q ∧ q ≤ 1114111) ∧ Lib.encodeRuneZ r = Lib.encodeRuneZ q) ∧ Holds w0 W F) (Sub.nil _) ?_ ?_
  · rintro q w1 ⟨⟨hq1, hq2⟩, HJ⟩
    dsimp only [List.cons_append, List.nil_append]
    rw [hq2]
    refine wc_seq ?_
    refine wc_block ?_
    refine wc_seq ?_
    refine wc_region ?_
    refine wl_val (r_move rfl) (ltn rfl) ?_
    refine wl_val (r_lss rfl rfl) (ltn rfl) ?_
    refine wl_val (r_assign rfl) (ltn rfl) ?_
    refine wl_nil ?_
    refine wq_seq ?_
    refine wc_cond rfl (fun h1 => ?_) (fun h1 => ?_)
    · (try simp only [beq_iff_eq, bne_iff_ne, ne_eq, decide_eq_true_eq, decide_eq_false_iff_not, beq_eq_false_iff_ne, bne_eq_false_iff_eq, Bool.not_eq_true', Bool.not_eq_false', Bool.not_eq_eq_eq_not, Bool.not_true, Bool.not_false, gt_iff_lt, ge_iff_le, Int.not_lt, Int.not_le] at h1)
      
      refine wc_seq ?_
      refine wc_region ?_
      refine wl_val (r_move rfl) (ltn rfl) ?_
      refine wl_val (r_conv_u8 rfl (by rw [Tryd.underlying21]; rfl) Tryd.underlying5) (ltn rfl) ?_
      refine wl_eff (e_lit_ints (k := .u8) (l := [_]) HJ Tryd.underlying39 Tryd.sizeOf5 Tryd.zeroValue5 rfl rfl rfl (by decide)) (ltn rfl) ?_
      rintro l2 w2 H2
      refine wl_val (r_assign rfl) (ltn rfl) ?_
      refine wl_nil ?_
      refine wq_seq ?_
      refine wc_ret ?_
      refine wq_block_ret ?_
      refine wq_then_ret ?_
      refine wq_end1 (.inl rfl) Tryd.results44 rfl ?_
      rw [Lib.encodeRuneZ_one (by omega) (by omega)]
      have HX := H2
      rw [show q % 256 = q from by omega] at HX
      exact HX
    · (try simp only [beq_iff_eq, bne_iff_ne, ne_eq, decide_eq_true_eq, decide_eq_false_iff_not, beq_eq_false_iff_ne, bne_eq_false_iff_eq, Bool.not_eq_true', Bool.not_eq_false', Bool.not_eq_eq_eq_not, Bool.not_true, Bool.not_false, gt_iff_lt, ge_iff_le, Int.not_lt, Int.not_le] at h1)
      
      refine wc_seq ?_
      refine wc_region ?_
      refine wl_val (r_move rfl) (ltn rfl) ?_
      refine wl_val (r_lss rfl rfl) (ltn rfl) ?_
      refine wl_val (r_assign rfl) (ltn rfl) ?_
      refine wl_nil ?_
      refine wq_seq ?_
      refine wc_cond rfl (fun h2 => ?_) (fun h2 => ?_)
      · (try simp only [beq_iff_eq, bne_iff_ne, ne_eq, decide_eq_true_eq, decide_eq_false_iff_not, beq_eq_false_iff_ne, bne_eq_false_iff_eq, Bool.not_eq_true', Bool.not_eq_false', Bool.not_eq_eq_eq_not, Bool.not_true, Bool.not_false, gt_iff_lt, ge_iff_le, Int.not_lt, Int.not_le] at h2)
        
        refine wc_seq ?_
        refine wc_region ?_
        refine wl_val (r_move rfl) (ltn rfl) ?_
        refine wl_val (r_shr 6 64 (by decide) (by decide) rfl rfl) (ltn rfl) ?_
        refine wl_val (r_conv_u8 rfl (by rw [Tryd.underlying21]; rfl) Tryd.underlying5) (ltn rfl) ?_
        refine wl_val (r_or_u8 6 64 (by decide) rfl rfl (by omega)) (ltn rfl) ?_
        refine wl_val (r_move rfl) (ltn rfl) ?_
        refine wl_val (r_and_i32 6 63 64 (by decide) (by decide) (by decide) rfl rfl (by omega)) (ltn rfl) ?_
        refine wl_val (r_conv_u8 rfl (by rw [Tryd.underlying21]; rfl) Tryd.underlying5) (ltn rfl) ?_
        refine wl_val (r_or_u8 7 128 (by decide) rfl rfl (by omega)) (ltn rfl) ?_
        refine wl_eff (e_lit_ints (k := .u8) (l := [_, _]) HJ Tryd.underlying39 Tryd.sizeOf5 Tryd.zeroValue5 rfl rfl rfl (by decide)) (ltn rfl) ?_
        rintro l3 w3 H3
        refine wl_val (r_assign rfl) (ltn rfl) ?_
        refine wl_nil ?_
        refine wq_seq ?_
        refine wc_ret ?_
        refine wq_block_ret ?_
        refine wq_then_ret ?_
        refine wq_end1 (.inl rfl) Tryd.results44 rfl ?_
        rw [Lib.encodeRuneZ_two (by omega) (by omega)]
        have HX := H3
        rw [show q / 64 % 256 = q / 64 from by omega, show q % 64 % 256 = q % 64 from by omega] at HX
        exact HX
      · (try simp only [beq_iff_eq, bne_iff_ne, ne_eq, decide_eq_true_eq, decide_eq_false_iff_not, beq_eq_false_iff_ne, bne_eq_false_iff_eq, Bool.not_eq_true', Bool.not_eq_false', Bool.not_eq_eq_eq_not, Bool.not_true, Bool.not_false, gt_iff_lt, ge_iff_le, Int.not_lt, Int.not_le] at h2)
        
        refine wc_seq ?_
        refine wc_region ?_
        refine wl_val (r_move rfl) (ltn rfl) ?_
        refine wl_val (r_lss rfl rfl) (ltn rfl) ?_
        refine wl_val (r_assign rfl) (ltn rfl) ?_
        refine wl_nil ?_
        refine wq_seq ?_
        refine wc_cond rfl (fun h3 => ?_) (fun h3 => ?_)
        · (try simp only [beq_iff_eq, bne_iff_ne, ne_eq, decide_eq_true_eq, decide_eq_false_iff_not, beq_eq_false_iff_ne, bne_eq_false_iff_eq, Bool.not_eq_true', Bool.not_eq_false', Bool.not_eq_eq_eq_not, Bool.not_true, Bool.not_false, gt_iff_lt, ge_iff_le, Int.not_lt, Int.not_le] at h3)
          
          refine wc_seq ?_
          refine wc_region ?_
          refine wl_val (r_move rfl) (ltn rfl) ?_
          refine wl_val (r_shr 12 4096 (by decide) (by decide) rfl rfl) (ltn rfl) ?_
          refine wl_val (r_conv_u8 rfl (by rw [Tryd.underlying21]; rfl) Tryd.underlying5) (ltn rfl) ?_
          refine wl_val (r_or_u8 5 32 (by decide) rfl rfl (by omega)) (ltn rfl) ?_
          refine wl_val (r_move rfl) (ltn rfl) ?_
          refine wl_val (r_shr 6 64 (by decide) (by decide) rfl rfl) (ltn rfl) ?_
          refine wl_val (r_and_i32 6 63 64 (by decide) (by decide) (by decide) rfl rfl (by omega)) (ltn rfl) ?_
          refine wl_val (r_conv_u8 rfl (by rw [Tryd.underlying21]; rfl) Tryd.underlying5) (ltn rfl) ?_
          refine wl_val (r_or_u8 7 128 (by decide) rfl rfl (by omega)) (ltn rfl) ?_
          refine wl_val (r_move rfl) (ltn rfl) ?_
          refine wl_val (r_and_i32 6 63 64 (by decide) (by decide) (by decide) rfl rfl (by omega)) (ltn rfl) ?_
          refine wl_val (r_conv_u8 rfl (by rw [Tryd.underlying21]; rfl) Tryd.underlying5) (ltn rfl) ?_
          refine wl_val (r_or_u8 7 128 (by decide) rfl rfl (by omega)) (ltn rfl) ?_
          refine wl_eff (e_lit_ints (k := .u8) (l := [_, _, _]) HJ Tryd.underlying39 Tryd.sizeOf5 Tryd.zeroValue5 rfl rfl rfl (by decide)) (ltn rfl) ?_
          rintro l4 w4 H4
          refine wl_val (r_assign rfl) (ltn rfl) ?_
          refine wl_nil ?_
          refine wq_seq ?_
          refine wc_ret ?_
          refine wq_block_ret ?_
          refine wq_then_ret ?_
          refine wq_end1 (.inl rfl) Tryd.results44 rfl ?_
          rw [Lib.encodeRuneZ_three (by omega)]
          have HX := H4
          rw [show q / 4096 % 256 = q / 4096 from by omega, show q / 64 % 64 % 256 = q / 64 % 64 from by omega, show q % 64 % 256 = q % 64 from by omega] at HX
          exact HX
        · (try simp only [beq_iff_eq, bne_iff_ne, ne_eq, decide_eq_true_eq, decide_eq_false_iff_not, beq_eq_false_iff_ne, bne_eq_false_iff_eq, Bool.not_eq_true', Bool.not_eq_false', Bool.not_eq_eq_eq_not, Bool.not_true, Bool.not_false, gt_iff_lt, ge_iff_le, Int.not_lt, Int.not_le] at h3)
          
          refine wc_skip ?_
          refine wq_block_normal ?_
          refine wq_seq ?_
          refine wc_seq ?_
          refine wc_region ?_
          refine wl_val (r_move rfl) (ltn rfl) ?_
          refine wl_val (r_shr 18 262144 (by decide) (by decide) rfl rfl) (ltn rfl) ?_
          refine wl_val (r_conv_u8 rfl (by rw [Tryd.underlying21]; rfl) Tryd.underlying5) (ltn rfl) ?_
          refine wl_val (r_or_u8 4 16 (by decide) rfl rfl (by omega)) (ltn rfl) ?_
          refine wl_val (r_move rfl) (ltn rfl) ?_
          refine wl_val (r_shr 12 4096 (by decide) (by decide) rfl rfl) (ltn rfl) ?_
          refine wl_val (r_and_i32 6 63 64 (by decide) (by decide) (by decide) rfl rfl (by omega)) (ltn rfl) ?_
          refine wl_val (r_conv_u8 rfl (by rw [Tryd.underlying21]; rfl) Tryd.underlying5) (ltn rfl) ?_
          refine wl_val (r_or_u8 7 128 (by decide) rfl rfl (by omega)) (ltn rfl) ?_
          refine wl_val (r_move rfl) (ltn rfl) ?_
          refine wl_val (r_shr 6 64 (by decide) (by decide) rfl rfl) (ltn rfl) ?_
          refine wl_val (r_and_i32 6 63 64 (by decide) (by decide) (by decide) rfl rfl (by omega)) (ltn rfl) ?_
          refine wl_val (r_conv_u8 rfl (by rw [Tryd.underlying21]; rfl) Tryd.underlying5) (ltn rfl) ?_
          refine wl_val (r_or_u8 7 128 (by decide) rfl rfl (by omega)) (ltn rfl) ?_
          refine wl_val (r_move rfl) (ltn rfl) ?_
          refine wl_val (r_and_i32 6 63 64 (by decide) (by decide) (by decide) rfl rfl (by omega)) (ltn rfl) ?_
          refine wl_val (r_conv_u8 rfl (by rw [Tryd.underlying21]; rfl) Tryd.underlying5) (ltn rfl) ?_
          refine wl_val (r_or_u8 7 128 (by decide) rfl rfl (by omega)) (ltn rfl) ?_
          refine wl_eff (e_lit_ints (k := .u8) (l := [_, _, _, _]) HJ Tryd.underlying39 Tryd.sizeOf5 Tryd.zeroValue5 rfl rfl rfl (by decide)) (ltn rfl) ?_
          rintro l5 w5 H5
          refine wl_val (r_assign rfl) (ltn rfl) ?_
          refine wl_nil ?_
          refine wq_seq ?_
          refine wc_ret ?_
          refine wq_end1 (.inl rfl) Tryd.results44 rfl ?_
          rw [Lib.encodeRuneZ_four (by omega) (by omega)]
          have HX := H5
          rw [show q / 262144 % 256 = q / 262144 from by omega, show q / 4096 % 64 % 256 = q / 4096 % 64 from by omega, show q / 64 % 64 % 256 = q / 64 % 64 from by omega, show q % 64 % 256 = q % 64 from by omega] at HX
          exact HX
  · skip
    refine wc_seq ?_
    refine wc_region ?_
    refine wl_val (r_move rfl) (ltn rfl) ?_
    refine wl_eff (e_call (r_call rfl Tryd.func18 rfl rfl) (ref_rune_ret)) (ltn rfl) ?_
    rintro _ _ ⟨rfl, rfl⟩
    refine wl_val (r_not rfl) (ltn rfl) ?_
    refine wl_nil ?_
    refine wq_seq ?_
    refine wc_cond rfl (fun h4 => ?_) (fun h4 => ?_)
    · (try simp only [beq_iff_eq, bne_iff_ne, ne_eq, decide_eq_true_eq, decide_eq_false_iff_not, beq_eq_false_iff_ne, bne_eq_false_iff_eq, Bool.not_eq_true', Bool.not_eq_false', Bool.not_eq_eq_eq_not, Bool.not_true, Bool.not_false, gt_iff_lt, ge_iff_le, Int.not_lt, Int.not_le] at h4)
      have hval : validM r = false := by simpa using h4
      refine wc_region ?_
      refine wl_val (r_assign rfl) (ltn rfl) ?_
      refine wl_nil ?_
      refine wq_join (_) (Sub.cons rfl (Sub.nil _)) (Sub.nil _) (by (try dsimp only); exact ⟨⟨by omega, by first | rfl | (rw [enc_valid hval]; rfl)⟩, H⟩)
    · (try simp only [beq_iff_eq, bne_iff_ne, ne_eq, decide_eq_true_eq, decide_eq_false_iff_not, beq_eq_false_iff_ne, bne_eq_false_iff_eq, Bool.not_eq_true', Bool.not_eq_false', Bool.not_eq_eq_eq_not, Bool.not_true, Bool.not_false, gt_iff_lt, ge_iff_le, Int.not_lt, Int.not_le] at h4)
      have hval : validM r = true := by simpa using h4
      have hval2 := hval
      unfold validM at hval2
      simp only [decide_eq_true_eq] at hval2
      refine wc_skip ?_
      refine wq_join (_) (Sub.cons rfl (Sub.nil _)) (Sub.nil _) (by (try dsimp only); exact ⟨⟨by omega, by first | rfl | (rw [enc_valid hval]; rfl)⟩, H⟩)
end
end Go.Proofs.YtmkmffoadapmnaaDoor
