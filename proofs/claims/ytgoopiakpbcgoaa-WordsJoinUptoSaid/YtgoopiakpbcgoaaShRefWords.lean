/- The document's Words, walked. -/
import Derived.Test.YtgoopiakpbcgoaaShRefOp
import Derived.Test.YtgoopiakpbcgoaaShWords
set_option linter.unusedSimpArgs false
set_option linter.unusedVariables false
namespace Go.Proofs.Ytgoopiakpbcgoaa
open Go.RowKit Go.Lib
theorem dig_of {l : List Int} {i : Nat} (h : ¬ quoS l i = 0) : digN l i = 0 := digN_stop (by unfold isDig; rw [decide_eq_false]; omega)
theorem op_dig {l : List Int} {i : Nat} (h : operS (l.getD i 0) = true) : digN l i = 0 := digN_stop (by
  unfold operS at h; rw [decide_eq_true_eq] at h
  unfold isDig; rw [decide_eq_false]; omega)
theorem digS_zero {l : List Int} {i : Nat} (h : digN l i = 0) : digS l i = 0 := by unfold digS; rw [h]; split <;> rfl
theorem red_op {l : List Int} {i kd : Nat} (hkd : kd = i + digN l i) (h1 : kd < l.length) (h2 : quoS l kd = 0) (h3 : l.getD kd 0 = 60 ∨ l.getD kd 0 = 62) : digS l i = digN l i ∧ isOp l i (digS l i) = true := by
  have e : digS l i = digN l i := by
    by_cases h0 : digN l i = 0
    · rw [digS_zero h0, h0]
    · unfold digS; rw [if_neg]; unfold noDig; rw [← hkd]; omega
  refine ⟨e, ?_⟩
  unfold isOp; rw [decide_eq_true_eq, e, ← hkd]
  exact ⟨h1, h2, by unfold operS; rw [decide_eq_true_eq]; omega⟩
theorem red_no {l : List Int} {i kd : Nat} (hkd : kd = i + digN l i) (h : ¬ (kd < l.length ∧ quoS l kd = 0 ∧ (l.getD kd 0 = 60 ∨ l.getD kd 0 = 62))) (h2 : ¬ (quoS l i = 0 ∧ operS (l.getD i 0) = true)) : isOp l i (digS l i) = false := by
  have e : digS l i = 0 := by
    unfold digS; split
    · rfl
    · rename_i hn
      unfold noDig at hn; rw [← hkd] at hn
      exact absurd ⟨by omega, by omega, by omega⟩ h
  unfold isOp; rw [e, decide_eq_false_iff_not, Nat.add_zero]
  rintro ⟨a, b, c⟩; exact h2 ⟨b, c⟩
theorem cls_zero {r : Int} (h1 : blankS r = false) (h2 : operS r = false) : classS r = 0 := by unfold classS; rw [h1, h2]; rfl
theorem cls_blank {r : Int} (h1 : blankS r = true) : classS r ≠ 0 := by unfold classS; rw [if_pos h1]; decide
theorem cls_op {r : Int} (h1 : operS r = true) : classS r ≠ 0 := by unfold classS; split; decide; first | decide | (rw [if_pos h1]; decide)
theorem opIn_small (l : List Int) (i : Nat) : ∀ ops : List (List Int), (∀ o ∈ ops, o.length ≤ 3) → opIn l i ops ≤ 3
  | [], _ => by unfold opIn; decide
  | o :: r, h => by unfold opIn; split; exact h o (by simp); exact opIn_small l i r fun x hx => h x (by simp [hx])
theorem opS_small (l : List Int) (i : Nat) : opS l i ≤ 3 := opIn_small l i _ (by decide)
set_option maxHeartbeats 4000000
section
variable {w0 w : World} {F : HP} {v u : Value} {l : List Int}
theorem ref_words_ret (H : Holds w0 w F) (hv : FRdI w0 F .i32 v l) (hL : l.length ≤ 1073741824) : Ret Try.prog 24 #[v] w fun v' w' => Holds w0 w' (Row 27 3 v' (wordsS l).length ((wordsS l).flatMap wdE) • F) := by
  have hsl := statesS_len l
  refine ret_enter Try.func24 rfl Try.ntmps24 (Nat.le_of_ble_eq_true rfl) ?_
  dsimp only [slots0, Nat.reduceAdd]
  refine wc_seq ?_
  refine wc_region ?_
  refine wl_val (r_assign rfl) (ltn rfl) ?_
  refine wl_nil ?_
  refine wq_seq ?_
  refine wc_seq ?_
  refine wc_region ?_
  refine wl_val (r_move rfl) (ltn rfl) ?_
  refine wl_eff (e_call (r_call rfl Try.func41 rfl rfl) (ref_states_ret H (fun W HW => hv _ (HW)) (by omega))) (ltn rfl) ?_
  rintro _ w1 ⟨u1, rfl, H1⟩
  refine wl_val (r_move rfl) (ltn rfl) ?_
  refine wl_val (r_extract rfl rfl) (ltn rfl) ?_
  refine wl_val (r_extract rfl rfl) (ltn rfl) ?_
  refine wl_val (r_assign rfl) (ltn rfl) ?_
  refine wl_val (r_assign rfl) (ltn rfl) ?_
  refine wl_nil ?_
  refine wq_seq ?_
  refine wc_seq ?_
  refine wc_region ?_
  refine wl_val (r_assign rfl) (ltn rfl) ?_
  refine wl_nil ?_
  refine wq_seq ?_
  refine wc_seq ?_
  refine wc_region ?_
  refine wl_val (r_assign rfl) (ltn rfl) ?_
  refine wl_nil ?_
  refine wq_seq ?_
  refine wc_seq ?_
  refine wc_block ?_
  refine wc_loop [(0, _), (3, _)] (fun (⟨i, u⟩ : Nat × Value) => [(6, .int .i64 (i : Int)), (5, u)]) (fun (⟨i, u⟩ : Nat × Value) W => ∃ ws : List Wd, (i ≤ l.length ∧ ws.length ≤ i ∧ ws ++ wordsAt l i = wordsS l) ∧ Holds w0 W (Row 27 3 u ws.length (ws.flatMap wdE) • RowI 3 .i64 u1 (statesS l) • F)) (fun (⟨i, u⟩ : Nat × Value) => l.length - i) ((0, .slice none 0 0)) (Sub.cons rfl (Sub.cons rfl (Sub.nil _))) (Sub.cons rfl (Sub.cons rfl (Sub.nil _))) ⟨[], ⟨by omega, by simp, rfl⟩, (H1).row_nil none⟩ ?_
  rintro ⟨i, u⟩ w2 ⟨ws, ⟨hi, hwl, hws⟩, HL⟩
  dsimp only [List.cons_append, List.nil_append]
  refine wc_seq ?_
  refine wc_seq ?_
  refine wc_region ?_
  refine wl_val (r_move rfl) (ltn rfl) ?_
  refine wl_val (r_move rfl) (ltn rfl) ?_
  refine wl_val (r_lenR (hv _ (HL.right.right)) Try.underlying22 rfl) (ltn rfl) ?_
  refine wl_val (r_lss rfl rfl) (ltn rfl) ?_
  refine wl_nil ?_
  refine wq_seq ?_
  refine wc_cond rfl (fun h1 => ?_) (fun h1 => ?_)
  · (try simp only [beq_iff_eq, bne_iff_ne, ne_eq, decide_eq_true_eq, decide_eq_false_iff_not, beq_eq_false_iff_ne, bne_eq_false_iff_eq, Bool.not_eq_true', Bool.not_eq_false', Bool.not_eq_eq_eq_not, Bool.not_true, Bool.not_false, gt_iff_lt, ge_iff_le, Int.not_lt, Int.not_le] at h1)
    
    refine wc_skip ?_
    refine wq_seq ?_
    refine wc_block ?_
    refine wc_seq ?_
    have hil : i < l.length := by omega
    have hdn := digN_le l i
    refine wc_region ?_
    refine wl_val (r_move rfl) (ltn rfl) ?_
    refine wl_val (r_move rfl) (ltn rfl) ?_
    obtain ⟨bu1, ou1, cu1, eu1⟩ := RdI.posV ((HL.f2).row_rd) (by omega)
    cases eu1
    refine wl_val (r_index Try.underlying47 Try.sizeOf3 rfl rfl (by omega)) (ltn rfl) ?_
    refine wl_val (r_as (r_load (plain_of Try.underlying3 rfl) rfl (by first | exact RdI.at1n ((HL.f2).row_rd) (by omega) | exact RdI.at0 ((HL.f2).row_rd) (by omega) | exact RdI.at1 ((HL.f2).row_rd) (by omega))) (show Value.int .i64 ((statesS l).getD i 0) = .int .i64 (quoS l i) by rw [statesS_at hil])) (ltn rfl) ?_
    refine wl_val (r_eql rfl rfl) (ltn rfl) ?_
    refine wl_val (r_assign rfl) (ltn rfl) ?_
    refine wl_nil ?_
    refine wq_seq ?_
    refine wc_seq ?_
    refine wc_seq ?_
    refine wc_region ?_
    refine wl_val (r_move rfl) (ltn rfl) ?_
    refine wl_split rfl (ltn rfl) (fun h2 => ?_) (fun h2 => ?_)
    · (try simp only [beq_iff_eq, bne_iff_ne, ne_eq, decide_eq_true_eq, decide_eq_false_iff_not, beq_eq_false_iff_ne, bne_eq_false_iff_eq, Bool.not_eq_true', Bool.not_eq_false', Bool.not_eq_eq_eq_not, Bool.not_true, Bool.not_false, gt_iff_lt, ge_iff_le, Int.not_lt, Int.not_le] at h2)
      refine wl_yes rfl rfl ?_
      refine wl_val (r_move rfl) (ltn rfl) ?_
      refine wl_yes rfl rfl ?_
      refine wl_val (r_move rfl) (ltn rfl) ?_
      refine wl_yes rfl rfl ?_
      obtain ⟨bv, ov, cv, ev⟩ := RdI.posV (hv _ (HL.right.right)) (by omega)
      cases ev
      refine wl_val (r_index Try.underlying22 Try.sizeOf21 rfl rfl (by omega)) (ltn rfl) ?_
      refine wl_yes rfl rfl ?_
      refine wl_val (r_load (plain_of Try.underlying21 rfl) rfl (by first | exact RdI.at1n (hv _ (HL.right.right)) (by omega) | exact RdI.at0 (hv _ (HL.right.right)) (by omega) | exact RdI.at1 (hv _ (HL.right.right)) (by omega))) (ltn rfl) ?_
      refine wl_yes rfl rfl ?_
      refine wl_eff (e_call (r_call rfl Try.func39 rfl rfl) (ref_blank_ret)) (ltn rfl) ?_
      rintro _ _ ⟨rfl, rfl⟩
      refine wl_val (r_pick_t rfl rfl) (ltn rfl) ?_
      refine wl_nil ?_
      refine wq_seq ?_
      refine wc_cond rfl (fun h3 => ?_) (fun h3 => ?_)
      · (try simp only [beq_iff_eq, bne_iff_ne, ne_eq, decide_eq_true_eq, decide_eq_false_iff_not, beq_eq_false_iff_ne, bne_eq_false_iff_eq, Bool.not_eq_true', Bool.not_eq_false', Bool.not_eq_eq_eq_not, Bool.not_true, Bool.not_false, gt_iff_lt, ge_iff_le, Int.not_lt, Int.not_le] at h3)
        
        refine wc_seq ?_
        have hsk : skipS l i = true := by unfold skipS; rw [decide_eq_true_eq]; exact ⟨by assumption, by omega⟩
        refine wc_region ?_
        refine wl_val (r_move rfl) (ltn rfl) ?_
        refine wl_val (r_as (r_add rfl rfl (by omega)) (show Value.int .i64 ((i : Int) + 1) = .int .i64 ((i + 1 : Nat) : Int) by rw [Int.natCast_add]; rfl)) (ltn rfl) ?_
        refine wl_val (r_assign rfl) (ltn rfl) ?_
        refine wl_nil ?_
        refine wq_seq ?_
        refine wc_exit ?_
        refine wq_then_exit ?_
        refine wq_block_hit ?_
        refine wq_round (_, _) (Sub.cons rfl (Sub.cons rfl (Sub.nil _))) (Sub.cons rfl (Sub.cons rfl (Sub.nil _))) (by (try dsimp only); exact by first | exact ⟨ws, ⟨by omega, by omega, by rw [← wordsAt_skip hil hsk]; exact hws⟩, HL.f2.f2⟩ | exact ⟨ws ++ [(1, i, i + opS l i)], ⟨(hA (by assumption) (by assumption)).2.2, by simp; omega, by rw [← hws, wordsAt_op hil hsn hop, (hA (by assumption) (by assumption)).1, List.append_assoc]; rfl⟩, wrow_one HL.f2.f2⟩ | exact ⟨ws ++ [(1, i, kd + opS l kd)], ⟨(hB (by assumption)).2.2.1, by simp; omega, by rw [← hws, wordsAt_op hil hsn hop, (hB (by assumption)).1, ← hkd, List.append_assoc]; rfl⟩, wrow_one HL.f2.f2⟩ | exact ⟨ws ++ [(0, i, k)], ⟨by omega, by simp; omega, by rw [← hws, wordsAt_plain hil hsn hno, ← hpk, pe_stop hee, List.append_assoc]; rfl⟩, wrow_one HL.f2.f2⟩) ?_
        · (try dsimp only); omega
      · (try simp only [beq_iff_eq, bne_iff_ne, ne_eq, decide_eq_true_eq, decide_eq_false_iff_not, beq_eq_false_iff_ne, bne_eq_false_iff_eq, Bool.not_eq_true', Bool.not_eq_false', Bool.not_eq_eq_eq_not, Bool.not_true, Bool.not_false, gt_iff_lt, ge_iff_le, Int.not_lt, Int.not_le] at h3)
        
        refine wc_skip ?_
        refine wq_seq ?_
        refine wc_seq ?_
        have hsn : skipS l i = false := by unfold skipS; rw [decide_eq_false_iff_not]; rintro ⟨qa, qb⟩; first | omega | simp_all
        refine wc_region ?_
        refine wl_val (r_move rfl) (ltn rfl) ?_
        refine wl_val (r_assign rfl) (ltn rfl) ?_
        refine wl_nil ?_
        refine wq_seq ?_
        refine wc_join [(0, _), (3, _), (5, _), (6, _), (7, _), (27, _), (28, _), (29, _), (30, _), (31, _)] (fun (kd : Nat) => [(8, .int .i64 (kd : Int))]) (fun (kd : Nat) W => (kd = i + digN l i) ∧ Holds w0 W (Row 27 3 u ws.length (ws.flatMap wdE) • RowI 3 .i64 (.slice (some ⟨bu1, ou1, none⟩) (stL l) cu1) (statesS l) • F)) (Sub.cons rfl (Sub.cons rfl (Sub.cons rfl (Sub.cons rfl (Sub.cons rfl (Sub.cons rfl (Sub.cons rfl (Sub.cons rfl (Sub.cons rfl (Sub.cons rfl (Sub.nil _))))))))))) ?_ ?_
        · rintro kd w4 ⟨hkd, HJ⟩
          dsimp only [List.cons_append, List.nil_append]
          refine wc_join [(0, _), (3, _), (5, _), (6, _), (7, _), (8, _), (27, _), (28, _), (29, _), (30, _), (31, _)] (fun (rb : Bool) => [(9, .bool rb)]) (fun (rb : Bool) W => (rb = true ↔ (kd < l.length ∧ quoS l kd = 0 ∧ (l.getD kd 0 = 60 ∨ l.getD kd 0 = 62))) ∧ Holds w0 W (Row 27 3 u ws.length (ws.flatMap wdE) • RowI 3 .i64 (.slice (some ⟨bu1, ou1, none⟩) (stL l) cu1) (statesS l) • F)) (Sub.cons rfl (Sub.cons rfl (Sub.cons rfl (Sub.cons rfl (Sub.cons rfl (Sub.cons rfl (Sub.cons rfl (Sub.cons rfl (Sub.cons rfl (Sub.cons rfl (Sub.cons rfl (Sub.nil _)))))))))))) ?_ ?_
          · rintro rb w5 ⟨hrb, HJ2⟩
            dsimp only [List.cons_append, List.nil_append]
            refine wc_seq ?_
            refine wc_seq ?_
            refine wc_region ?_
            refine wl_val (r_move rfl) (ltn rfl) ?_
            refine wl_split rfl (ltn rfl) (fun h4 => ?_) (fun h4 => ?_)
            · (try simp only [beq_iff_eq, bne_iff_ne, ne_eq, decide_eq_true_eq, decide_eq_false_iff_not, beq_eq_false_iff_ne, bne_eq_false_iff_eq, Bool.not_eq_true', Bool.not_eq_false', Bool.not_eq_eq_eq_not, Bool.not_true, Bool.not_false, gt_iff_lt, ge_iff_le, Int.not_lt, Int.not_le] at h4)
              refine wl_yes rfl rfl ?_
              refine wl_val (r_move rfl) (ltn rfl) ?_
              refine wl_yes rfl rfl ?_
              refine wl_val (r_move rfl) (ltn rfl) ?_
              refine wl_yes rfl rfl ?_
              refine wl_val (r_index Try.underlying22 Try.sizeOf21 rfl rfl (by omega)) (ltn rfl) ?_
              refine wl_yes rfl rfl ?_
              refine wl_val (r_load (plain_of Try.underlying21 rfl) rfl (by first | exact RdI.at1n (hv _ (HJ2.right.right)) (by omega) | exact RdI.at0 (hv _ (HJ2.right.right)) (by omega) | exact RdI.at1 (hv _ (HJ2.right.right)) (by omega))) (ltn rfl) ?_
              refine wl_yes rfl rfl ?_
              refine wl_eff (e_call (r_call rfl Try.func40 rfl rfl) (ref_op_ret)) (ltn rfl) ?_
              rintro _ _ ⟨rfl, rfl⟩
              refine wl_val (r_pick_t rfl rfl) (ltn rfl) ?_
              refine wl_nil ?_
              refine wq_seq ?_
              refine wc_cond rfl (fun h5 => ?_) (fun h5 => ?_)
              · (try simp only [beq_iff_eq, bne_iff_ne, ne_eq, decide_eq_true_eq, decide_eq_false_iff_not, beq_eq_false_iff_ne, bne_eq_false_iff_eq, Bool.not_eq_true', Bool.not_eq_false', Bool.not_eq_eq_eq_not, Bool.not_true, Bool.not_false, gt_iff_lt, ge_iff_le, Int.not_lt, Int.not_le] at h5)
                
                refine wc_seq ?_
                refine wc_region ?_
                refine wl_val (r_move rfl) (ltn rfl) ?_
                refine wl_val (r_assign rfl) (ltn rfl) ?_
                refine wl_nil ?_
                refine wq_seq ?_
                refine wc_region ?_
                refine wl_val (r_assign rfl) (ltn rfl) ?_
                refine wl_nil ?_
                refine wq_seq ?_
                refine wc_seq ?_
                refine wc_seq ?_
                refine wc_region ?_
                refine wl_val (r_move rfl) (ltn rfl) ?_
                refine wl_nil ?_
                refine wq_seq ?_
                refine wc_cond_t rfl ?_
                refine wc_seq ?_
                have hA : operS (l.getD i 0) = true → quoS l i = 0 → digS l i = 0 ∧ isOp l i (digS l i) = true ∧ i + opS l i ≤ l.length := fun qa qb => by
                  have q0 := digS_zero (op_dig qa)
                  exact ⟨q0, by unfold isOp; rw [decide_eq_true_eq, q0, Nat.add_zero]; exact ⟨hil, qb, qa⟩, opS_le hil⟩
                have hB : rb = true → digS l i = digN l i ∧ isOp l i (digS l i) = true ∧ kd + opS l kd ≤ l.length ∧ kd < l.length := fun qa => by
                  have hr := hrb.1 qa
                  have := red_op hkd hr.1 hr.2.1 hr.2.2
                  exact ⟨this.1, this.2, opS_le hr.1, hr.1⟩
                have hp1 := opS_pos l i
                have hp2 := opS_pos l kd
                have hp3 := opS_small l i
                have hp4 := opS_small l kd
                have hop : isOp l i (digS l i) = true := by first | exact (hA (by assumption) (by assumption)).2.1 | exact (hB (by assumption)).2.1
                refine wc_region ?_
                refine wl_val (r_move rfl) (ltn rfl) ?_
                refine wl_val (r_move rfl) (ltn rfl) ?_
                refine wl_val (r_move rfl) (ltn rfl) ?_
                refine wl_val (r_move rfl) (ltn rfl) ?_
                refine wl_eff (e_call (r_call rfl Try.func43 rfl rfl) (ref_oper_ret HJ2 (fun W HW => hv _ (HW.right.right)) (fun W HW => (HW.f2).row_rd) (by omega) (by first | exact hil | exact (hB (by assumption)).2.2.2))) (ltn rfl) ?_
                rintro _ w7 ⟨rfl, H7⟩
                refine wl_val (r_as (r_add rfl rfl (by omega)) ((by first | exact (show Value.int .i64 ((i : Int) + (opS l i : Nat)) = .int .i64 ((i + opS l i : Nat) : Int) from by rw [Int.natCast_add]) | exact (show Value.int .i64 ((kd : Int) + (opS l kd : Nat)) = .int .i64 ((kd + opS l kd : Nat) : Int) from by rw [Int.natCast_add])))) (ltn rfl) ?_
                refine wl_val (r_assign rfl) (ltn rfl) ?_
                refine wl_nil ?_
                refine wq_seq ?_
                refine wc_seq ?_
                refine wc_region ?_
                refine wl_val (r_move rfl) (ltn rfl) ?_
                refine wl_val (r_move rfl) (ltn rfl) ?_
                refine wl_val (r_move rfl) (ltn rfl) ?_
                refine wl_val (r_build (pl := #[(0, 1), (1, 1), (2, 1)]) (_) Try.underlying27 Try.zeroValue27 (fun w => by kernel_rfl) rfl (rfl)) (ltn rfl) ?_
                refine wl_eff (e_lit_one H7 Try.underlying24 Try.sizeOf27 Try.zeroValue27 rfl rfl rfl (by decide) (by decide)) (ltn rfl) ?_
                rintro l8 w8 H8
                refine wl_eff (e_append H8.f2 Try.underlying24 (show (Try.prog.info? 27).map (fun i => (i.zero, i.size, i.bytes)) = some (some (.agg #[.int .i64 0, .int .i64 0, .int .i64 0]), 3, 24) by kernel_rfl) rfl rfl rfl ((H8).row_rd) (ones_cons (by first | rfl | assumption) (ones_cons (by first | rfl | assumption) (ones_cons (by first | rfl | assumption) ones_nil))) (by omega) (by omega)) (ltn rfl) ?_
                rintro l9 w9 H9
                have Hd10 := H9.f2.right
                refine wl_val (r_assign rfl) (ltn rfl) ?_
                refine wl_nil ?_
                refine wq_seq ?_
                refine wc_seq ?_
                refine wc_region ?_
                refine wl_val (r_move rfl) (ltn rfl) ?_
                refine wl_val (r_assign rfl) (ltn rfl) ?_
                refine wl_nil ?_
                refine wq_seq ?_
                refine wc_exit ?_
                refine wq_then_exit ?_
                refine wq_block_hit ?_
                refine wq_round (_, _) (Sub.cons rfl (Sub.cons rfl (Sub.nil _))) (Sub.cons rfl (Sub.cons rfl (Sub.nil _))) (by (try dsimp only); exact by first | exact ⟨ws, ⟨by omega, by omega, by rw [← wordsAt_skip hil hsk]; exact hws⟩, Hd10.f2.f2⟩ | exact ⟨ws ++ [(1, i, i + opS l i)], ⟨(hA (by assumption) (by assumption)).2.2, by simp; omega, by rw [← hws, wordsAt_op hil hsn hop, (hA (by assumption) (by assumption)).1, List.append_assoc]; rfl⟩, wrow_one Hd10.f2.f2⟩ | exact ⟨ws ++ [(1, i, kd + opS l kd)], ⟨(hB (by assumption)).2.2.1, by simp; omega, by rw [← hws, wordsAt_op hil hsn hop, (hB (by assumption)).1, ← hkd, List.append_assoc]; rfl⟩, wrow_one Hd10.f2.f2⟩ | exact ⟨ws ++ [(0, i, k)], ⟨by omega, by simp; omega, by rw [← hws, wordsAt_plain hil hsn hno, ← hpk, pe_stop hee, List.append_assoc]; rfl⟩, wrow_one Hd10.f2.f2⟩) ?_
                · (try dsimp only); omega
              · (try simp only [beq_iff_eq, bne_iff_ne, ne_eq, decide_eq_true_eq, decide_eq_false_iff_not, beq_eq_false_iff_ne, bne_eq_false_iff_eq, Bool.not_eq_true', Bool.not_eq_false', Bool.not_eq_eq_eq_not, Bool.not_true, Bool.not_false, gt_iff_lt, ge_iff_le, Int.not_lt, Int.not_le] at h5)
                
                refine wc_skip ?_
                refine wq_seq ?_
                refine wc_seq ?_
                refine wc_seq ?_
                refine wc_region ?_
                refine wl_val (r_move rfl) (ltn rfl) ?_
                refine wl_nil ?_
                refine wq_seq ?_
                refine wc_cond rfl (fun h6 => ?_) (fun h6 => ?_)
                · (try simp only [beq_iff_eq, bne_iff_ne, ne_eq, decide_eq_true_eq, decide_eq_false_iff_not, beq_eq_false_iff_ne, bne_eq_false_iff_eq, Bool.not_eq_true', Bool.not_eq_false', Bool.not_eq_eq_eq_not, Bool.not_true, Bool.not_false, gt_iff_lt, ge_iff_le, Int.not_lt, Int.not_le] at h6)
                  
                  refine wc_seq ?_
                  have hA : operS (l.getD i 0) = true → quoS l i = 0 → digS l i = 0 ∧ isOp l i (digS l i) = true ∧ i + opS l i ≤ l.length := fun qa qb => by
                    have q0 := digS_zero (op_dig qa)
                    exact ⟨q0, by unfold isOp; rw [decide_eq_true_eq, q0, Nat.add_zero]; exact ⟨hil, qb, qa⟩, opS_le hil⟩
                  have hB : rb = true → digS l i = digN l i ∧ isOp l i (digS l i) = true ∧ kd + opS l kd ≤ l.length ∧ kd < l.length := fun qa => by
                    have hr := hrb.1 qa
                    have := red_op hkd hr.1 hr.2.1 hr.2.2
                    exact ⟨this.1, this.2, opS_le hr.1, hr.1⟩
                  have hp1 := opS_pos l i
                  have hp2 := opS_pos l kd
                  have hp3 := opS_small l i
                  have hp4 := opS_small l kd
                  have hop : isOp l i (digS l i) = true := by first | exact (hA (by assumption) (by assumption)).2.1 | exact (hB (by assumption)).2.1
                  refine wc_region ?_
                  refine wl_val (r_move rfl) (ltn rfl) ?_
                  refine wl_val (r_move rfl) (ltn rfl) ?_
                  refine wl_val (r_move rfl) (ltn rfl) ?_
                  refine wl_val (r_move rfl) (ltn rfl) ?_
                  refine wl_eff (e_call (r_call rfl Try.func43 rfl rfl) (ref_oper_ret HJ2 (fun W HW => hv _ (HW.right.right)) (fun W HW => (HW.f2).row_rd) (by omega) (by first | exact hil | exact (hB (by assumption)).2.2.2))) (ltn rfl) ?_
                  rintro _ w11 ⟨rfl, H11⟩
                  refine wl_val (r_as (r_add rfl rfl (by omega)) ((by first | exact (show Value.int .i64 ((i : Int) + (opS l i : Nat)) = .int .i64 ((i + opS l i : Nat) : Int) from by rw [Int.natCast_add]) | exact (show Value.int .i64 ((kd : Int) + (opS l kd : Nat)) = .int .i64 ((kd + opS l kd : Nat) : Int) from by rw [Int.natCast_add])))) (ltn rfl) ?_
                  refine wl_val (r_assign rfl) (ltn rfl) ?_
                  refine wl_nil ?_
                  refine wq_seq ?_
                  refine wc_seq ?_
                  refine wc_region ?_
                  refine wl_val (r_move rfl) (ltn rfl) ?_
                  refine wl_val (r_move rfl) (ltn rfl) ?_
                  refine wl_val (r_move rfl) (ltn rfl) ?_
                  refine wl_val (r_build (pl := #[(0, 1), (1, 1), (2, 1)]) (_) Try.underlying27 Try.zeroValue27 (fun w => by kernel_rfl) rfl (rfl)) (ltn rfl) ?_
                  refine wl_eff (e_lit_one H11 Try.underlying24 Try.sizeOf27 Try.zeroValue27 rfl rfl rfl (by decide) (by decide)) (ltn rfl) ?_
                  rintro l12 w12 H12
                  refine wl_eff (e_append H12.f2 Try.underlying24 (show (Try.prog.info? 27).map (fun i => (i.zero, i.size, i.bytes)) = some (some (.agg #[.int .i64 0, .int .i64 0, .int .i64 0]), 3, 24) by kernel_rfl) rfl rfl rfl ((H12).row_rd) (ones_cons (by first | rfl | assumption) (ones_cons (by first | rfl | assumption) (ones_cons (by first | rfl | assumption) ones_nil))) (by omega) (by omega)) (ltn rfl) ?_
                  rintro l13 w13 H13
                  have Hd14 := H13.f2.right
                  refine wl_val (r_assign rfl) (ltn rfl) ?_
                  refine wl_nil ?_
                  refine wq_seq ?_
                  refine wc_seq ?_
                  refine wc_region ?_
                  refine wl_val (r_move rfl) (ltn rfl) ?_
                  refine wl_val (r_assign rfl) (ltn rfl) ?_
                  refine wl_nil ?_
                  refine wq_seq ?_
                  refine wc_exit ?_
                  refine wq_then_exit ?_
                  refine wq_block_hit ?_
                  refine wq_round (_, _) (Sub.cons rfl (Sub.cons rfl (Sub.nil _))) (Sub.cons rfl (Sub.cons rfl (Sub.nil _))) (by (try dsimp only); exact by first | exact ⟨ws, ⟨by omega, by omega, by rw [← wordsAt_skip hil hsk]; exact hws⟩, Hd14.f2.f2⟩ | exact ⟨ws ++ [(1, i, i + opS l i)], ⟨(hA (by assumption) (by assumption)).2.2, by simp; omega, by rw [← hws, wordsAt_op hil hsn hop, (hA (by assumption) (by assumption)).1, List.append_assoc]; rfl⟩, wrow_one Hd14.f2.f2⟩ | exact ⟨ws ++ [(1, i, kd + opS l kd)], ⟨(hB (by assumption)).2.2.1, by simp; omega, by rw [← hws, wordsAt_op hil hsn hop, (hB (by assumption)).1, ← hkd, List.append_assoc]; rfl⟩, wrow_one Hd14.f2.f2⟩ | exact ⟨ws ++ [(0, i, k)], ⟨by omega, by simp; omega, by rw [← hws, wordsAt_plain hil hsn hno, ← hpk, pe_stop hee, List.append_assoc]; rfl⟩, wrow_one Hd14.f2.f2⟩) ?_
                  · (try dsimp only); omega
                · (try simp only [beq_iff_eq, bne_iff_ne, ne_eq, decide_eq_true_eq, decide_eq_false_iff_not, beq_eq_false_iff_ne, bne_eq_false_iff_eq, Bool.not_eq_true', Bool.not_eq_false', Bool.not_eq_eq_eq_not, Bool.not_true, Bool.not_false, gt_iff_lt, ge_iff_le, Int.not_lt, Int.not_le] at h6)
                  
                  refine wc_skip ?_
                  refine wq_seq ?_
                  refine wc_seq ?_
                  refine wc_region ?_
                  refine wl_val (r_move rfl) (ltn rfl) ?_
                  refine wl_val (r_assign rfl) (ltn rfl) ?_
                  refine wl_nil ?_
                  refine wq_seq ?_
                  refine wc_seq ?_
                  refine wc_block ?_
                  have hno : isOp l i (digS l i) = false := red_no hkd (fun q => by have := hrb.2 q; simp_all) (fun q => by have q1 := q.1; have q2 := q.2; first | omega | simp_all)
                  refine wc_loop [(0, _), (3, _), (5, _), (6, _), (27, _), (28, _), (29, _), (30, _), (31, _), (83, _), (84, _), (85, _), (86, _), (87, _)] (fun (k : Nat) => [(8, .int .i64 (k : Int))]) (fun (k : Nat) W => (i ≤ k ∧ k ≤ l.length ∧ peS l k = peS l i) ∧ Holds w0 W (Row 27 3 u ws.length (ws.flatMap wdE) • RowI 3 .i64 (.slice (some ⟨bu1, ou1, none⟩) (stL l) cu1) (statesS l) • F)) (fun (k : Nat) => l.length - k) (i) (Sub.cons rfl (Sub.cons rfl (Sub.cons rfl (Sub.cons rfl (Sub.cons rfl (Sub.cons rfl (Sub.cons rfl (Sub.cons rfl (Sub.cons rfl (Sub.cons rfl (Sub.cons rfl (Sub.cons rfl (Sub.cons rfl (Sub.cons rfl (Sub.nil _))))))))))))))) (Sub.cons rfl (Sub.nil _)) ⟨⟨by omega, by omega, rfl⟩, HJ2.f2.f2⟩ ?_
                  rintro k w15 ⟨⟨hk, hkl, hpk⟩, HL2⟩
                  dsimp only [List.cons_append, List.nil_append]
                  refine wc_seq ?_
                  refine wc_seq ?_
                  refine wc_region ?_
                  refine wl_val (r_move rfl) (ltn rfl) ?_
                  refine wl_val (r_move rfl) (ltn rfl) ?_
                  refine wl_val (r_len Try.underlying22 rfl) (ltn rfl) ?_
                  refine wl_val (r_lss rfl rfl) (ltn rfl) ?_
                  refine wl_split rfl (ltn rfl) (fun h7 => ?_) (fun h7 => ?_)
                  · (try simp only [beq_iff_eq, bne_iff_ne, ne_eq, decide_eq_true_eq, decide_eq_false_iff_not, beq_eq_false_iff_ne, bne_eq_false_iff_eq, Bool.not_eq_true', Bool.not_eq_false', Bool.not_eq_eq_eq_not, Bool.not_true, Bool.not_false, gt_iff_lt, ge_iff_le, Int.not_lt, Int.not_le] at h7)
                    refine wl_yes rfl rfl ?_
                    refine wl_val (r_move rfl) (ltn rfl) ?_
                    refine wl_yes rfl rfl ?_
                    refine wl_val (r_move rfl) (ltn rfl) ?_
                    refine wl_yes rfl rfl ?_
                    obtain ⟨bu1, ou1, cu1, eu1⟩ := RdI.posV ((HL2.f2).row_rd) (by omega)
                    cases eu1
                    refine wl_val (r_index Try.underlying47 Try.sizeOf3 rfl rfl (by omega)) (ltn rfl) ?_
                    refine wl_yes rfl rfl ?_
                    refine wl_val (r_as (r_load (plain_of Try.underlying3 rfl) rfl (by first | exact RdI.at1n ((HL2.f2).row_rd) (by omega) | exact RdI.at0 ((HL2.f2).row_rd) (by omega) | exact RdI.at1 ((HL2.f2).row_rd) (by omega))) (show Value.int .i64 ((statesS l).getD k 0) = .int .i64 (quoS l k) by rw [statesS_at (by omega)])) (ltn rfl) ?_
                    refine wl_yes rfl rfl ?_
                    refine wl_val (r_eql rfl rfl) (ltn rfl) ?_
                    refine wl_yes rfl rfl ?_
                    refine wl_split rfl (ltn rfl) (fun h8 => ?_) (fun h8 => ?_)
                    · (try simp only [beq_iff_eq, bne_iff_ne, ne_eq, decide_eq_true_eq, decide_eq_false_iff_not, beq_eq_false_iff_ne, bne_eq_false_iff_eq, Bool.not_eq_true', Bool.not_eq_false', Bool.not_eq_eq_eq_not, Bool.not_true, Bool.not_false, gt_iff_lt, ge_iff_le, Int.not_lt, Int.not_le] at h8)
                      refine wl_yes rfl rfl ?_
                      refine wl_val (r_move rfl) (ltn rfl) ?_
                      refine wl_yes rfl rfl ?_
                      refine wl_val (r_move rfl) (ltn rfl) ?_
                      refine wl_yes rfl rfl ?_
                      refine wl_val (r_index Try.underlying22 Try.sizeOf21 rfl rfl (by omega)) (ltn rfl) ?_
                      refine wl_yes rfl rfl ?_
                      refine wl_val (r_load (plain_of Try.underlying21 rfl) rfl (by first | exact RdI.at1n (hv _ (HL2.right.right)) (by omega) | exact RdI.at0 (hv _ (HL2.right.right)) (by omega) | exact RdI.at1 (hv _ (HL2.right.right)) (by omega))) (ltn rfl) ?_
                      refine wl_yes rfl rfl ?_
                      refine wl_eff (e_call (r_call rfl Try.func39 rfl rfl) (ref_blank_ret)) (ltn rfl) ?_
                      rintro _ _ ⟨rfl, rfl⟩
                      refine wl_yes rfl rfl ?_
                      refine wl_split rfl (ltn rfl) (fun h9 => ?_) (fun h9 => ?_)
                      · (try simp only [beq_iff_eq, bne_iff_ne, ne_eq, decide_eq_true_eq, decide_eq_false_iff_not, beq_eq_false_iff_ne, bne_eq_false_iff_eq, Bool.not_eq_true', Bool.not_eq_false', Bool.not_eq_eq_eq_not, Bool.not_true, Bool.not_false, gt_iff_lt, ge_iff_le, Int.not_lt, Int.not_le] at h9)
                        refine wl_no rfl rfl rfl (ltn rfl) ?_
                        refine wl_no rfl rfl rfl (ltn rfl) ?_
                        refine wl_no rfl rfl rfl (ltn rfl) ?_
                        refine wl_no rfl rfl rfl (ltn rfl) ?_
                        refine wl_no rfl rfl rfl (ltn rfl) ?_
                        refine wl_yes rfl rfl ?_
                        refine wl_val (r_pick_t rfl rfl) (ltn rfl) ?_
                        refine wl_yes rfl rfl ?_
                        refine wl_val (r_pick_t rfl rfl) (ltn rfl) ?_
                        refine wl_yes rfl rfl ?_
                        refine wl_val (r_not rfl) (ltn rfl) ?_
                        refine wl_val (r_pick_t rfl rfl) (ltn rfl) ?_
                        refine wl_nil ?_
                        refine wq_seq ?_
                        refine wc_cond rfl (fun h10 => ?_) (fun h10 => ?_)
                        · (try simp only [beq_iff_eq, bne_iff_ne, ne_eq, decide_eq_true_eq, decide_eq_false_iff_not, beq_eq_false_iff_ne, bne_eq_false_iff_eq, Bool.not_eq_true', Bool.not_eq_false', Bool.not_eq_eq_eq_not, Bool.not_true, Bool.not_false, gt_iff_lt, ge_iff_le, Int.not_lt, Int.not_le] at h10)
                          
                          refine wc_skip ?_
                          refine wq_seq ?_
                          refine wc_block ?_
                          have hef : endsS l k = false := by unfold endsS; rw [decide_eq_false_iff_not]; rintro (q | ⟨qa, qb⟩); omega; first | omega | exact qb (cls_zero (by assumption) (by assumption)) | simp_all
                          refine wc_region ?_
                          refine wl_val (r_move rfl) (ltn rfl) ?_
                          refine wl_val (r_as (r_add rfl rfl (by omega)) (show Value.int .i64 ((k : Int) + 1) = .int .i64 ((k + 1 : Nat) : Int) by rw [Int.natCast_add]; rfl)) (ltn rfl) ?_
                          refine wl_val (r_assign rfl) (ltn rfl) ?_
                          refine wl_nil ?_
                          refine wq_block_normal ?_
                          refine wq_round (_) (Sub.cons rfl (Sub.nil _)) (Sub.cons rfl (Sub.cons rfl (Sub.cons rfl (Sub.cons rfl (Sub.cons rfl (Sub.cons rfl (Sub.cons rfl (Sub.cons rfl (Sub.cons rfl (Sub.cons rfl (Sub.cons rfl (Sub.cons rfl (Sub.cons rfl (Sub.cons rfl (Sub.nil _))))))))))))))) (by (try dsimp only); exact ⟨⟨by omega, by omega, peS_mono hef hpk⟩, HL2.f2.f2⟩) ?_
                          · (try dsimp only); omega
                        · (try simp only [beq_iff_eq, bne_iff_ne, ne_eq, decide_eq_true_eq, decide_eq_false_iff_not, beq_eq_false_iff_ne, bne_eq_false_iff_eq, Bool.not_eq_true', Bool.not_eq_false', Bool.not_eq_eq_eq_not, Bool.not_true, Bool.not_false, gt_iff_lt, ge_iff_le, Int.not_lt, Int.not_le] at h10)
                          have hfq := h10
                          refine wc_exit ?_
                          refine wq_then_exit ?_
                          refine wq_then_exit ?_
                          refine wq_block_hit ?_
                          refine wq_seq ?_
                          refine wc_seq ?_
                          have hee : endsS l k = true := by unfold endsS; rw [decide_eq_true_eq]; first | (left; omega) | (right; exact ⟨by assumption, cls_blank (by assumption)⟩) | (right; exact ⟨by assumption, cls_op (by assumption)⟩) | (exfalso; simp at hfq)
                          have hplt := peS_lt (plain_go hil hsn hno)
                          rw [← hpk, pe_stop hee] at hplt
                          refine wc_region ?_
                          refine wl_val (r_move rfl) (ltn rfl) ?_
                          refine wl_val (r_move rfl) (ltn rfl) ?_
                          refine wl_val (r_move rfl) (ltn rfl) ?_
                          refine wl_val (r_build (pl := #[(0, 1), (1, 1), (2, 1)]) (_) Try.underlying27 Try.zeroValue27 (fun w => by kernel_rfl) rfl (rfl)) (ltn rfl) ?_
                          refine wl_eff (e_lit_one HL2 Try.underlying24 Try.sizeOf27 Try.zeroValue27 rfl rfl rfl (by decide) (by decide)) (ltn rfl) ?_
                          rintro l17 w17 H17
                          refine wl_eff (e_append H17.f2 Try.underlying24 (show (Try.prog.info? 27).map (fun i => (i.zero, i.size, i.bytes)) = some (some (.agg #[.int .i64 0, .int .i64 0, .int .i64 0]), 3, 24) by kernel_rfl) rfl rfl rfl ((H17).row_rd) (ones_cons (by first | rfl | assumption) (ones_cons (by first | rfl | assumption) (ones_cons (by first | rfl | assumption) ones_nil))) (by omega) (by omega)) (ltn rfl) ?_
                          rintro l18 w18 H18
                          have Hd19 := H18.f2.right
                          refine wl_val (r_assign rfl) (ltn rfl) ?_
                          refine wl_nil ?_
                          refine wq_seq ?_
                          refine wc_region ?_
                          refine wl_val (r_move rfl) (ltn rfl) ?_
                          refine wl_val (r_assign rfl) (ltn rfl) ?_
                          refine wl_nil ?_
                          refine wq_block_normal ?_
                          refine wq_round (_, _) (Sub.cons rfl (Sub.cons rfl (Sub.nil _))) (Sub.cons rfl (Sub.cons rfl (Sub.nil _))) (by (try dsimp only); exact by first | exact ⟨ws, ⟨by omega, by omega, by rw [← wordsAt_skip hil hsk]; exact hws⟩, Hd19.f2.f2⟩ | exact ⟨ws ++ [(1, i, i + opS l i)], ⟨(hA (by assumption) (by assumption)).2.2, by simp; omega, by rw [← hws, wordsAt_op hil hsn hop, (hA (by assumption) (by assumption)).1, List.append_assoc]; rfl⟩, wrow_one Hd19.f2.f2⟩ | exact ⟨ws ++ [(1, i, kd + opS l kd)], ⟨(hB (by assumption)).2.2.1, by simp; omega, by rw [← hws, wordsAt_op hil hsn hop, (hB (by assumption)).1, ← hkd, List.append_assoc]; rfl⟩, wrow_one Hd19.f2.f2⟩ | exact ⟨ws ++ [(0, i, k)], ⟨by omega, by simp; omega, by rw [← hws, wordsAt_plain hil hsn hno, ← hpk, pe_stop hee, List.append_assoc]; rfl⟩, wrow_one Hd19.f2.f2⟩) ?_
                          · (try dsimp only); omega
                      · (try simp only [beq_iff_eq, bne_iff_ne, ne_eq, decide_eq_true_eq, decide_eq_false_iff_not, beq_eq_false_iff_ne, bne_eq_false_iff_eq, Bool.not_eq_true', Bool.not_eq_false', Bool.not_eq_eq_eq_not, Bool.not_true, Bool.not_false, gt_iff_lt, ge_iff_le, Int.not_lt, Int.not_le] at h9)
                        refine wl_yes rfl rfl ?_
                        refine wl_val (r_move rfl) (ltn rfl) ?_
                        refine wl_yes rfl rfl ?_
                        refine wl_val (r_move rfl) (ltn rfl) ?_
                        refine wl_yes rfl rfl ?_
                        refine wl_val (r_index Try.underlying22 Try.sizeOf21 rfl rfl (by omega)) (ltn rfl) ?_
                        refine wl_yes rfl rfl ?_
                        refine wl_val (r_load (plain_of Try.underlying21 rfl) rfl (by first | exact RdI.at1n (hv _ (HL2.right.right)) (by omega) | exact RdI.at0 (hv _ (HL2.right.right)) (by omega) | exact RdI.at1 (hv _ (HL2.right.right)) (by omega))) (ltn rfl) ?_
                        refine wl_yes rfl rfl ?_
                        refine wl_eff (e_call (r_call rfl Try.func40 rfl rfl) (ref_op_ret)) (ltn rfl) ?_
                        rintro _ _ ⟨rfl, rfl⟩
                        refine wl_yes rfl rfl ?_
                        refine wl_val (r_pick_f rfl rfl) (ltn rfl) ?_
                        refine wl_yes rfl rfl ?_
                        refine wl_val (r_pick_t rfl rfl) (ltn rfl) ?_
                        refine wl_yes rfl rfl ?_
                        refine wl_val (r_not rfl) (ltn rfl) ?_
                        refine wl_val (r_pick_t rfl rfl) (ltn rfl) ?_
                        refine wl_nil ?_
                        refine wq_seq ?_
                        refine wc_cond rfl (fun h11 => ?_) (fun h11 => ?_)
                        · (try simp only [beq_iff_eq, bne_iff_ne, ne_eq, decide_eq_true_eq, decide_eq_false_iff_not, beq_eq_false_iff_ne, bne_eq_false_iff_eq, Bool.not_eq_true', Bool.not_eq_false', Bool.not_eq_eq_eq_not, Bool.not_true, Bool.not_false, gt_iff_lt, ge_iff_le, Int.not_lt, Int.not_le] at h11)
                          
                          refine wc_skip ?_
                          refine wq_seq ?_
                          refine wc_block ?_
                          have hef : endsS l k = false := by unfold endsS; rw [decide_eq_false_iff_not]; rintro (q | ⟨qa, qb⟩); omega; first | omega | exact qb (cls_zero (by assumption) (by assumption)) | simp_all
                          refine wc_region ?_
                          refine wl_val (r_move rfl) (ltn rfl) ?_
                          refine wl_val (r_as (r_add rfl rfl (by omega)) (show Value.int .i64 ((k : Int) + 1) = .int .i64 ((k + 1 : Nat) : Int) by rw [Int.natCast_add]; rfl)) (ltn rfl) ?_
                          refine wl_val (r_assign rfl) (ltn rfl) ?_
                          refine wl_nil ?_
                          refine wq_block_normal ?_
                          refine wq_round (_) (Sub.cons rfl (Sub.nil _)) (Sub.cons rfl (Sub.cons rfl (Sub.cons rfl (Sub.cons rfl (Sub.cons rfl (Sub.cons rfl (Sub.cons rfl (Sub.cons rfl (Sub.cons rfl (Sub.cons rfl (Sub.cons rfl (Sub.cons rfl (Sub.cons rfl (Sub.cons rfl (Sub.nil _))))))))))))))) (by (try dsimp only); exact ⟨⟨by omega, by omega, peS_mono hef hpk⟩, HL2.f2.f2⟩) ?_
                          · (try dsimp only); omega
                        · (try simp only [beq_iff_eq, bne_iff_ne, ne_eq, decide_eq_true_eq, decide_eq_false_iff_not, beq_eq_false_iff_ne, bne_eq_false_iff_eq, Bool.not_eq_true', Bool.not_eq_false', Bool.not_eq_eq_eq_not, Bool.not_true, Bool.not_false, gt_iff_lt, ge_iff_le, Int.not_lt, Int.not_le] at h11)
                          have hfq := h11
                          refine wc_exit ?_
                          refine wq_then_exit ?_
                          refine wq_then_exit ?_
                          refine wq_block_hit ?_
                          refine wq_seq ?_
                          refine wc_seq ?_
                          have hee : endsS l k = true := by unfold endsS; rw [decide_eq_true_eq]; first | (left; omega) | (right; exact ⟨by assumption, cls_blank (by assumption)⟩) | (right; exact ⟨by assumption, cls_op (by assumption)⟩) | (exfalso; simp at hfq)
                          have hplt := peS_lt (plain_go hil hsn hno)
                          rw [← hpk, pe_stop hee] at hplt
                          refine wc_region ?_
                          refine wl_val (r_move rfl) (ltn rfl) ?_
                          refine wl_val (r_move rfl) (ltn rfl) ?_
                          refine wl_val (r_move rfl) (ltn rfl) ?_
                          refine wl_val (r_build (pl := #[(0, 1), (1, 1), (2, 1)]) (_) Try.underlying27 Try.zeroValue27 (fun w => by kernel_rfl) rfl (rfl)) (ltn rfl) ?_
                          refine wl_eff (e_lit_one HL2 Try.underlying24 Try.sizeOf27 Try.zeroValue27 rfl rfl rfl (by decide) (by decide)) (ltn rfl) ?_
                          rintro l21 w21 H21
                          refine wl_eff (e_append H21.f2 Try.underlying24 (show (Try.prog.info? 27).map (fun i => (i.zero, i.size, i.bytes)) = some (some (.agg #[.int .i64 0, .int .i64 0, .int .i64 0]), 3, 24) by kernel_rfl) rfl rfl rfl ((H21).row_rd) (ones_cons (by first | rfl | assumption) (ones_cons (by first | rfl | assumption) (ones_cons (by first | rfl | assumption) ones_nil))) (by omega) (by omega)) (ltn rfl) ?_
                          rintro l22 w22 H22
                          have Hd23 := H22.f2.right
                          refine wl_val (r_assign rfl) (ltn rfl) ?_
                          refine wl_nil ?_
                          refine wq_seq ?_
                          refine wc_region ?_
                          refine wl_val (r_move rfl) (ltn rfl) ?_
                          refine wl_val (r_assign rfl) (ltn rfl) ?_
                          refine wl_nil ?_
                          refine wq_block_normal ?_
                          refine wq_round (_, _) (Sub.cons rfl (Sub.cons rfl (Sub.nil _))) (Sub.cons rfl (Sub.cons rfl (Sub.nil _))) (by (try dsimp only); exact by first | exact ⟨ws, ⟨by omega, by omega, by rw [← wordsAt_skip hil hsk]; exact hws⟩, Hd23.f2.f2⟩ | exact ⟨ws ++ [(1, i, i + opS l i)], ⟨(hA (by assumption) (by assumption)).2.2, by simp; omega, by rw [← hws, wordsAt_op hil hsn hop, (hA (by assumption) (by assumption)).1, List.append_assoc]; rfl⟩, wrow_one Hd23.f2.f2⟩ | exact ⟨ws ++ [(1, i, kd + opS l kd)], ⟨(hB (by assumption)).2.2.1, by simp; omega, by rw [← hws, wordsAt_op hil hsn hop, (hB (by assumption)).1, ← hkd, List.append_assoc]; rfl⟩, wrow_one Hd23.f2.f2⟩ | exact ⟨ws ++ [(0, i, k)], ⟨by omega, by simp; omega, by rw [← hws, wordsAt_plain hil hsn hno, ← hpk, pe_stop hee, List.append_assoc]; rfl⟩, wrow_one Hd23.f2.f2⟩) ?_
                          · (try dsimp only); omega
                    · (try simp only [beq_iff_eq, bne_iff_ne, ne_eq, decide_eq_true_eq, decide_eq_false_iff_not, beq_eq_false_iff_ne, bne_eq_false_iff_eq, Bool.not_eq_true', Bool.not_eq_false', Bool.not_eq_eq_eq_not, Bool.not_true, Bool.not_false, gt_iff_lt, ge_iff_le, Int.not_lt, Int.not_le] at h8)
                      refine wl_no rfl rfl rfl (ltn rfl) ?_
                      refine wl_no rfl rfl rfl (ltn rfl) ?_
                      refine wl_no rfl rfl rfl (ltn rfl) ?_
                      refine wl_no rfl rfl rfl (ltn rfl) ?_
                      refine wl_no rfl rfl rfl (ltn rfl) ?_
                      refine wl_no rfl rfl rfl (ltn rfl) ?_
                      refine wl_nou rfl rfl (ltn rfl) ?_
                      refine wl_nou rfl rfl (ltn rfl) ?_
                      refine wl_nou rfl rfl (ltn rfl) ?_
                      refine wl_nou rfl rfl (ltn rfl) ?_
                      refine wl_nou rfl rfl (ltn rfl) ?_
                      refine wl_no rfl rfl rfl (ltn rfl) ?_
                      refine wl_yes rfl rfl ?_
                      refine wl_val (r_pick_f rfl rfl) (ltn rfl) ?_
                      refine wl_yes rfl rfl ?_
                      refine wl_val (r_not rfl) (ltn rfl) ?_
                      refine wl_val (r_pick_t rfl rfl) (ltn rfl) ?_
                      refine wl_nil ?_
                      refine wq_seq ?_
                      refine wc_cond rfl (fun h12 => ?_) (fun h12 => ?_)
                      · (try simp only [beq_iff_eq, bne_iff_ne, ne_eq, decide_eq_true_eq, decide_eq_false_iff_not, beq_eq_false_iff_ne, bne_eq_false_iff_eq, Bool.not_eq_true', Bool.not_eq_false', Bool.not_eq_eq_eq_not, Bool.not_true, Bool.not_false, gt_iff_lt, ge_iff_le, Int.not_lt, Int.not_le] at h12)
                        
                        refine wc_skip ?_
                        refine wq_seq ?_
                        refine wc_block ?_
                        have hef : endsS l k = false := by unfold endsS; rw [decide_eq_false_iff_not]; rintro (q | ⟨qa, qb⟩); omega; first | omega | exact qb (cls_zero (by assumption) (by assumption)) | simp_all
                        refine wc_region ?_
                        refine wl_val (r_move rfl) (ltn rfl) ?_
                        refine wl_val (r_as (r_add rfl rfl (by omega)) (show Value.int .i64 ((k : Int) + 1) = .int .i64 ((k + 1 : Nat) : Int) by rw [Int.natCast_add]; rfl)) (ltn rfl) ?_
                        refine wl_val (r_assign rfl) (ltn rfl) ?_
                        refine wl_nil ?_
                        refine wq_block_normal ?_
                        refine wq_round (_) (Sub.cons rfl (Sub.nil _)) (Sub.cons rfl (Sub.cons rfl (Sub.cons rfl (Sub.cons rfl (Sub.cons rfl (Sub.cons rfl (Sub.cons rfl (Sub.cons rfl (Sub.cons rfl (Sub.cons rfl (Sub.cons rfl (Sub.cons rfl (Sub.cons rfl (Sub.cons rfl (Sub.nil _))))))))))))))) (by (try dsimp only); exact ⟨⟨by omega, by omega, peS_mono hef hpk⟩, HL2.f2.f2⟩) ?_
                        · (try dsimp only); omega
                      · (try simp only [beq_iff_eq, bne_iff_ne, ne_eq, decide_eq_true_eq, decide_eq_false_iff_not, beq_eq_false_iff_ne, bne_eq_false_iff_eq, Bool.not_eq_true', Bool.not_eq_false', Bool.not_eq_eq_eq_not, Bool.not_true, Bool.not_false, gt_iff_lt, ge_iff_le, Int.not_lt, Int.not_le] at h12)
                        have hfq := h12
                        refine wc_exit ?_
                        refine wq_then_exit ?_
                        refine wq_then_exit ?_
                        refine wq_block_hit ?_
                        refine wq_seq ?_
                        refine wc_seq ?_
                        have hee : endsS l k = true := by unfold endsS; rw [decide_eq_true_eq]; first | (left; omega) | (right; exact ⟨by assumption, cls_blank (by assumption)⟩) | (right; exact ⟨by assumption, cls_op (by assumption)⟩) | (exfalso; simp at hfq)
                        have hplt := peS_lt (plain_go hil hsn hno)
                        rw [← hpk, pe_stop hee] at hplt
                        refine wc_region ?_
                        refine wl_val (r_move rfl) (ltn rfl) ?_
                        refine wl_val (r_move rfl) (ltn rfl) ?_
                        refine wl_val (r_move rfl) (ltn rfl) ?_
                        refine wl_val (r_build (pl := #[(0, 1), (1, 1), (2, 1)]) (_) Try.underlying27 Try.zeroValue27 (fun w => by kernel_rfl) rfl (rfl)) (ltn rfl) ?_
                        refine wl_eff (e_lit_one HL2 Try.underlying24 Try.sizeOf27 Try.zeroValue27 rfl rfl rfl (by decide) (by decide)) (ltn rfl) ?_
                        rintro l24 w24 H24
                        refine wl_eff (e_append H24.f2 Try.underlying24 (show (Try.prog.info? 27).map (fun i => (i.zero, i.size, i.bytes)) = some (some (.agg #[.int .i64 0, .int .i64 0, .int .i64 0]), 3, 24) by kernel_rfl) rfl rfl rfl ((H24).row_rd) (ones_cons (by first | rfl | assumption) (ones_cons (by first | rfl | assumption) (ones_cons (by first | rfl | assumption) ones_nil))) (by omega) (by omega)) (ltn rfl) ?_
                        rintro l25 w25 H25
                        have Hd26 := H25.f2.right
                        refine wl_val (r_assign rfl) (ltn rfl) ?_
                        refine wl_nil ?_
                        refine wq_seq ?_
                        refine wc_region ?_
                        refine wl_val (r_move rfl) (ltn rfl) ?_
                        refine wl_val (r_assign rfl) (ltn rfl) ?_
                        refine wl_nil ?_
                        refine wq_block_normal ?_
                        refine wq_round (_, _) (Sub.cons rfl (Sub.cons rfl (Sub.nil _))) (Sub.cons rfl (Sub.cons rfl (Sub.nil _))) (by (try dsimp only); exact by first | exact ⟨ws, ⟨by omega, by omega, by rw [← wordsAt_skip hil hsk]; exact hws⟩, Hd26.f2.f2⟩ | exact ⟨ws ++ [(1, i, i + opS l i)], ⟨(hA (by assumption) (by assumption)).2.2, by simp; omega, by rw [← hws, wordsAt_op hil hsn hop, (hA (by assumption) (by assumption)).1, List.append_assoc]; rfl⟩, wrow_one Hd26.f2.f2⟩ | exact ⟨ws ++ [(1, i, kd + opS l kd)], ⟨(hB (by assumption)).2.2.1, by simp; omega, by rw [← hws, wordsAt_op hil hsn hop, (hB (by assumption)).1, ← hkd, List.append_assoc]; rfl⟩, wrow_one Hd26.f2.f2⟩ | exact ⟨ws ++ [(0, i, k)], ⟨by omega, by simp; omega, by rw [← hws, wordsAt_plain hil hsn hno, ← hpk, pe_stop hee, List.append_assoc]; rfl⟩, wrow_one Hd26.f2.f2⟩) ?_
                        · (try dsimp only); omega
                  · (try simp only [beq_iff_eq, bne_iff_ne, ne_eq, decide_eq_true_eq, decide_eq_false_iff_not, beq_eq_false_iff_ne, bne_eq_false_iff_eq, Bool.not_eq_true', Bool.not_eq_false', Bool.not_eq_eq_eq_not, Bool.not_true, Bool.not_false, gt_iff_lt, ge_iff_le, Int.not_lt, Int.not_le] at h7)
                    refine wl_no rfl rfl rfl (ltn rfl) ?_
                    refine wl_no rfl rfl rfl (ltn rfl) ?_
                    refine wl_no rfl rfl rfl (ltn rfl) ?_
                    refine wl_no rfl rfl rfl (ltn rfl) ?_
                    refine wl_no rfl rfl rfl (ltn rfl) ?_
                    refine wl_no rfl rfl rfl (ltn rfl) ?_
                    refine wl_nou rfl rfl (ltn rfl) ?_
                    refine wl_nou rfl rfl (ltn rfl) ?_
                    refine wl_nou rfl rfl (ltn rfl) ?_
                    refine wl_nou rfl rfl (ltn rfl) ?_
                    refine wl_nou rfl rfl (ltn rfl) ?_
                    refine wl_nou rfl rfl (ltn rfl) ?_
                    refine wl_nou rfl rfl (ltn rfl) ?_
                    refine wl_nou rfl rfl (ltn rfl) ?_
                    refine wl_nou rfl rfl (ltn rfl) ?_
                    refine wl_nou rfl rfl (ltn rfl) ?_
                    refine wl_nou rfl rfl (ltn rfl) ?_
                    refine wl_nou rfl rfl (ltn rfl) ?_
                    refine wl_no rfl rfl rfl (ltn rfl) ?_
                    refine wl_no rfl rfl rfl (ltn rfl) ?_
                    refine wl_val (r_pick_f rfl rfl) (ltn rfl) ?_
                    refine wl_nil ?_
                    refine wq_seq ?_
                    refine wc_cond_f rfl ?_
                    refine wc_exit ?_
                    refine wq_then_exit ?_
                    refine wq_then_exit ?_
                    refine wq_block_hit ?_
                    refine wq_seq ?_
                    refine wc_seq ?_
                    have hee : endsS l k = true := by unfold endsS; rw [decide_eq_true_eq]; first | (left; omega) | (right; exact ⟨by assumption, cls_blank (by assumption)⟩) | (right; exact ⟨by assumption, cls_op (by assumption)⟩) | (exfalso; simp at hfq)
                    have hplt := peS_lt (plain_go hil hsn hno)
                    rw [← hpk, pe_stop hee] at hplt
                    refine wc_region ?_
                    refine wl_val (r_move rfl) (ltn rfl) ?_
                    refine wl_val (r_move rfl) (ltn rfl) ?_
                    refine wl_val (r_move rfl) (ltn rfl) ?_
                    refine wl_val (r_build (pl := #[(0, 1), (1, 1), (2, 1)]) (_) Try.underlying27 Try.zeroValue27 (fun w => by kernel_rfl) rfl (rfl)) (ltn rfl) ?_
                    refine wl_eff (e_lit_one HL2 Try.underlying24 Try.sizeOf27 Try.zeroValue27 rfl rfl rfl (by decide) (by decide)) (ltn rfl) ?_
                    rintro l27 w27 H27
                    refine wl_eff (e_append H27.f2 Try.underlying24 (show (Try.prog.info? 27).map (fun i => (i.zero, i.size, i.bytes)) = some (some (.agg #[.int .i64 0, .int .i64 0, .int .i64 0]), 3, 24) by kernel_rfl) rfl rfl rfl ((H27).row_rd) (ones_cons (by first | rfl | assumption) (ones_cons (by first | rfl | assumption) (ones_cons (by first | rfl | assumption) ones_nil))) (by omega) (by omega)) (ltn rfl) ?_
                    rintro l28 w28 H28
                    have Hd29 := H28.f2.right
                    refine wl_val (r_assign rfl) (ltn rfl) ?_
                    refine wl_nil ?_
                    refine wq_seq ?_
                    refine wc_region ?_
                    refine wl_val (r_move rfl) (ltn rfl) ?_
                    refine wl_val (r_assign rfl) (ltn rfl) ?_
                    refine wl_nil ?_
                    refine wq_block_normal ?_
                    refine wq_round (_, _) (Sub.cons rfl (Sub.cons rfl (Sub.nil _))) (Sub.cons rfl (Sub.cons rfl (Sub.nil _))) (by (try dsimp only); exact by first | exact ⟨ws, ⟨by omega, by omega, by rw [← wordsAt_skip hil hsk]; exact hws⟩, Hd29.f2.f2⟩ | exact ⟨ws ++ [(1, i, i + opS l i)], ⟨(hA (by assumption) (by assumption)).2.2, by simp; omega, by rw [← hws, wordsAt_op hil hsn hop, (hA (by assumption) (by assumption)).1, List.append_assoc]; rfl⟩, wrow_one Hd29.f2.f2⟩ | exact ⟨ws ++ [(1, i, kd + opS l kd)], ⟨(hB (by assumption)).2.2.1, by simp; omega, by rw [← hws, wordsAt_op hil hsn hop, (hB (by assumption)).1, ← hkd, List.append_assoc]; rfl⟩, wrow_one Hd29.f2.f2⟩ | exact ⟨ws ++ [(0, i, k)], ⟨by omega, by simp; omega, by rw [← hws, wordsAt_plain hil hsn hno, ← hpk, pe_stop hee, List.append_assoc]; rfl⟩, wrow_one Hd29.f2.f2⟩) ?_
                    · (try dsimp only); omega
            · (try simp only [beq_iff_eq, bne_iff_ne, ne_eq, decide_eq_true_eq, decide_eq_false_iff_not, beq_eq_false_iff_ne, bne_eq_false_iff_eq, Bool.not_eq_true', Bool.not_eq_false', Bool.not_eq_eq_eq_not, Bool.not_true, Bool.not_false, gt_iff_lt, ge_iff_le, Int.not_lt, Int.not_le] at h4)
              refine wl_no rfl rfl rfl (ltn rfl) ?_
              refine wl_no rfl rfl rfl (ltn rfl) ?_
              refine wl_no rfl rfl rfl (ltn rfl) ?_
              refine wl_no rfl rfl rfl (ltn rfl) ?_
              refine wl_no rfl rfl rfl (ltn rfl) ?_
              refine wl_val (r_pick_f rfl rfl) (ltn rfl) ?_
              refine wl_nil ?_
              refine wq_seq ?_
              refine wc_cond_f rfl ?_
              refine wc_skip ?_
              refine wq_seq ?_
              refine wc_seq ?_
              refine wc_seq ?_
              refine wc_region ?_
              refine wl_val (r_move rfl) (ltn rfl) ?_
              refine wl_nil ?_
              refine wq_seq ?_
              refine wc_cond rfl (fun h13 => ?_) (fun h13 => ?_)
              · (try simp only [beq_iff_eq, bne_iff_ne, ne_eq, decide_eq_true_eq, decide_eq_false_iff_not, beq_eq_false_iff_ne, bne_eq_false_iff_eq, Bool.not_eq_true', Bool.not_eq_false', Bool.not_eq_eq_eq_not, Bool.not_true, Bool.not_false, gt_iff_lt, ge_iff_le, Int.not_lt, Int.not_le] at h13)
                
                refine wc_seq ?_
                have hA : operS (l.getD i 0) = true → quoS l i = 0 → digS l i = 0 ∧ isOp l i (digS l i) = true ∧ i + opS l i ≤ l.length := fun qa qb => by
                  have q0 := digS_zero (op_dig qa)
                  exact ⟨q0, by unfold isOp; rw [decide_eq_true_eq, q0, Nat.add_zero]; exact ⟨hil, qb, qa⟩, opS_le hil⟩
                have hB : rb = true → digS l i = digN l i ∧ isOp l i (digS l i) = true ∧ kd + opS l kd ≤ l.length ∧ kd < l.length := fun qa => by
                  have hr := hrb.1 qa
                  have := red_op hkd hr.1 hr.2.1 hr.2.2
                  exact ⟨this.1, this.2, opS_le hr.1, hr.1⟩
                have hp1 := opS_pos l i
                have hp2 := opS_pos l kd
                have hp3 := opS_small l i
                have hp4 := opS_small l kd
                have hop : isOp l i (digS l i) = true := by first | exact (hA (by assumption) (by assumption)).2.1 | exact (hB (by assumption)).2.1
                refine wc_region ?_
                refine wl_val (r_move rfl) (ltn rfl) ?_
                refine wl_val (r_move rfl) (ltn rfl) ?_
                refine wl_val (r_move rfl) (ltn rfl) ?_
                refine wl_val (r_move rfl) (ltn rfl) ?_
                refine wl_eff (e_call (r_call rfl Try.func43 rfl rfl) (ref_oper_ret HJ2 (fun W HW => hv _ (HW.right.right)) (fun W HW => (HW.f2).row_rd) (by omega) (by first | exact hil | exact (hB (by assumption)).2.2.2))) (ltn rfl) ?_
                rintro _ w30 ⟨rfl, H30⟩
                refine wl_val (r_as (r_add rfl rfl (by omega)) ((by first | exact (show Value.int .i64 ((i : Int) + (opS l i : Nat)) = .int .i64 ((i + opS l i : Nat) : Int) from by rw [Int.natCast_add]) | exact (show Value.int .i64 ((kd : Int) + (opS l kd : Nat)) = .int .i64 ((kd + opS l kd : Nat) : Int) from by rw [Int.natCast_add])))) (ltn rfl) ?_
                refine wl_val (r_assign rfl) (ltn rfl) ?_
                refine wl_nil ?_
                refine wq_seq ?_
                refine wc_seq ?_
                refine wc_region ?_
                refine wl_val (r_move rfl) (ltn rfl) ?_
                refine wl_val (r_move rfl) (ltn rfl) ?_
                refine wl_val (r_move rfl) (ltn rfl) ?_
                refine wl_val (r_build (pl := #[(0, 1), (1, 1), (2, 1)]) (_) Try.underlying27 Try.zeroValue27 (fun w => by kernel_rfl) rfl (rfl)) (ltn rfl) ?_
                refine wl_eff (e_lit_one H30 Try.underlying24 Try.sizeOf27 Try.zeroValue27 rfl rfl rfl (by decide) (by decide)) (ltn rfl) ?_
                rintro l31 w31 H31
                refine wl_eff (e_append H31.f2 Try.underlying24 (show (Try.prog.info? 27).map (fun i => (i.zero, i.size, i.bytes)) = some (some (.agg #[.int .i64 0, .int .i64 0, .int .i64 0]), 3, 24) by kernel_rfl) rfl rfl rfl ((H31).row_rd) (ones_cons (by first | rfl | assumption) (ones_cons (by first | rfl | assumption) (ones_cons (by first | rfl | assumption) ones_nil))) (by omega) (by omega)) (ltn rfl) ?_
                rintro l32 w32 H32
                have Hd33 := H32.f2.right
                refine wl_val (r_assign rfl) (ltn rfl) ?_
                refine wl_nil ?_
                refine wq_seq ?_
                refine wc_seq ?_
                refine wc_region ?_
                refine wl_val (r_move rfl) (ltn rfl) ?_
                refine wl_val (r_assign rfl) (ltn rfl) ?_
                refine wl_nil ?_
                refine wq_seq ?_
                refine wc_exit ?_
                refine wq_then_exit ?_
                refine wq_block_hit ?_
                refine wq_round (_, _) (Sub.cons rfl (Sub.cons rfl (Sub.nil _))) (Sub.cons rfl (Sub.cons rfl (Sub.nil _))) (by (try dsimp only); exact by first | exact ⟨ws, ⟨by omega, by omega, by rw [← wordsAt_skip hil hsk]; exact hws⟩, Hd33.f2.f2⟩ | exact ⟨ws ++ [(1, i, i + opS l i)], ⟨(hA (by assumption) (by assumption)).2.2, by simp; omega, by rw [← hws, wordsAt_op hil hsn hop, (hA (by assumption) (by assumption)).1, List.append_assoc]; rfl⟩, wrow_one Hd33.f2.f2⟩ | exact ⟨ws ++ [(1, i, kd + opS l kd)], ⟨(hB (by assumption)).2.2.1, by simp; omega, by rw [← hws, wordsAt_op hil hsn hop, (hB (by assumption)).1, ← hkd, List.append_assoc]; rfl⟩, wrow_one Hd33.f2.f2⟩ | exact ⟨ws ++ [(0, i, k)], ⟨by omega, by simp; omega, by rw [← hws, wordsAt_plain hil hsn hno, ← hpk, pe_stop hee, List.append_assoc]; rfl⟩, wrow_one Hd33.f2.f2⟩) ?_
                · (try dsimp only); omega
              · (try simp only [beq_iff_eq, bne_iff_ne, ne_eq, decide_eq_true_eq, decide_eq_false_iff_not, beq_eq_false_iff_ne, bne_eq_false_iff_eq, Bool.not_eq_true', Bool.not_eq_false', Bool.not_eq_eq_eq_not, Bool.not_true, Bool.not_false, gt_iff_lt, ge_iff_le, Int.not_lt, Int.not_le] at h13)
                
                refine wc_skip ?_
                refine wq_seq ?_
                refine wc_seq ?_
                refine wc_region ?_
                refine wl_val (r_move rfl) (ltn rfl) ?_
                refine wl_val (r_assign rfl) (ltn rfl) ?_
                refine wl_nil ?_
                refine wq_seq ?_
                refine wc_seq ?_
                refine wc_block ?_
                have hno : isOp l i (digS l i) = false := red_no hkd (fun q => by have := hrb.2 q; simp_all) (fun q => by have q1 := q.1; have q2 := q.2; first | omega | simp_all)
                refine wc_loop [(0, _), (3, _), (5, _), (6, _), (27, _), (28, _), (29, _), (30, _), (31, _), (83, _), (84, _), (85, _), (86, _), (87, _)] (fun (k : Nat) => [(8, .int .i64 (k : Int))]) (fun (k : Nat) W => (i ≤ k ∧ k ≤ l.length ∧ peS l k = peS l i) ∧ Holds w0 W (Row 27 3 u ws.length (ws.flatMap wdE) • RowI 3 .i64 (.slice (some ⟨bu1, ou1, none⟩) (stL l) cu1) (statesS l) • F)) (fun (k : Nat) => l.length - k) (i) (Sub.cons rfl (Sub.cons rfl (Sub.cons rfl (Sub.cons rfl (Sub.cons rfl (Sub.cons rfl (Sub.cons rfl (Sub.cons rfl (Sub.cons rfl (Sub.cons rfl (Sub.cons rfl (Sub.cons rfl (Sub.cons rfl (Sub.cons rfl (Sub.nil _))))))))))))))) (Sub.cons rfl (Sub.nil _)) ⟨⟨by omega, by omega, rfl⟩, HJ2.f2.f2⟩ ?_
                rintro k w34 ⟨⟨hk, hkl, hpk⟩, HL2⟩
                dsimp only [List.cons_append, List.nil_append]
                refine wc_seq ?_
                refine wc_seq ?_
                refine wc_region ?_
                refine wl_val (r_move rfl) (ltn rfl) ?_
                refine wl_val (r_move rfl) (ltn rfl) ?_
                refine wl_val (r_len Try.underlying22 rfl) (ltn rfl) ?_
                refine wl_val (r_lss rfl rfl) (ltn rfl) ?_
                refine wl_split rfl (ltn rfl) (fun h14 => ?_) (fun h14 => ?_)
                · (try simp only [beq_iff_eq, bne_iff_ne, ne_eq, decide_eq_true_eq, decide_eq_false_iff_not, beq_eq_false_iff_ne, bne_eq_false_iff_eq, Bool.not_eq_true', Bool.not_eq_false', Bool.not_eq_eq_eq_not, Bool.not_true, Bool.not_false, gt_iff_lt, ge_iff_le, Int.not_lt, Int.not_le] at h14)
                  refine wl_yes rfl rfl ?_
                  refine wl_val (r_move rfl) (ltn rfl) ?_
                  refine wl_yes rfl rfl ?_
                  refine wl_val (r_move rfl) (ltn rfl) ?_
                  refine wl_yes rfl rfl ?_
                  obtain ⟨bu1, ou1, cu1, eu1⟩ := RdI.posV ((HL2.f2).row_rd) (by omega)
                  cases eu1
                  refine wl_val (r_index Try.underlying47 Try.sizeOf3 rfl rfl (by omega)) (ltn rfl) ?_
                  refine wl_yes rfl rfl ?_
                  refine wl_val (r_as (r_load (plain_of Try.underlying3 rfl) rfl (by first | exact RdI.at1n ((HL2.f2).row_rd) (by omega) | exact RdI.at0 ((HL2.f2).row_rd) (by omega) | exact RdI.at1 ((HL2.f2).row_rd) (by omega))) (show Value.int .i64 ((statesS l).getD k 0) = .int .i64 (quoS l k) by rw [statesS_at (by omega)])) (ltn rfl) ?_
                  refine wl_yes rfl rfl ?_
                  refine wl_val (r_eql rfl rfl) (ltn rfl) ?_
                  refine wl_yes rfl rfl ?_
                  refine wl_split rfl (ltn rfl) (fun h15 => ?_) (fun h15 => ?_)
                  · (try simp only [beq_iff_eq, bne_iff_ne, ne_eq, decide_eq_true_eq, decide_eq_false_iff_not, beq_eq_false_iff_ne, bne_eq_false_iff_eq, Bool.not_eq_true', Bool.not_eq_false', Bool.not_eq_eq_eq_not, Bool.not_true, Bool.not_false, gt_iff_lt, ge_iff_le, Int.not_lt, Int.not_le] at h15)
                    refine wl_yes rfl rfl ?_
                    refine wl_val (r_move rfl) (ltn rfl) ?_
                    refine wl_yes rfl rfl ?_
                    refine wl_val (r_move rfl) (ltn rfl) ?_
                    refine wl_yes rfl rfl ?_
                    refine wl_val (r_index Try.underlying22 Try.sizeOf21 rfl rfl (by omega)) (ltn rfl) ?_
                    refine wl_yes rfl rfl ?_
                    refine wl_val (r_load (plain_of Try.underlying21 rfl) rfl (by first | exact RdI.at1n (hv _ (HL2.right.right)) (by omega) | exact RdI.at0 (hv _ (HL2.right.right)) (by omega) | exact RdI.at1 (hv _ (HL2.right.right)) (by omega))) (ltn rfl) ?_
                    refine wl_yes rfl rfl ?_
                    refine wl_eff (e_call (r_call rfl Try.func39 rfl rfl) (ref_blank_ret)) (ltn rfl) ?_
                    rintro _ _ ⟨rfl, rfl⟩
                    refine wl_yes rfl rfl ?_
                    refine wl_split rfl (ltn rfl) (fun h16 => ?_) (fun h16 => ?_)
                    · (try simp only [beq_iff_eq, bne_iff_ne, ne_eq, decide_eq_true_eq, decide_eq_false_iff_not, beq_eq_false_iff_ne, bne_eq_false_iff_eq, Bool.not_eq_true', Bool.not_eq_false', Bool.not_eq_eq_eq_not, Bool.not_true, Bool.not_false, gt_iff_lt, ge_iff_le, Int.not_lt, Int.not_le] at h16)
                      refine wl_no rfl rfl rfl (ltn rfl) ?_
                      refine wl_no rfl rfl rfl (ltn rfl) ?_
                      refine wl_no rfl rfl rfl (ltn rfl) ?_
                      refine wl_no rfl rfl rfl (ltn rfl) ?_
                      refine wl_no rfl rfl rfl (ltn rfl) ?_
                      refine wl_yes rfl rfl ?_
                      refine wl_val (r_pick_t rfl rfl) (ltn rfl) ?_
                      refine wl_yes rfl rfl ?_
                      refine wl_val (r_pick_t rfl rfl) (ltn rfl) ?_
                      refine wl_yes rfl rfl ?_
                      refine wl_val (r_not rfl) (ltn rfl) ?_
                      refine wl_val (r_pick_t rfl rfl) (ltn rfl) ?_
                      refine wl_nil ?_
                      refine wq_seq ?_
                      refine wc_cond rfl (fun h17 => ?_) (fun h17 => ?_)
                      · (try simp only [beq_iff_eq, bne_iff_ne, ne_eq, decide_eq_true_eq, decide_eq_false_iff_not, beq_eq_false_iff_ne, bne_eq_false_iff_eq, Bool.not_eq_true', Bool.not_eq_false', Bool.not_eq_eq_eq_not, Bool.not_true, Bool.not_false, gt_iff_lt, ge_iff_le, Int.not_lt, Int.not_le] at h17)
                        
                        refine wc_skip ?_
                        refine wq_seq ?_
                        refine wc_block ?_
                        have hef : endsS l k = false := by unfold endsS; rw [decide_eq_false_iff_not]; rintro (q | ⟨qa, qb⟩); omega; first | omega | exact qb (cls_zero (by assumption) (by assumption)) | simp_all
                        refine wc_region ?_
                        refine wl_val (r_move rfl) (ltn rfl) ?_
                        refine wl_val (r_as (r_add rfl rfl (by omega)) (show Value.int .i64 ((k : Int) + 1) = .int .i64 ((k + 1 : Nat) : Int) by rw [Int.natCast_add]; rfl)) (ltn rfl) ?_
                        refine wl_val (r_assign rfl) (ltn rfl) ?_
                        refine wl_nil ?_
                        refine wq_block_normal ?_
                        refine wq_round (_) (Sub.cons rfl (Sub.nil _)) (Sub.cons rfl (Sub.cons rfl (Sub.cons rfl (Sub.cons rfl (Sub.cons rfl (Sub.cons rfl (Sub.cons rfl (Sub.cons rfl (Sub.cons rfl (Sub.cons rfl (Sub.cons rfl (Sub.cons rfl (Sub.cons rfl (Sub.cons rfl (Sub.nil _))))))))))))))) (by (try dsimp only); exact ⟨⟨by omega, by omega, peS_mono hef hpk⟩, HL2.f2.f2⟩) ?_
                        · (try dsimp only); omega
                      · (try simp only [beq_iff_eq, bne_iff_ne, ne_eq, decide_eq_true_eq, decide_eq_false_iff_not, beq_eq_false_iff_ne, bne_eq_false_iff_eq, Bool.not_eq_true', Bool.not_eq_false', Bool.not_eq_eq_eq_not, Bool.not_true, Bool.not_false, gt_iff_lt, ge_iff_le, Int.not_lt, Int.not_le] at h17)
                        have hfq := h17
                        refine wc_exit ?_
                        refine wq_then_exit ?_
                        refine wq_then_exit ?_
                        refine wq_block_hit ?_
                        refine wq_seq ?_
                        refine wc_seq ?_
                        have hee : endsS l k = true := by unfold endsS; rw [decide_eq_true_eq]; first | (left; omega) | (right; exact ⟨by assumption, cls_blank (by assumption)⟩) | (right; exact ⟨by assumption, cls_op (by assumption)⟩) | (exfalso; simp at hfq)
                        have hplt := peS_lt (plain_go hil hsn hno)
                        rw [← hpk, pe_stop hee] at hplt
                        refine wc_region ?_
                        refine wl_val (r_move rfl) (ltn rfl) ?_
                        refine wl_val (r_move rfl) (ltn rfl) ?_
                        refine wl_val (r_move rfl) (ltn rfl) ?_
                        refine wl_val (r_build (pl := #[(0, 1), (1, 1), (2, 1)]) (_) Try.underlying27 Try.zeroValue27 (fun w => by kernel_rfl) rfl (rfl)) (ltn rfl) ?_
                        refine wl_eff (e_lit_one HL2 Try.underlying24 Try.sizeOf27 Try.zeroValue27 rfl rfl rfl (by decide) (by decide)) (ltn rfl) ?_
                        rintro l36 w36 H36
                        refine wl_eff (e_append H36.f2 Try.underlying24 (show (Try.prog.info? 27).map (fun i => (i.zero, i.size, i.bytes)) = some (some (.agg #[.int .i64 0, .int .i64 0, .int .i64 0]), 3, 24) by kernel_rfl) rfl rfl rfl ((H36).row_rd) (ones_cons (by first | rfl | assumption) (ones_cons (by first | rfl | assumption) (ones_cons (by first | rfl | assumption) ones_nil))) (by omega) (by omega)) (ltn rfl) ?_
                        rintro l37 w37 H37
                        have Hd38 := H37.f2.right
                        refine wl_val (r_assign rfl) (ltn rfl) ?_
                        refine wl_nil ?_
                        refine wq_seq ?_
                        refine wc_region ?_
                        refine wl_val (r_move rfl) (ltn rfl) ?_
                        refine wl_val (r_assign rfl) (ltn rfl) ?_
                        refine wl_nil ?_
                        refine wq_block_normal ?_
                        refine wq_round (_, _) (Sub.cons rfl (Sub.cons rfl (Sub.nil _))) (Sub.cons rfl (Sub.cons rfl (Sub.nil _))) (by (try dsimp only); exact by first | exact ⟨ws, ⟨by omega, by omega, by rw [← wordsAt_skip hil hsk]; exact hws⟩, Hd38.f2.f2⟩ | exact ⟨ws ++ [(1, i, i + opS l i)], ⟨(hA (by assumption) (by assumption)).2.2, by simp; omega, by rw [← hws, wordsAt_op hil hsn hop, (hA (by assumption) (by assumption)).1, List.append_assoc]; rfl⟩, wrow_one Hd38.f2.f2⟩ | exact ⟨ws ++ [(1, i, kd + opS l kd)], ⟨(hB (by assumption)).2.2.1, by simp; omega, by rw [← hws, wordsAt_op hil hsn hop, (hB (by assumption)).1, ← hkd, List.append_assoc]; rfl⟩, wrow_one Hd38.f2.f2⟩ | exact ⟨ws ++ [(0, i, k)], ⟨by omega, by simp; omega, by rw [← hws, wordsAt_plain hil hsn hno, ← hpk, pe_stop hee, List.append_assoc]; rfl⟩, wrow_one Hd38.f2.f2⟩) ?_
                        · (try dsimp only); omega
                    · (try simp only [beq_iff_eq, bne_iff_ne, ne_eq, decide_eq_true_eq, decide_eq_false_iff_not, beq_eq_false_iff_ne, bne_eq_false_iff_eq, Bool.not_eq_true', Bool.not_eq_false', Bool.not_eq_eq_eq_not, Bool.not_true, Bool.not_false, gt_iff_lt, ge_iff_le, Int.not_lt, Int.not_le] at h16)
                      refine wl_yes rfl rfl ?_
                      refine wl_val (r_move rfl) (ltn rfl) ?_
                      refine wl_yes rfl rfl ?_
                      refine wl_val (r_move rfl) (ltn rfl) ?_
                      refine wl_yes rfl rfl ?_
                      refine wl_val (r_index Try.underlying22 Try.sizeOf21 rfl rfl (by omega)) (ltn rfl) ?_
                      refine wl_yes rfl rfl ?_
                      refine wl_val (r_load (plain_of Try.underlying21 rfl) rfl (by first | exact RdI.at1n (hv _ (HL2.right.right)) (by omega) | exact RdI.at0 (hv _ (HL2.right.right)) (by omega) | exact RdI.at1 (hv _ (HL2.right.right)) (by omega))) (ltn rfl) ?_
                      refine wl_yes rfl rfl ?_
                      refine wl_eff (e_call (r_call rfl Try.func40 rfl rfl) (ref_op_ret)) (ltn rfl) ?_
                      rintro _ _ ⟨rfl, rfl⟩
                      refine wl_yes rfl rfl ?_
                      refine wl_val (r_pick_f rfl rfl) (ltn rfl) ?_
                      refine wl_yes rfl rfl ?_
                      refine wl_val (r_pick_t rfl rfl) (ltn rfl) ?_
                      refine wl_yes rfl rfl ?_
                      refine wl_val (r_not rfl) (ltn rfl) ?_
                      refine wl_val (r_pick_t rfl rfl) (ltn rfl) ?_
                      refine wl_nil ?_
                      refine wq_seq ?_
                      refine wc_cond rfl (fun h18 => ?_) (fun h18 => ?_)
                      · (try simp only [beq_iff_eq, bne_iff_ne, ne_eq, decide_eq_true_eq, decide_eq_false_iff_not, beq_eq_false_iff_ne, bne_eq_false_iff_eq, Bool.not_eq_true', Bool.not_eq_false', Bool.not_eq_eq_eq_not, Bool.not_true, Bool.not_false, gt_iff_lt, ge_iff_le, Int.not_lt, Int.not_le] at h18)
                        
                        refine wc_skip ?_
                        refine wq_seq ?_
                        refine wc_block ?_
                        have hef : endsS l k = false := by unfold endsS; rw [decide_eq_false_iff_not]; rintro (q | ⟨qa, qb⟩); omega; first | omega | exact qb (cls_zero (by assumption) (by assumption)) | simp_all
                        refine wc_region ?_
                        refine wl_val (r_move rfl) (ltn rfl) ?_
                        refine wl_val (r_as (r_add rfl rfl (by omega)) (show Value.int .i64 ((k : Int) + 1) = .int .i64 ((k + 1 : Nat) : Int) by rw [Int.natCast_add]; rfl)) (ltn rfl) ?_
                        refine wl_val (r_assign rfl) (ltn rfl) ?_
                        refine wl_nil ?_
                        refine wq_block_normal ?_
                        refine wq_round (_) (Sub.cons rfl (Sub.nil _)) (Sub.cons rfl (Sub.cons rfl (Sub.cons rfl (Sub.cons rfl (Sub.cons rfl (Sub.cons rfl (Sub.cons rfl (Sub.cons rfl (Sub.cons rfl (Sub.cons rfl (Sub.cons rfl (Sub.cons rfl (Sub.cons rfl (Sub.cons rfl (Sub.nil _))))))))))))))) (by (try dsimp only); exact ⟨⟨by omega, by omega, peS_mono hef hpk⟩, HL2.f2.f2⟩) ?_
                        · (try dsimp only); omega
                      · (try simp only [beq_iff_eq, bne_iff_ne, ne_eq, decide_eq_true_eq, decide_eq_false_iff_not, beq_eq_false_iff_ne, bne_eq_false_iff_eq, Bool.not_eq_true', Bool.not_eq_false', Bool.not_eq_eq_eq_not, Bool.not_true, Bool.not_false, gt_iff_lt, ge_iff_le, Int.not_lt, Int.not_le] at h18)
                        have hfq := h18
                        refine wc_exit ?_
                        refine wq_then_exit ?_
                        refine wq_then_exit ?_
                        refine wq_block_hit ?_
                        refine wq_seq ?_
                        refine wc_seq ?_
                        have hee : endsS l k = true := by unfold endsS; rw [decide_eq_true_eq]; first | (left; omega) | (right; exact ⟨by assumption, cls_blank (by assumption)⟩) | (right; exact ⟨by assumption, cls_op (by assumption)⟩) | (exfalso; simp at hfq)
                        have hplt := peS_lt (plain_go hil hsn hno)
                        rw [← hpk, pe_stop hee] at hplt
                        refine wc_region ?_
                        refine wl_val (r_move rfl) (ltn rfl) ?_
                        refine wl_val (r_move rfl) (ltn rfl) ?_
                        refine wl_val (r_move rfl) (ltn rfl) ?_
                        refine wl_val (r_build (pl := #[(0, 1), (1, 1), (2, 1)]) (_) Try.underlying27 Try.zeroValue27 (fun w => by kernel_rfl) rfl (rfl)) (ltn rfl) ?_
                        refine wl_eff (e_lit_one HL2 Try.underlying24 Try.sizeOf27 Try.zeroValue27 rfl rfl rfl (by decide) (by decide)) (ltn rfl) ?_
                        rintro l40 w40 H40
                        refine wl_eff (e_append H40.f2 Try.underlying24 (show (Try.prog.info? 27).map (fun i => (i.zero, i.size, i.bytes)) = some (some (.agg #[.int .i64 0, .int .i64 0, .int .i64 0]), 3, 24) by kernel_rfl) rfl rfl rfl ((H40).row_rd) (ones_cons (by first | rfl | assumption) (ones_cons (by first | rfl | assumption) (ones_cons (by first | rfl | assumption) ones_nil))) (by omega) (by omega)) (ltn rfl) ?_
                        rintro l41 w41 H41
                        have Hd42 := H41.f2.right
                        refine wl_val (r_assign rfl) (ltn rfl) ?_
                        refine wl_nil ?_
                        refine wq_seq ?_
                        refine wc_region ?_
                        refine wl_val (r_move rfl) (ltn rfl) ?_
                        refine wl_val (r_assign rfl) (ltn rfl) ?_
                        refine wl_nil ?_
                        refine wq_block_normal ?_
                        refine wq_round (_, _) (Sub.cons rfl (Sub.cons rfl (Sub.nil _))) (Sub.cons rfl (Sub.cons rfl (Sub.nil _))) (by (try dsimp only); exact by first | exact ⟨ws, ⟨by omega, by omega, by rw [← wordsAt_skip hil hsk]; exact hws⟩, Hd42.f2.f2⟩ | exact ⟨ws ++ [(1, i, i + opS l i)], ⟨(hA (by assumption) (by assumption)).2.2, by simp; omega, by rw [← hws, wordsAt_op hil hsn hop, (hA (by assumption) (by assumption)).1, List.append_assoc]; rfl⟩, wrow_one Hd42.f2.f2⟩ | exact ⟨ws ++ [(1, i, kd + opS l kd)], ⟨(hB (by assumption)).2.2.1, by simp; omega, by rw [← hws, wordsAt_op hil hsn hop, (hB (by assumption)).1, ← hkd, List.append_assoc]; rfl⟩, wrow_one Hd42.f2.f2⟩ | exact ⟨ws ++ [(0, i, k)], ⟨by omega, by simp; omega, by rw [← hws, wordsAt_plain hil hsn hno, ← hpk, pe_stop hee, List.append_assoc]; rfl⟩, wrow_one Hd42.f2.f2⟩) ?_
                        · (try dsimp only); omega
                  · (try simp only [beq_iff_eq, bne_iff_ne, ne_eq, decide_eq_true_eq, decide_eq_false_iff_not, beq_eq_false_iff_ne, bne_eq_false_iff_eq, Bool.not_eq_true', Bool.not_eq_false', Bool.not_eq_eq_eq_not, Bool.not_true, Bool.not_false, gt_iff_lt, ge_iff_le, Int.not_lt, Int.not_le] at h15)
                    refine wl_no rfl rfl rfl (ltn rfl) ?_
                    refine wl_no rfl rfl rfl (ltn rfl) ?_
                    refine wl_no rfl rfl rfl (ltn rfl) ?_
                    refine wl_no rfl rfl rfl (ltn rfl) ?_
                    refine wl_no rfl rfl rfl (ltn rfl) ?_
                    refine wl_no rfl rfl rfl (ltn rfl) ?_
                    refine wl_nou rfl rfl (ltn rfl) ?_
                    refine wl_nou rfl rfl (ltn rfl) ?_
                    refine wl_nou rfl rfl (ltn rfl) ?_
                    refine wl_nou rfl rfl (ltn rfl) ?_
                    refine wl_nou rfl rfl (ltn rfl) ?_
                    refine wl_no rfl rfl rfl (ltn rfl) ?_
                    refine wl_yes rfl rfl ?_
                    refine wl_val (r_pick_f rfl rfl) (ltn rfl) ?_
                    refine wl_yes rfl rfl ?_
                    refine wl_val (r_not rfl) (ltn rfl) ?_
                    refine wl_val (r_pick_t rfl rfl) (ltn rfl) ?_
                    refine wl_nil ?_
                    refine wq_seq ?_
                    refine wc_cond rfl (fun h19 => ?_) (fun h19 => ?_)
                    · (try simp only [beq_iff_eq, bne_iff_ne, ne_eq, decide_eq_true_eq, decide_eq_false_iff_not, beq_eq_false_iff_ne, bne_eq_false_iff_eq, Bool.not_eq_true', Bool.not_eq_false', Bool.not_eq_eq_eq_not, Bool.not_true, Bool.not_false, gt_iff_lt, ge_iff_le, Int.not_lt, Int.not_le] at h19)
                      
                      refine wc_skip ?_
                      refine wq_seq ?_
                      refine wc_block ?_
                      have hef : endsS l k = false := by unfold endsS; rw [decide_eq_false_iff_not]; rintro (q | ⟨qa, qb⟩); omega; first | omega | exact qb (cls_zero (by assumption) (by assumption)) | simp_all
                      refine wc_region ?_
                      refine wl_val (r_move rfl) (ltn rfl) ?_
                      refine wl_val (r_as (r_add rfl rfl (by omega)) (show Value.int .i64 ((k : Int) + 1) = .int .i64 ((k + 1 : Nat) : Int) by rw [Int.natCast_add]; rfl)) (ltn rfl) ?_
                      refine wl_val (r_assign rfl) (ltn rfl) ?_
                      refine wl_nil ?_
                      refine wq_block_normal ?_
                      refine wq_round (_) (Sub.cons rfl (Sub.nil _)) (Sub.cons rfl (Sub.cons rfl (Sub.cons rfl (Sub.cons rfl (Sub.cons rfl (Sub.cons rfl (Sub.cons rfl (Sub.cons rfl (Sub.cons rfl (Sub.cons rfl (Sub.cons rfl (Sub.cons rfl (Sub.cons rfl (Sub.cons rfl (Sub.nil _))))))))))))))) (by (try dsimp only); exact ⟨⟨by omega, by omega, peS_mono hef hpk⟩, HL2.f2.f2⟩) ?_
                      · (try dsimp only); omega
                    · (try simp only [beq_iff_eq, bne_iff_ne, ne_eq, decide_eq_true_eq, decide_eq_false_iff_not, beq_eq_false_iff_ne, bne_eq_false_iff_eq, Bool.not_eq_true', Bool.not_eq_false', Bool.not_eq_eq_eq_not, Bool.not_true, Bool.not_false, gt_iff_lt, ge_iff_le, Int.not_lt, Int.not_le] at h19)
                      have hfq := h19
                      refine wc_exit ?_
                      refine wq_then_exit ?_
                      refine wq_then_exit ?_
                      refine wq_block_hit ?_
                      refine wq_seq ?_
                      refine wc_seq ?_
                      have hee : endsS l k = true := by unfold endsS; rw [decide_eq_true_eq]; first | (left; omega) | (right; exact ⟨by assumption, cls_blank (by assumption)⟩) | (right; exact ⟨by assumption, cls_op (by assumption)⟩) | (exfalso; simp at hfq)
                      have hplt := peS_lt (plain_go hil hsn hno)
                      rw [← hpk, pe_stop hee] at hplt
                      refine wc_region ?_
                      refine wl_val (r_move rfl) (ltn rfl) ?_
                      refine wl_val (r_move rfl) (ltn rfl) ?_
                      refine wl_val (r_move rfl) (ltn rfl) ?_
                      refine wl_val (r_build (pl := #[(0, 1), (1, 1), (2, 1)]) (_) Try.underlying27 Try.zeroValue27 (fun w => by kernel_rfl) rfl (rfl)) (ltn rfl) ?_
                      refine wl_eff (e_lit_one HL2 Try.underlying24 Try.sizeOf27 Try.zeroValue27 rfl rfl rfl (by decide) (by decide)) (ltn rfl) ?_
                      rintro l43 w43 H43
                      refine wl_eff (e_append H43.f2 Try.underlying24 (show (Try.prog.info? 27).map (fun i => (i.zero, i.size, i.bytes)) = some (some (.agg #[.int .i64 0, .int .i64 0, .int .i64 0]), 3, 24) by kernel_rfl) rfl rfl rfl ((H43).row_rd) (ones_cons (by first | rfl | assumption) (ones_cons (by first | rfl | assumption) (ones_cons (by first | rfl | assumption) ones_nil))) (by omega) (by omega)) (ltn rfl) ?_
                      rintro l44 w44 H44
                      have Hd45 := H44.f2.right
                      refine wl_val (r_assign rfl) (ltn rfl) ?_
                      refine wl_nil ?_
                      refine wq_seq ?_
                      refine wc_region ?_
                      refine wl_val (r_move rfl) (ltn rfl) ?_
                      refine wl_val (r_assign rfl) (ltn rfl) ?_
                      refine wl_nil ?_
                      refine wq_block_normal ?_
                      refine wq_round (_, _) (Sub.cons rfl (Sub.cons rfl (Sub.nil _))) (Sub.cons rfl (Sub.cons rfl (Sub.nil _))) (by (try dsimp only); exact by first | exact ⟨ws, ⟨by omega, by omega, by rw [← wordsAt_skip hil hsk]; exact hws⟩, Hd45.f2.f2⟩ | exact ⟨ws ++ [(1, i, i + opS l i)], ⟨(hA (by assumption) (by assumption)).2.2, by simp; omega, by rw [← hws, wordsAt_op hil hsn hop, (hA (by assumption) (by assumption)).1, List.append_assoc]; rfl⟩, wrow_one Hd45.f2.f2⟩ | exact ⟨ws ++ [(1, i, kd + opS l kd)], ⟨(hB (by assumption)).2.2.1, by simp; omega, by rw [← hws, wordsAt_op hil hsn hop, (hB (by assumption)).1, ← hkd, List.append_assoc]; rfl⟩, wrow_one Hd45.f2.f2⟩ | exact ⟨ws ++ [(0, i, k)], ⟨by omega, by simp; omega, by rw [← hws, wordsAt_plain hil hsn hno, ← hpk, pe_stop hee, List.append_assoc]; rfl⟩, wrow_one Hd45.f2.f2⟩) ?_
                      · (try dsimp only); omega
                · (try simp only [beq_iff_eq, bne_iff_ne, ne_eq, decide_eq_true_eq, decide_eq_false_iff_not, beq_eq_false_iff_ne, bne_eq_false_iff_eq, Bool.not_eq_true', Bool.not_eq_false', Bool.not_eq_eq_eq_not, Bool.not_true, Bool.not_false, gt_iff_lt, ge_iff_le, Int.not_lt, Int.not_le] at h14)
                  refine wl_no rfl rfl rfl (ltn rfl) ?_
                  refine wl_no rfl rfl rfl (ltn rfl) ?_
                  refine wl_no rfl rfl rfl (ltn rfl) ?_
                  refine wl_no rfl rfl rfl (ltn rfl) ?_
                  refine wl_no rfl rfl rfl (ltn rfl) ?_
                  refine wl_no rfl rfl rfl (ltn rfl) ?_
                  refine wl_nou rfl rfl (ltn rfl) ?_
                  refine wl_nou rfl rfl (ltn rfl) ?_
                  refine wl_nou rfl rfl (ltn rfl) ?_
                  refine wl_nou rfl rfl (ltn rfl) ?_
                  refine wl_nou rfl rfl (ltn rfl) ?_
                  refine wl_nou rfl rfl (ltn rfl) ?_
                  refine wl_nou rfl rfl (ltn rfl) ?_
                  refine wl_nou rfl rfl (ltn rfl) ?_
                  refine wl_nou rfl rfl (ltn rfl) ?_
                  refine wl_nou rfl rfl (ltn rfl) ?_
                  refine wl_nou rfl rfl (ltn rfl) ?_
                  refine wl_nou rfl rfl (ltn rfl) ?_
                  refine wl_no rfl rfl rfl (ltn rfl) ?_
                  refine wl_no rfl rfl rfl (ltn rfl) ?_
                  refine wl_val (r_pick_f rfl rfl) (ltn rfl) ?_
                  refine wl_nil ?_
                  refine wq_seq ?_
                  refine wc_cond_f rfl ?_
                  refine wc_exit ?_
                  refine wq_then_exit ?_
                  refine wq_then_exit ?_
                  refine wq_block_hit ?_
                  refine wq_seq ?_
                  refine wc_seq ?_
                  have hee : endsS l k = true := by unfold endsS; rw [decide_eq_true_eq]; first | (left; omega) | (right; exact ⟨by assumption, cls_blank (by assumption)⟩) | (right; exact ⟨by assumption, cls_op (by assumption)⟩) | (exfalso; simp at hfq)
                  have hplt := peS_lt (plain_go hil hsn hno)
                  rw [← hpk, pe_stop hee] at hplt
                  refine wc_region ?_
                  refine wl_val (r_move rfl) (ltn rfl) ?_
                  refine wl_val (r_move rfl) (ltn rfl) ?_
                  refine wl_val (r_move rfl) (ltn rfl) ?_
                  refine wl_val (r_build (pl := #[(0, 1), (1, 1), (2, 1)]) (_) Try.underlying27 Try.zeroValue27 (fun w => by kernel_rfl) rfl (rfl)) (ltn rfl) ?_
                  refine wl_eff (e_lit_one HL2 Try.underlying24 Try.sizeOf27 Try.zeroValue27 rfl rfl rfl (by decide) (by decide)) (ltn rfl) ?_
                  rintro l46 w46 H46
                  refine wl_eff (e_append H46.f2 Try.underlying24 (show (Try.prog.info? 27).map (fun i => (i.zero, i.size, i.bytes)) = some (some (.agg #[.int .i64 0, .int .i64 0, .int .i64 0]), 3, 24) by kernel_rfl) rfl rfl rfl ((H46).row_rd) (ones_cons (by first | rfl | assumption) (ones_cons (by first | rfl | assumption) (ones_cons (by first | rfl | assumption) ones_nil))) (by omega) (by omega)) (ltn rfl) ?_
                  rintro l47 w47 H47
                  have Hd48 := H47.f2.right
                  refine wl_val (r_assign rfl) (ltn rfl) ?_
                  refine wl_nil ?_
                  refine wq_seq ?_
                  refine wc_region ?_
                  refine wl_val (r_move rfl) (ltn rfl) ?_
                  refine wl_val (r_assign rfl) (ltn rfl) ?_
                  refine wl_nil ?_
                  refine wq_block_normal ?_
                  refine wq_round (_, _) (Sub.cons rfl (Sub.cons rfl (Sub.nil _))) (Sub.cons rfl (Sub.cons rfl (Sub.nil _))) (by (try dsimp only); exact by first | exact ⟨ws, ⟨by omega, by omega, by rw [← wordsAt_skip hil hsk]; exact hws⟩, Hd48.f2.f2⟩ | exact ⟨ws ++ [(1, i, i + opS l i)], ⟨(hA (by assumption) (by assumption)).2.2, by simp; omega, by rw [← hws, wordsAt_op hil hsn hop, (hA (by assumption) (by assumption)).1, List.append_assoc]; rfl⟩, wrow_one Hd48.f2.f2⟩ | exact ⟨ws ++ [(1, i, kd + opS l kd)], ⟨(hB (by assumption)).2.2.1, by simp; omega, by rw [← hws, wordsAt_op hil hsn hop, (hB (by assumption)).1, ← hkd, List.append_assoc]; rfl⟩, wrow_one Hd48.f2.f2⟩ | exact ⟨ws ++ [(0, i, k)], ⟨by omega, by simp; omega, by rw [← hws, wordsAt_plain hil hsn hno, ← hpk, pe_stop hee, List.append_assoc]; rfl⟩, wrow_one Hd48.f2.f2⟩) ?_
                  · (try dsimp only); omega
          · skip
            refine wc_region ?_
            refine wl_val (r_move rfl) (ltn rfl) ?_
            refine wl_val (r_move rfl) (ltn rfl) ?_
            refine wl_val (r_len Try.underlying22 rfl) (ltn rfl) ?_
            refine wl_val (r_lss rfl rfl) (ltn rfl) ?_
            refine wl_split rfl (ltn rfl) (fun h20 => ?_) (fun h20 => ?_)
            · (try simp only [beq_iff_eq, bne_iff_ne, ne_eq, decide_eq_true_eq, decide_eq_false_iff_not, beq_eq_false_iff_ne, bne_eq_false_iff_eq, Bool.not_eq_true', Bool.not_eq_false', Bool.not_eq_eq_eq_not, Bool.not_true, Bool.not_false, gt_iff_lt, ge_iff_le, Int.not_lt, Int.not_le] at h20)
              refine wl_yes rfl rfl ?_
              refine wl_val (r_move rfl) (ltn rfl) ?_
              refine wl_yes rfl rfl ?_
              refine wl_val (r_move rfl) (ltn rfl) ?_
              refine wl_yes rfl rfl ?_
              obtain ⟨bu1, ou1, cu1, eu1⟩ := RdI.posV ((HJ.f2).row_rd) (by omega)
              cases eu1
              refine wl_val (r_index Try.underlying47 Try.sizeOf3 rfl rfl (by omega)) (ltn rfl) ?_
              refine wl_yes rfl rfl ?_
              refine wl_val (r_as (r_load (plain_of Try.underlying3 rfl) rfl (by first | exact RdI.at1n ((HJ.f2).row_rd) (by omega) | exact RdI.at0 ((HJ.f2).row_rd) (by omega) | exact RdI.at1 ((HJ.f2).row_rd) (by omega))) (show Value.int .i64 ((statesS l).getD kd 0) = .int .i64 (quoS l kd) by rw [statesS_at (by omega)])) (ltn rfl) ?_
              refine wl_yes rfl rfl ?_
              refine wl_val (r_eql rfl rfl) (ltn rfl) ?_
              refine wl_val (r_pick_t rfl rfl) (ltn rfl) ?_
              refine wl_split rfl (ltn rfl) (fun h21 => ?_) (fun h21 => ?_)
              · (try simp only [beq_iff_eq, bne_iff_ne, ne_eq, decide_eq_true_eq, decide_eq_false_iff_not, beq_eq_false_iff_ne, bne_eq_false_iff_eq, Bool.not_eq_true', Bool.not_eq_false', Bool.not_eq_eq_eq_not, Bool.not_true, Bool.not_false, gt_iff_lt, ge_iff_le, Int.not_lt, Int.not_le] at h21)
                refine wl_yes rfl rfl ?_
                refine wl_val (r_move rfl) (ltn rfl) ?_
                refine wl_yes rfl rfl ?_
                refine wl_val (r_move rfl) (ltn rfl) ?_
                refine wl_yes rfl rfl ?_
                refine wl_val (r_index Try.underlying22 Try.sizeOf21 rfl rfl (by omega)) (ltn rfl) ?_
                refine wl_yes rfl rfl ?_
                refine wl_val (r_load (plain_of Try.underlying21 rfl) rfl (by first | exact RdI.at1n (hv _ (HJ.right.right)) (by omega) | exact RdI.at0 (hv _ (HJ.right.right)) (by omega) | exact RdI.at1 (hv _ (HJ.right.right)) (by omega))) (ltn rfl) ?_
                refine wl_yes rfl rfl ?_
                refine wl_val (r_eql rfl rfl) (ltn rfl) ?_
                refine wl_yes rfl rfl ?_
                refine wl_split rfl (ltn rfl) (fun h22 => ?_) (fun h22 => ?_)
                · (try simp only [beq_iff_eq, bne_iff_ne, ne_eq, decide_eq_true_eq, decide_eq_false_iff_not, beq_eq_false_iff_ne, bne_eq_false_iff_eq, Bool.not_eq_true', Bool.not_eq_false', Bool.not_eq_eq_eq_not, Bool.not_true, Bool.not_false, gt_iff_lt, ge_iff_le, Int.not_lt, Int.not_le] at h22)
                  refine wl_no rfl rfl rfl (ltn rfl) ?_
                  refine wl_no rfl rfl rfl (ltn rfl) ?_
                  refine wl_no rfl rfl rfl (ltn rfl) ?_
                  refine wl_no rfl rfl rfl (ltn rfl) ?_
                  refine wl_no rfl rfl rfl (ltn rfl) ?_
                  refine wl_yes rfl rfl ?_
                  refine wl_val (r_pick_t rfl rfl) (ltn rfl) ?_
                  refine wl_val (r_pick_t rfl rfl) (ltn rfl) ?_
                  refine wl_val (r_assign rfl) (ltn rfl) ?_
                  refine wl_nil ?_
                  refine wq_join (_) (Sub.cons rfl (Sub.nil _)) (Sub.cons rfl (Sub.cons rfl (Sub.cons rfl (Sub.cons rfl (Sub.cons rfl (Sub.cons rfl (Sub.cons rfl (Sub.cons rfl (Sub.cons rfl (Sub.cons rfl (Sub.cons rfl (Sub.nil _)))))))))))) (by (try dsimp only); exact ⟨by first | (simp; omega) | (simp_all; done) | (simp_all; omega), HJ.f2.f2⟩)
                · (try simp only [beq_iff_eq, bne_iff_ne, ne_eq, decide_eq_true_eq, decide_eq_false_iff_not, beq_eq_false_iff_ne, bne_eq_false_iff_eq, Bool.not_eq_true', Bool.not_eq_false', Bool.not_eq_eq_eq_not, Bool.not_true, Bool.not_false, gt_iff_lt, ge_iff_le, Int.not_lt, Int.not_le] at h22)
                  refine wl_yes rfl rfl ?_
                  refine wl_val (r_move rfl) (ltn rfl) ?_
                  refine wl_yes rfl rfl ?_
                  refine wl_val (r_move rfl) (ltn rfl) ?_
                  refine wl_yes rfl rfl ?_
                  refine wl_val (r_index Try.underlying22 Try.sizeOf21 rfl rfl (by omega)) (ltn rfl) ?_
                  refine wl_yes rfl rfl ?_
                  refine wl_val (r_load (plain_of Try.underlying21 rfl) rfl (by first | exact RdI.at1n (hv _ (HJ.right.right)) (by omega) | exact RdI.at0 (hv _ (HJ.right.right)) (by omega) | exact RdI.at1 (hv _ (HJ.right.right)) (by omega))) (ltn rfl) ?_
                  refine wl_yes rfl rfl ?_
                  refine wl_val (r_eql rfl rfl) (ltn rfl) ?_
                  refine wl_yes rfl rfl ?_
                  refine wl_val (r_pick_f rfl rfl) (ltn rfl) ?_
                  refine wl_val (r_pick_t rfl rfl) (ltn rfl) ?_
                  refine wl_val (r_assign rfl) (ltn rfl) ?_
                  refine wl_nil ?_
                  refine wq_join (_) (Sub.cons rfl (Sub.nil _)) (Sub.cons rfl (Sub.cons rfl (Sub.cons rfl (Sub.cons rfl (Sub.cons rfl (Sub.cons rfl (Sub.cons rfl (Sub.cons rfl (Sub.cons rfl (Sub.cons rfl (Sub.cons rfl (Sub.nil _)))))))))))) (by (try dsimp only); exact ⟨by first | (simp; omega) | (simp_all; done) | (simp_all; omega), HJ.f2.f2⟩)
              · (try simp only [beq_iff_eq, bne_iff_ne, ne_eq, decide_eq_true_eq, decide_eq_false_iff_not, beq_eq_false_iff_ne, bne_eq_false_iff_eq, Bool.not_eq_true', Bool.not_eq_false', Bool.not_eq_eq_eq_not, Bool.not_true, Bool.not_false, gt_iff_lt, ge_iff_le, Int.not_lt, Int.not_le] at h21)
                refine wl_no rfl rfl rfl (ltn rfl) ?_
                refine wl_no rfl rfl rfl (ltn rfl) ?_
                refine wl_no rfl rfl rfl (ltn rfl) ?_
                refine wl_no rfl rfl rfl (ltn rfl) ?_
                refine wl_no rfl rfl rfl (ltn rfl) ?_
                refine wl_no rfl rfl rfl (ltn rfl) ?_
                refine wl_nou rfl rfl (ltn rfl) ?_
                refine wl_nou rfl rfl (ltn rfl) ?_
                refine wl_nou rfl rfl (ltn rfl) ?_
                refine wl_nou rfl rfl (ltn rfl) ?_
                refine wl_nou rfl rfl (ltn rfl) ?_
                refine wl_no rfl rfl rfl (ltn rfl) ?_
                refine wl_val (r_pick_f rfl rfl) (ltn rfl) ?_
                refine wl_val (r_assign rfl) (ltn rfl) ?_
                refine wl_nil ?_
                refine wq_join (_) (Sub.cons rfl (Sub.nil _)) (Sub.cons rfl (Sub.cons rfl (Sub.cons rfl (Sub.cons rfl (Sub.cons rfl (Sub.cons rfl (Sub.cons rfl (Sub.cons rfl (Sub.cons rfl (Sub.cons rfl (Sub.cons rfl (Sub.nil _)))))))))))) (by (try dsimp only); exact ⟨by first | (simp; omega) | (simp_all; done) | (simp_all; omega), HJ.f2.f2⟩)
            · (try simp only [beq_iff_eq, bne_iff_ne, ne_eq, decide_eq_true_eq, decide_eq_false_iff_not, beq_eq_false_iff_ne, bne_eq_false_iff_eq, Bool.not_eq_true', Bool.not_eq_false', Bool.not_eq_eq_eq_not, Bool.not_true, Bool.not_false, gt_iff_lt, ge_iff_le, Int.not_lt, Int.not_le] at h20)
              refine wl_no rfl rfl rfl (ltn rfl) ?_
              refine wl_no rfl rfl rfl (ltn rfl) ?_
              refine wl_no rfl rfl rfl (ltn rfl) ?_
              refine wl_no rfl rfl rfl (ltn rfl) ?_
              refine wl_no rfl rfl rfl (ltn rfl) ?_
              refine wl_val (r_pick_f rfl rfl) (ltn rfl) ?_
              refine wl_val (r_move rfl) (ltn rfl) ?_
              refine wl_no rfl rfl rfl (ltn rfl) ?_
              refine wl_no rfl rfl rfl (ltn rfl) ?_
              refine wl_no rfl rfl rfl (ltn rfl) ?_
              refine wl_no rfl rfl rfl (ltn rfl) ?_
              refine wl_no rfl rfl rfl (ltn rfl) ?_
              refine wl_no rfl rfl rfl (ltn rfl) ?_
              refine wl_nou rfl rfl (ltn rfl) ?_
              refine wl_nou rfl rfl (ltn rfl) ?_
              refine wl_nou rfl rfl (ltn rfl) ?_
              refine wl_nou rfl rfl (ltn rfl) ?_
              refine wl_nou rfl rfl (ltn rfl) ?_
              refine wl_no rfl rfl rfl (ltn rfl) ?_
              refine wl_val (r_pick_f rfl rfl) (ltn rfl) ?_
              refine wl_val (r_assign rfl) (ltn rfl) ?_
              refine wl_nil ?_
              refine wq_join (_) (Sub.cons rfl (Sub.nil _)) (Sub.cons rfl (Sub.cons rfl (Sub.cons rfl (Sub.cons rfl (Sub.cons rfl (Sub.cons rfl (Sub.cons rfl (Sub.cons rfl (Sub.cons rfl (Sub.cons rfl (Sub.cons rfl (Sub.nil _)))))))))))) (by (try dsimp only); exact ⟨by first | (simp; omega) | (simp_all; done) | (simp_all; omega), HJ.f2.f2⟩)
        · skip
          refine wc_block ?_
          refine wc_loop [(0, _), (3, _), (5, _), (6, _), (7, _), (27, _), (28, _), (29, _), (30, _), (31, _)] (fun (k : Nat) => [(8, .int .i64 (k : Int))]) (fun (k : Nat) W => (i ≤ k ∧ k ≤ l.length ∧ k + digN l k = i + digN l i) ∧ Holds w0 W (Row 27 3 u ws.length (ws.flatMap wdE) • RowI 3 .i64 (.slice (some ⟨bu1, ou1, none⟩) (stL l) cu1) (statesS l) • F)) (fun (k : Nat) => l.length - k) (i) (Sub.cons rfl (Sub.cons rfl (Sub.cons rfl (Sub.cons rfl (Sub.cons rfl (Sub.cons rfl (Sub.cons rfl (Sub.cons rfl (Sub.cons rfl (Sub.cons rfl (Sub.nil _))))))))))) (Sub.cons rfl (Sub.nil _)) ⟨⟨by omega, by omega, rfl⟩, HL.f2.f2⟩ ?_
          rintro k w49 ⟨⟨hk, hkl, hkn⟩, HL1⟩
          dsimp only [List.cons_append, List.nil_append]
          refine wc_seq ?_
          refine wc_seq ?_
          refine wc_region ?_
          refine wl_val (r_move rfl) (ltn rfl) ?_
          refine wl_val (r_move rfl) (ltn rfl) ?_
          refine wl_val (r_len Try.underlying22 rfl) (ltn rfl) ?_
          refine wl_val (r_lss rfl rfl) (ltn rfl) ?_
          refine wl_split rfl (ltn rfl) (fun h23 => ?_) (fun h23 => ?_)
          · (try simp only [beq_iff_eq, bne_iff_ne, ne_eq, decide_eq_true_eq, decide_eq_false_iff_not, beq_eq_false_iff_ne, bne_eq_false_iff_eq, Bool.not_eq_true', Bool.not_eq_false', Bool.not_eq_eq_eq_not, Bool.not_true, Bool.not_false, gt_iff_lt, ge_iff_le, Int.not_lt, Int.not_le] at h23)
            refine wl_yes rfl rfl ?_
            refine wl_val (r_move rfl) (ltn rfl) ?_
            refine wl_yes rfl rfl ?_
            refine wl_val (r_move rfl) (ltn rfl) ?_
            refine wl_yes rfl rfl ?_
            obtain ⟨bu1, ou1, cu1, eu1⟩ := RdI.posV ((HL1.f2).row_rd) (by omega)
            cases eu1
            refine wl_val (r_index Try.underlying47 Try.sizeOf3 rfl rfl (by omega)) (ltn rfl) ?_
            refine wl_yes rfl rfl ?_
            refine wl_val (r_as (r_load (plain_of Try.underlying3 rfl) rfl (by first | exact RdI.at1n ((HL1.f2).row_rd) (by omega) | exact RdI.at0 ((HL1.f2).row_rd) (by omega) | exact RdI.at1 ((HL1.f2).row_rd) (by omega))) (show Value.int .i64 ((statesS l).getD k 0) = .int .i64 (quoS l k) by rw [statesS_at (by omega)])) (ltn rfl) ?_
            refine wl_yes rfl rfl ?_
            refine wl_val (r_eql rfl rfl) (ltn rfl) ?_
            refine wl_val (r_pick_t rfl rfl) (ltn rfl) ?_
            refine wl_split rfl (ltn rfl) (fun h24 => ?_) (fun h24 => ?_)
            · (try simp only [beq_iff_eq, bne_iff_ne, ne_eq, decide_eq_true_eq, decide_eq_false_iff_not, beq_eq_false_iff_ne, bne_eq_false_iff_eq, Bool.not_eq_true', Bool.not_eq_false', Bool.not_eq_eq_eq_not, Bool.not_true, Bool.not_false, gt_iff_lt, ge_iff_le, Int.not_lt, Int.not_le] at h24)
              refine wl_yes rfl rfl ?_
              refine wl_val (r_move rfl) (ltn rfl) ?_
              refine wl_yes rfl rfl ?_
              refine wl_val (r_move rfl) (ltn rfl) ?_
              refine wl_yes rfl rfl ?_
              refine wl_val (r_index Try.underlying22 Try.sizeOf21 rfl rfl (by omega)) (ltn rfl) ?_
              refine wl_yes rfl rfl ?_
              refine wl_val (r_load (plain_of Try.underlying21 rfl) rfl (by first | exact RdI.at1n (hv _ (HL1.right.right)) (by omega) | exact RdI.at0 (hv _ (HL1.right.right)) (by omega) | exact RdI.at1 (hv _ (HL1.right.right)) (by omega))) (ltn rfl) ?_
              refine wl_yes rfl rfl ?_
              refine wl_eff (e_call (r_call rfl Try.func42 rfl rfl) (ref_digit_ret)) (ltn rfl) ?_
              rintro _ _ ⟨rfl, rfl⟩
              refine wl_val (r_pick_t rfl rfl) (ltn rfl) ?_
              refine wl_nil ?_
              refine wq_seq ?_
              refine wc_cond rfl (fun h25 => ?_) (fun h25 => ?_)
              · (try simp only [beq_iff_eq, bne_iff_ne, ne_eq, decide_eq_true_eq, decide_eq_false_iff_not, beq_eq_false_iff_ne, bne_eq_false_iff_eq, Bool.not_eq_true', Bool.not_eq_false', Bool.not_eq_eq_eq_not, Bool.not_true, Bool.not_false, gt_iff_lt, ge_iff_le, Int.not_lt, Int.not_le] at h25)
                
                refine wc_skip ?_
                refine wq_seq ?_
                refine wc_block ?_
                have hdg : isDig l k = true := by unfold isDig; rw [decide_eq_true_eq]; omega
                refine wc_region ?_
                refine wl_val (r_move rfl) (ltn rfl) ?_
                refine wl_val (r_as (r_add rfl rfl (by omega)) (show Value.int .i64 ((k : Int) + 1) = .int .i64 ((k + 1 : Nat) : Int) by rw [Int.natCast_add]; rfl)) (ltn rfl) ?_
                refine wl_val (r_assign rfl) (ltn rfl) ?_
                refine wl_nil ?_
                refine wq_block_normal ?_
                refine wq_round (_) (Sub.cons rfl (Sub.nil _)) (Sub.cons rfl (Sub.cons rfl (Sub.cons rfl (Sub.cons rfl (Sub.cons rfl (Sub.cons rfl (Sub.cons rfl (Sub.cons rfl (Sub.cons rfl (Sub.cons rfl (Sub.nil _))))))))))) (by (try dsimp only); exact ⟨⟨by omega, by omega, by rw [← hkn, digN_step hdg]; omega⟩, HL1.f2.f2⟩) ?_
                · (try dsimp only); omega
              · (try simp only [beq_iff_eq, bne_iff_ne, ne_eq, decide_eq_true_eq, decide_eq_false_iff_not, beq_eq_false_iff_ne, bne_eq_false_iff_eq, Bool.not_eq_true', Bool.not_eq_false', Bool.not_eq_eq_eq_not, Bool.not_true, Bool.not_false, gt_iff_lt, ge_iff_le, Int.not_lt, Int.not_le] at h25)
                
                refine wc_exit ?_
                refine wq_then_exit ?_
                have hdz : isDig l k = false := by unfold isDig; rw [decide_eq_false_iff_not]; omega
                have hkd1 : k = i + digN l i := by rw [digN_stop hdz] at hkn; omega
                refine wq_then_exit ?_
                refine wq_block_hit ?_
                refine wq_join (_) (Sub.cons rfl (Sub.nil _)) (Sub.cons rfl (Sub.cons rfl (Sub.cons rfl (Sub.cons rfl (Sub.cons rfl (Sub.cons rfl (Sub.cons rfl (Sub.cons rfl (Sub.cons rfl (Sub.cons rfl (Sub.nil _))))))))))) (by (try dsimp only); exact ⟨hkd1, HL1.f2.f2⟩)
            · (try simp only [beq_iff_eq, bne_iff_ne, ne_eq, decide_eq_true_eq, decide_eq_false_iff_not, beq_eq_false_iff_ne, bne_eq_false_iff_eq, Bool.not_eq_true', Bool.not_eq_false', Bool.not_eq_eq_eq_not, Bool.not_true, Bool.not_false, gt_iff_lt, ge_iff_le, Int.not_lt, Int.not_le] at h24)
              refine wl_no rfl rfl rfl (ltn rfl) ?_
              refine wl_no rfl rfl rfl (ltn rfl) ?_
              refine wl_no rfl rfl rfl (ltn rfl) ?_
              refine wl_no rfl rfl rfl (ltn rfl) ?_
              refine wl_no rfl rfl rfl (ltn rfl) ?_
              refine wl_val (r_pick_f rfl rfl) (ltn rfl) ?_
              refine wl_nil ?_
              refine wq_seq ?_
              refine wc_cond_f rfl ?_
              refine wc_exit ?_
              refine wq_then_exit ?_
              have hdz : isDig l k = false := by unfold isDig; rw [decide_eq_false_iff_not]; omega
              have hkd1 : k = i + digN l i := by rw [digN_stop hdz] at hkn; omega
              refine wq_then_exit ?_
              refine wq_block_hit ?_
              refine wq_join (_) (Sub.cons rfl (Sub.nil _)) (Sub.cons rfl (Sub.cons rfl (Sub.cons rfl (Sub.cons rfl (Sub.cons rfl (Sub.cons rfl (Sub.cons rfl (Sub.cons rfl (Sub.cons rfl (Sub.cons rfl (Sub.nil _))))))))))) (by (try dsimp only); exact ⟨hkd1, HL1.f2.f2⟩)
          · (try simp only [beq_iff_eq, bne_iff_ne, ne_eq, decide_eq_true_eq, decide_eq_false_iff_not, beq_eq_false_iff_ne, bne_eq_false_iff_eq, Bool.not_eq_true', Bool.not_eq_false', Bool.not_eq_eq_eq_not, Bool.not_true, Bool.not_false, gt_iff_lt, ge_iff_le, Int.not_lt, Int.not_le] at h23)
            refine wl_no rfl rfl rfl (ltn rfl) ?_
            refine wl_no rfl rfl rfl (ltn rfl) ?_
            refine wl_no rfl rfl rfl (ltn rfl) ?_
            refine wl_no rfl rfl rfl (ltn rfl) ?_
            refine wl_no rfl rfl rfl (ltn rfl) ?_
            refine wl_val (r_pick_f rfl rfl) (ltn rfl) ?_
            refine wl_val (r_move rfl) (ltn rfl) ?_
            refine wl_no rfl rfl rfl (ltn rfl) ?_
            refine wl_no rfl rfl rfl (ltn rfl) ?_
            refine wl_no rfl rfl rfl (ltn rfl) ?_
            refine wl_no rfl rfl rfl (ltn rfl) ?_
            refine wl_no rfl rfl rfl (ltn rfl) ?_
            refine wl_val (r_pick_f rfl rfl) (ltn rfl) ?_
            refine wl_nil ?_
            refine wq_seq ?_
            refine wc_cond_f rfl ?_
            refine wc_exit ?_
            refine wq_then_exit ?_
            have hdz : isDig l k = false := by unfold isDig; rw [decide_eq_false_iff_not]; omega
            have hkd1 : k = i + digN l i := by rw [digN_stop hdz] at hkn; omega
            refine wq_then_exit ?_
            refine wq_block_hit ?_
            refine wq_join (_) (Sub.cons rfl (Sub.nil _)) (Sub.cons rfl (Sub.cons rfl (Sub.cons rfl (Sub.cons rfl (Sub.cons rfl (Sub.cons rfl (Sub.cons rfl (Sub.cons rfl (Sub.cons rfl (Sub.cons rfl (Sub.nil _))))))))))) (by (try dsimp only); exact ⟨hkd1, HL1.f2.f2⟩)
    · (try simp only [beq_iff_eq, bne_iff_ne, ne_eq, decide_eq_true_eq, decide_eq_false_iff_not, beq_eq_false_iff_ne, bne_eq_false_iff_eq, Bool.not_eq_true', Bool.not_eq_false', Bool.not_eq_eq_eq_not, Bool.not_true, Bool.not_false, gt_iff_lt, ge_iff_le, Int.not_lt, Int.not_le] at h2)
      refine wl_no rfl rfl rfl (ltn rfl) ?_
      refine wl_no rfl rfl rfl (ltn rfl) ?_
      refine wl_no rfl rfl rfl (ltn rfl) ?_
      refine wl_no rfl rfl rfl (ltn rfl) ?_
      refine wl_no rfl rfl rfl (ltn rfl) ?_
      refine wl_val (r_pick_f rfl rfl) (ltn rfl) ?_
      refine wl_nil ?_
      refine wq_seq ?_
      refine wc_cond_f rfl ?_
      refine wc_skip ?_
      refine wq_seq ?_
      refine wc_seq ?_
      have hsn : skipS l i = false := by unfold skipS; rw [decide_eq_false_iff_not]; rintro ⟨qa, qb⟩; first | omega | simp_all
      refine wc_region ?_
      refine wl_val (r_move rfl) (ltn rfl) ?_
      refine wl_val (r_assign rfl) (ltn rfl) ?_
      refine wl_nil ?_
      refine wq_seq ?_
      refine wc_join [(0, _), (3, _), (5, _), (6, _), (7, _), (27, _), (28, _), (29, _), (30, _), (31, _)] (fun (kd : Nat) => [(8, .int .i64 (kd : Int))]) (fun (kd : Nat) W => (kd = i + digN l i) ∧ Holds w0 W (Row 27 3 u ws.length (ws.flatMap wdE) • RowI 3 .i64 (.slice (some ⟨bu1, ou1, none⟩) (stL l) cu1) (statesS l) • F)) (Sub.cons rfl (Sub.cons rfl (Sub.cons rfl (Sub.cons rfl (Sub.cons rfl (Sub.cons rfl (Sub.cons rfl (Sub.cons rfl (Sub.cons rfl (Sub.cons rfl (Sub.nil _))))))))))) ?_ ?_
      · rintro kd w51 ⟨hkd, HJ⟩
        dsimp only [List.cons_append, List.nil_append]
        refine wc_join [(0, _), (3, _), (5, _), (6, _), (7, _), (8, _), (27, _), (28, _), (29, _), (30, _), (31, _)] (fun (rb : Bool) => [(9, .bool rb)]) (fun (rb : Bool) W => (rb = true ↔ (kd < l.length ∧ quoS l kd = 0 ∧ (l.getD kd 0 = 60 ∨ l.getD kd 0 = 62))) ∧ Holds w0 W (Row 27 3 u ws.length (ws.flatMap wdE) • RowI 3 .i64 (.slice (some ⟨bu1, ou1, none⟩) (stL l) cu1) (statesS l) • F)) (Sub.cons rfl (Sub.cons rfl (Sub.cons rfl (Sub.cons rfl (Sub.cons rfl (Sub.cons rfl (Sub.cons rfl (Sub.cons rfl (Sub.cons rfl (Sub.cons rfl (Sub.cons rfl (Sub.nil _)))))))))))) ?_ ?_
        · rintro rb w52 ⟨hrb, HJ2⟩
          dsimp only [List.cons_append, List.nil_append]
          refine wc_seq ?_
          refine wc_seq ?_
          refine wc_region ?_
          refine wl_val (r_move rfl) (ltn rfl) ?_
          refine wl_split rfl (ltn rfl) (fun h26 => ?_) (fun h26 => ?_)
          · (try simp only [beq_iff_eq, bne_iff_ne, ne_eq, decide_eq_true_eq, decide_eq_false_iff_not, beq_eq_false_iff_ne, bne_eq_false_iff_eq, Bool.not_eq_true', Bool.not_eq_false', Bool.not_eq_eq_eq_not, Bool.not_true, Bool.not_false, gt_iff_lt, ge_iff_le, Int.not_lt, Int.not_le] at h26)
            refine wl_yes rfl rfl ?_
            refine wl_val (r_move rfl) (ltn rfl) ?_
            refine wl_yes rfl rfl ?_
            refine wl_val (r_move rfl) (ltn rfl) ?_
            refine wl_yes rfl rfl ?_
            obtain ⟨bv, ov, cv, ev⟩ := RdI.posV (hv _ (HJ2.right.right)) (by omega)
            cases ev
            refine wl_val (r_index Try.underlying22 Try.sizeOf21 rfl rfl (by omega)) (ltn rfl) ?_
            refine wl_yes rfl rfl ?_
            refine wl_val (r_load (plain_of Try.underlying21 rfl) rfl (by first | exact RdI.at1n (hv _ (HJ2.right.right)) (by omega) | exact RdI.at0 (hv _ (HJ2.right.right)) (by omega) | exact RdI.at1 (hv _ (HJ2.right.right)) (by omega))) (ltn rfl) ?_
            refine wl_yes rfl rfl ?_
            refine wl_eff (e_call (r_call rfl Try.func40 rfl rfl) (ref_op_ret)) (ltn rfl) ?_
            rintro _ _ ⟨rfl, rfl⟩
            refine wl_val (r_pick_t rfl rfl) (ltn rfl) ?_
            refine wl_nil ?_
            refine wq_seq ?_
            refine wc_cond rfl (fun h27 => ?_) (fun h27 => ?_)
            · (try simp only [beq_iff_eq, bne_iff_ne, ne_eq, decide_eq_true_eq, decide_eq_false_iff_not, beq_eq_false_iff_ne, bne_eq_false_iff_eq, Bool.not_eq_true', Bool.not_eq_false', Bool.not_eq_eq_eq_not, Bool.not_true, Bool.not_false, gt_iff_lt, ge_iff_le, Int.not_lt, Int.not_le] at h27)
              
              refine wc_seq ?_
              refine wc_region ?_
              refine wl_val (r_move rfl) (ltn rfl) ?_
              refine wl_val (r_assign rfl) (ltn rfl) ?_
              refine wl_nil ?_
              refine wq_seq ?_
              refine wc_region ?_
              refine wl_val (r_assign rfl) (ltn rfl) ?_
              refine wl_nil ?_
              refine wq_seq ?_
              refine wc_seq ?_
              refine wc_seq ?_
              refine wc_region ?_
              refine wl_val (r_move rfl) (ltn rfl) ?_
              refine wl_nil ?_
              refine wq_seq ?_
              refine wc_cond_t rfl ?_
              refine wc_seq ?_
              have hA : operS (l.getD i 0) = true → quoS l i = 0 → digS l i = 0 ∧ isOp l i (digS l i) = true ∧ i + opS l i ≤ l.length := fun qa qb => by
                have q0 := digS_zero (op_dig qa)
                exact ⟨q0, by unfold isOp; rw [decide_eq_true_eq, q0, Nat.add_zero]; exact ⟨hil, qb, qa⟩, opS_le hil⟩
              have hB : rb = true → digS l i = digN l i ∧ isOp l i (digS l i) = true ∧ kd + opS l kd ≤ l.length ∧ kd < l.length := fun qa => by
                have hr := hrb.1 qa
                have := red_op hkd hr.1 hr.2.1 hr.2.2
                exact ⟨this.1, this.2, opS_le hr.1, hr.1⟩
              have hp1 := opS_pos l i
              have hp2 := opS_pos l kd
              have hp3 := opS_small l i
              have hp4 := opS_small l kd
              have hop : isOp l i (digS l i) = true := by first | exact (hA (by assumption) (by assumption)).2.1 | exact (hB (by assumption)).2.1
              refine wc_region ?_
              refine wl_val (r_move rfl) (ltn rfl) ?_
              refine wl_val (r_move rfl) (ltn rfl) ?_
              refine wl_val (r_move rfl) (ltn rfl) ?_
              refine wl_val (r_move rfl) (ltn rfl) ?_
              refine wl_eff (e_call (r_call rfl Try.func43 rfl rfl) (ref_oper_ret HJ2 (fun W HW => hv _ (HW.right.right)) (fun W HW => (HW.f2).row_rd) (by omega) (by first | exact hil | exact (hB (by assumption)).2.2.2))) (ltn rfl) ?_
              rintro _ w54 ⟨rfl, H54⟩
              refine wl_val (r_as (r_add rfl rfl (by omega)) ((by first | exact (show Value.int .i64 ((i : Int) + (opS l i : Nat)) = .int .i64 ((i + opS l i : Nat) : Int) from by rw [Int.natCast_add]) | exact (show Value.int .i64 ((kd : Int) + (opS l kd : Nat)) = .int .i64 ((kd + opS l kd : Nat) : Int) from by rw [Int.natCast_add])))) (ltn rfl) ?_
              refine wl_val (r_assign rfl) (ltn rfl) ?_
              refine wl_nil ?_
              refine wq_seq ?_
              refine wc_seq ?_
              refine wc_region ?_
              refine wl_val (r_move rfl) (ltn rfl) ?_
              refine wl_val (r_move rfl) (ltn rfl) ?_
              refine wl_val (r_move rfl) (ltn rfl) ?_
              refine wl_val (r_build (pl := #[(0, 1), (1, 1), (2, 1)]) (_) Try.underlying27 Try.zeroValue27 (fun w => by kernel_rfl) rfl (rfl)) (ltn rfl) ?_
              refine wl_eff (e_lit_one H54 Try.underlying24 Try.sizeOf27 Try.zeroValue27 rfl rfl rfl (by decide) (by decide)) (ltn rfl) ?_
              rintro l55 w55 H55
              refine wl_eff (e_append H55.f2 Try.underlying24 (show (Try.prog.info? 27).map (fun i => (i.zero, i.size, i.bytes)) = some (some (.agg #[.int .i64 0, .int .i64 0, .int .i64 0]), 3, 24) by kernel_rfl) rfl rfl rfl ((H55).row_rd) (ones_cons (by first | rfl | assumption) (ones_cons (by first | rfl | assumption) (ones_cons (by first | rfl | assumption) ones_nil))) (by omega) (by omega)) (ltn rfl) ?_
              rintro l56 w56 H56
              have Hd57 := H56.f2.right
              refine wl_val (r_assign rfl) (ltn rfl) ?_
              refine wl_nil ?_
              refine wq_seq ?_
              refine wc_seq ?_
              refine wc_region ?_
              refine wl_val (r_move rfl) (ltn rfl) ?_
              refine wl_val (r_assign rfl) (ltn rfl) ?_
              refine wl_nil ?_
              refine wq_seq ?_
              refine wc_exit ?_
              refine wq_then_exit ?_
              refine wq_block_hit ?_
              refine wq_round (_, _) (Sub.cons rfl (Sub.cons rfl (Sub.nil _))) (Sub.cons rfl (Sub.cons rfl (Sub.nil _))) (by (try dsimp only); exact by first | exact ⟨ws, ⟨by omega, by omega, by rw [← wordsAt_skip hil hsk]; exact hws⟩, Hd57.f2.f2⟩ | exact ⟨ws ++ [(1, i, i + opS l i)], ⟨(hA (by assumption) (by assumption)).2.2, by simp; omega, by rw [← hws, wordsAt_op hil hsn hop, (hA (by assumption) (by assumption)).1, List.append_assoc]; rfl⟩, wrow_one Hd57.f2.f2⟩ | exact ⟨ws ++ [(1, i, kd + opS l kd)], ⟨(hB (by assumption)).2.2.1, by simp; omega, by rw [← hws, wordsAt_op hil hsn hop, (hB (by assumption)).1, ← hkd, List.append_assoc]; rfl⟩, wrow_one Hd57.f2.f2⟩ | exact ⟨ws ++ [(0, i, k)], ⟨by omega, by simp; omega, by rw [← hws, wordsAt_plain hil hsn hno, ← hpk, pe_stop hee, List.append_assoc]; rfl⟩, wrow_one Hd57.f2.f2⟩) ?_
              · (try dsimp only); omega
            · (try simp only [beq_iff_eq, bne_iff_ne, ne_eq, decide_eq_true_eq, decide_eq_false_iff_not, beq_eq_false_iff_ne, bne_eq_false_iff_eq, Bool.not_eq_true', Bool.not_eq_false', Bool.not_eq_eq_eq_not, Bool.not_true, Bool.not_false, gt_iff_lt, ge_iff_le, Int.not_lt, Int.not_le] at h27)
              
              refine wc_skip ?_
              refine wq_seq ?_
              refine wc_seq ?_
              refine wc_seq ?_
              refine wc_region ?_
              refine wl_val (r_move rfl) (ltn rfl) ?_
              refine wl_nil ?_
              refine wq_seq ?_
              refine wc_cond rfl (fun h28 => ?_) (fun h28 => ?_)
              · (try simp only [beq_iff_eq, bne_iff_ne, ne_eq, decide_eq_true_eq, decide_eq_false_iff_not, beq_eq_false_iff_ne, bne_eq_false_iff_eq, Bool.not_eq_true', Bool.not_eq_false', Bool.not_eq_eq_eq_not, Bool.not_true, Bool.not_false, gt_iff_lt, ge_iff_le, Int.not_lt, Int.not_le] at h28)
                
                refine wc_seq ?_
                have hA : operS (l.getD i 0) = true → quoS l i = 0 → digS l i = 0 ∧ isOp l i (digS l i) = true ∧ i + opS l i ≤ l.length := fun qa qb => by
                  have q0 := digS_zero (op_dig qa)
                  exact ⟨q0, by unfold isOp; rw [decide_eq_true_eq, q0, Nat.add_zero]; exact ⟨hil, qb, qa⟩, opS_le hil⟩
                have hB : rb = true → digS l i = digN l i ∧ isOp l i (digS l i) = true ∧ kd + opS l kd ≤ l.length ∧ kd < l.length := fun qa => by
                  have hr := hrb.1 qa
                  have := red_op hkd hr.1 hr.2.1 hr.2.2
                  exact ⟨this.1, this.2, opS_le hr.1, hr.1⟩
                have hp1 := opS_pos l i
                have hp2 := opS_pos l kd
                have hp3 := opS_small l i
                have hp4 := opS_small l kd
                have hop : isOp l i (digS l i) = true := by first | exact (hA (by assumption) (by assumption)).2.1 | exact (hB (by assumption)).2.1
                refine wc_region ?_
                refine wl_val (r_move rfl) (ltn rfl) ?_
                refine wl_val (r_move rfl) (ltn rfl) ?_
                refine wl_val (r_move rfl) (ltn rfl) ?_
                refine wl_val (r_move rfl) (ltn rfl) ?_
                refine wl_eff (e_call (r_call rfl Try.func43 rfl rfl) (ref_oper_ret HJ2 (fun W HW => hv _ (HW.right.right)) (fun W HW => (HW.f2).row_rd) (by omega) (by first | exact hil | exact (hB (by assumption)).2.2.2))) (ltn rfl) ?_
                rintro _ w58 ⟨rfl, H58⟩
                refine wl_val (r_as (r_add rfl rfl (by omega)) ((by first | exact (show Value.int .i64 ((i : Int) + (opS l i : Nat)) = .int .i64 ((i + opS l i : Nat) : Int) from by rw [Int.natCast_add]) | exact (show Value.int .i64 ((kd : Int) + (opS l kd : Nat)) = .int .i64 ((kd + opS l kd : Nat) : Int) from by rw [Int.natCast_add])))) (ltn rfl) ?_
                refine wl_val (r_assign rfl) (ltn rfl) ?_
                refine wl_nil ?_
                refine wq_seq ?_
                refine wc_seq ?_
                refine wc_region ?_
                refine wl_val (r_move rfl) (ltn rfl) ?_
                refine wl_val (r_move rfl) (ltn rfl) ?_
                refine wl_val (r_move rfl) (ltn rfl) ?_
                refine wl_val (r_build (pl := #[(0, 1), (1, 1), (2, 1)]) (_) Try.underlying27 Try.zeroValue27 (fun w => by kernel_rfl) rfl (rfl)) (ltn rfl) ?_
                refine wl_eff (e_lit_one H58 Try.underlying24 Try.sizeOf27 Try.zeroValue27 rfl rfl rfl (by decide) (by decide)) (ltn rfl) ?_
                rintro l59 w59 H59
                refine wl_eff (e_append H59.f2 Try.underlying24 (show (Try.prog.info? 27).map (fun i => (i.zero, i.size, i.bytes)) = some (some (.agg #[.int .i64 0, .int .i64 0, .int .i64 0]), 3, 24) by kernel_rfl) rfl rfl rfl ((H59).row_rd) (ones_cons (by first | rfl | assumption) (ones_cons (by first | rfl | assumption) (ones_cons (by first | rfl | assumption) ones_nil))) (by omega) (by omega)) (ltn rfl) ?_
                rintro l60 w60 H60
                have Hd61 := H60.f2.right
                refine wl_val (r_assign rfl) (ltn rfl) ?_
                refine wl_nil ?_
                refine wq_seq ?_
                refine wc_seq ?_
                refine wc_region ?_
                refine wl_val (r_move rfl) (ltn rfl) ?_
                refine wl_val (r_assign rfl) (ltn rfl) ?_
                refine wl_nil ?_
                refine wq_seq ?_
                refine wc_exit ?_
                refine wq_then_exit ?_
                refine wq_block_hit ?_
                refine wq_round (_, _) (Sub.cons rfl (Sub.cons rfl (Sub.nil _))) (Sub.cons rfl (Sub.cons rfl (Sub.nil _))) (by (try dsimp only); exact by first | exact ⟨ws, ⟨by omega, by omega, by rw [← wordsAt_skip hil hsk]; exact hws⟩, Hd61.f2.f2⟩ | exact ⟨ws ++ [(1, i, i + opS l i)], ⟨(hA (by assumption) (by assumption)).2.2, by simp; omega, by rw [← hws, wordsAt_op hil hsn hop, (hA (by assumption) (by assumption)).1, List.append_assoc]; rfl⟩, wrow_one Hd61.f2.f2⟩ | exact ⟨ws ++ [(1, i, kd + opS l kd)], ⟨(hB (by assumption)).2.2.1, by simp; omega, by rw [← hws, wordsAt_op hil hsn hop, (hB (by assumption)).1, ← hkd, List.append_assoc]; rfl⟩, wrow_one Hd61.f2.f2⟩ | exact ⟨ws ++ [(0, i, k)], ⟨by omega, by simp; omega, by rw [← hws, wordsAt_plain hil hsn hno, ← hpk, pe_stop hee, List.append_assoc]; rfl⟩, wrow_one Hd61.f2.f2⟩) ?_
                · (try dsimp only); omega
              · (try simp only [beq_iff_eq, bne_iff_ne, ne_eq, decide_eq_true_eq, decide_eq_false_iff_not, beq_eq_false_iff_ne, bne_eq_false_iff_eq, Bool.not_eq_true', Bool.not_eq_false', Bool.not_eq_eq_eq_not, Bool.not_true, Bool.not_false, gt_iff_lt, ge_iff_le, Int.not_lt, Int.not_le] at h28)
                
                refine wc_skip ?_
                refine wq_seq ?_
                refine wc_seq ?_
                refine wc_region ?_
                refine wl_val (r_move rfl) (ltn rfl) ?_
                refine wl_val (r_assign rfl) (ltn rfl) ?_
                refine wl_nil ?_
                refine wq_seq ?_
                refine wc_seq ?_
                refine wc_block ?_
                have hno : isOp l i (digS l i) = false := red_no hkd (fun q => by have := hrb.2 q; simp_all) (fun q => by have q1 := q.1; have q2 := q.2; first | omega | simp_all)
                refine wc_loop [(0, _), (3, _), (5, _), (6, _), (27, _), (28, _), (29, _), (30, _), (31, _), (83, _), (84, _), (85, _), (86, _), (87, _)] (fun (k : Nat) => [(8, .int .i64 (k : Int))]) (fun (k : Nat) W => (i ≤ k ∧ k ≤ l.length ∧ peS l k = peS l i) ∧ Holds w0 W (Row 27 3 u ws.length (ws.flatMap wdE) • RowI 3 .i64 (.slice (some ⟨bu1, ou1, none⟩) (stL l) cu1) (statesS l) • F)) (fun (k : Nat) => l.length - k) (i) (Sub.cons rfl (Sub.cons rfl (Sub.cons rfl (Sub.cons rfl (Sub.cons rfl (Sub.cons rfl (Sub.cons rfl (Sub.cons rfl (Sub.cons rfl (Sub.cons rfl (Sub.cons rfl (Sub.cons rfl (Sub.cons rfl (Sub.cons rfl (Sub.nil _))))))))))))))) (Sub.cons rfl (Sub.nil _)) ⟨⟨by omega, by omega, rfl⟩, HJ2.f2.f2⟩ ?_
                rintro k w62 ⟨⟨hk, hkl, hpk⟩, HL2⟩
                dsimp only [List.cons_append, List.nil_append]
                refine wc_seq ?_
                refine wc_seq ?_
                refine wc_region ?_
                refine wl_val (r_move rfl) (ltn rfl) ?_
                refine wl_val (r_move rfl) (ltn rfl) ?_
                refine wl_val (r_len Try.underlying22 rfl) (ltn rfl) ?_
                refine wl_val (r_lss rfl rfl) (ltn rfl) ?_
                refine wl_split rfl (ltn rfl) (fun h29 => ?_) (fun h29 => ?_)
                · (try simp only [beq_iff_eq, bne_iff_ne, ne_eq, decide_eq_true_eq, decide_eq_false_iff_not, beq_eq_false_iff_ne, bne_eq_false_iff_eq, Bool.not_eq_true', Bool.not_eq_false', Bool.not_eq_eq_eq_not, Bool.not_true, Bool.not_false, gt_iff_lt, ge_iff_le, Int.not_lt, Int.not_le] at h29)
                  refine wl_yes rfl rfl ?_
                  refine wl_val (r_move rfl) (ltn rfl) ?_
                  refine wl_yes rfl rfl ?_
                  refine wl_val (r_move rfl) (ltn rfl) ?_
                  refine wl_yes rfl rfl ?_
                  obtain ⟨bu1, ou1, cu1, eu1⟩ := RdI.posV ((HL2.f2).row_rd) (by omega)
                  cases eu1
                  refine wl_val (r_index Try.underlying47 Try.sizeOf3 rfl rfl (by omega)) (ltn rfl) ?_
                  refine wl_yes rfl rfl ?_
                  refine wl_val (r_as (r_load (plain_of Try.underlying3 rfl) rfl (by first | exact RdI.at1n ((HL2.f2).row_rd) (by omega) | exact RdI.at0 ((HL2.f2).row_rd) (by omega) | exact RdI.at1 ((HL2.f2).row_rd) (by omega))) (show Value.int .i64 ((statesS l).getD k 0) = .int .i64 (quoS l k) by rw [statesS_at (by omega)])) (ltn rfl) ?_
                  refine wl_yes rfl rfl ?_
                  refine wl_val (r_eql rfl rfl) (ltn rfl) ?_
                  refine wl_yes rfl rfl ?_
                  refine wl_split rfl (ltn rfl) (fun h30 => ?_) (fun h30 => ?_)
                  · (try simp only [beq_iff_eq, bne_iff_ne, ne_eq, decide_eq_true_eq, decide_eq_false_iff_not, beq_eq_false_iff_ne, bne_eq_false_iff_eq, Bool.not_eq_true', Bool.not_eq_false', Bool.not_eq_eq_eq_not, Bool.not_true, Bool.not_false, gt_iff_lt, ge_iff_le, Int.not_lt, Int.not_le] at h30)
                    refine wl_yes rfl rfl ?_
                    refine wl_val (r_move rfl) (ltn rfl) ?_
                    refine wl_yes rfl rfl ?_
                    refine wl_val (r_move rfl) (ltn rfl) ?_
                    refine wl_yes rfl rfl ?_
                    refine wl_val (r_index Try.underlying22 Try.sizeOf21 rfl rfl (by omega)) (ltn rfl) ?_
                    refine wl_yes rfl rfl ?_
                    refine wl_val (r_load (plain_of Try.underlying21 rfl) rfl (by first | exact RdI.at1n (hv _ (HL2.right.right)) (by omega) | exact RdI.at0 (hv _ (HL2.right.right)) (by omega) | exact RdI.at1 (hv _ (HL2.right.right)) (by omega))) (ltn rfl) ?_
                    refine wl_yes rfl rfl ?_
                    refine wl_eff (e_call (r_call rfl Try.func39 rfl rfl) (ref_blank_ret)) (ltn rfl) ?_
                    rintro _ _ ⟨rfl, rfl⟩
                    refine wl_yes rfl rfl ?_
                    refine wl_split rfl (ltn rfl) (fun h31 => ?_) (fun h31 => ?_)
                    · (try simp only [beq_iff_eq, bne_iff_ne, ne_eq, decide_eq_true_eq, decide_eq_false_iff_not, beq_eq_false_iff_ne, bne_eq_false_iff_eq, Bool.not_eq_true', Bool.not_eq_false', Bool.not_eq_eq_eq_not, Bool.not_true, Bool.not_false, gt_iff_lt, ge_iff_le, Int.not_lt, Int.not_le] at h31)
                      refine wl_no rfl rfl rfl (ltn rfl) ?_
                      refine wl_no rfl rfl rfl (ltn rfl) ?_
                      refine wl_no rfl rfl rfl (ltn rfl) ?_
                      refine wl_no rfl rfl rfl (ltn rfl) ?_
                      refine wl_no rfl rfl rfl (ltn rfl) ?_
                      refine wl_yes rfl rfl ?_
                      refine wl_val (r_pick_t rfl rfl) (ltn rfl) ?_
                      refine wl_yes rfl rfl ?_
                      refine wl_val (r_pick_t rfl rfl) (ltn rfl) ?_
                      refine wl_yes rfl rfl ?_
                      refine wl_val (r_not rfl) (ltn rfl) ?_
                      refine wl_val (r_pick_t rfl rfl) (ltn rfl) ?_
                      refine wl_nil ?_
                      refine wq_seq ?_
                      refine wc_cond rfl (fun h32 => ?_) (fun h32 => ?_)
                      · (try simp only [beq_iff_eq, bne_iff_ne, ne_eq, decide_eq_true_eq, decide_eq_false_iff_not, beq_eq_false_iff_ne, bne_eq_false_iff_eq, Bool.not_eq_true', Bool.not_eq_false', Bool.not_eq_eq_eq_not, Bool.not_true, Bool.not_false, gt_iff_lt, ge_iff_le, Int.not_lt, Int.not_le] at h32)
                        
                        refine wc_skip ?_
                        refine wq_seq ?_
                        refine wc_block ?_
                        have hef : endsS l k = false := by unfold endsS; rw [decide_eq_false_iff_not]; rintro (q | ⟨qa, qb⟩); omega; first | omega | exact qb (cls_zero (by assumption) (by assumption)) | simp_all
                        refine wc_region ?_
                        refine wl_val (r_move rfl) (ltn rfl) ?_
                        refine wl_val (r_as (r_add rfl rfl (by omega)) (show Value.int .i64 ((k : Int) + 1) = .int .i64 ((k + 1 : Nat) : Int) by rw [Int.natCast_add]; rfl)) (ltn rfl) ?_
                        refine wl_val (r_assign rfl) (ltn rfl) ?_
                        refine wl_nil ?_
                        refine wq_block_normal ?_
                        refine wq_round (_) (Sub.cons rfl (Sub.nil _)) (Sub.cons rfl (Sub.cons rfl (Sub.cons rfl (Sub.cons rfl (Sub.cons rfl (Sub.cons rfl (Sub.cons rfl (Sub.cons rfl (Sub.cons rfl (Sub.cons rfl (Sub.cons rfl (Sub.cons rfl (Sub.cons rfl (Sub.cons rfl (Sub.nil _))))))))))))))) (by (try dsimp only); exact ⟨⟨by omega, by omega, peS_mono hef hpk⟩, HL2.f2.f2⟩) ?_
                        · (try dsimp only); omega
                      · (try simp only [beq_iff_eq, bne_iff_ne, ne_eq, decide_eq_true_eq, decide_eq_false_iff_not, beq_eq_false_iff_ne, bne_eq_false_iff_eq, Bool.not_eq_true', Bool.not_eq_false', Bool.not_eq_eq_eq_not, Bool.not_true, Bool.not_false, gt_iff_lt, ge_iff_le, Int.not_lt, Int.not_le] at h32)
                        have hfq := h32
                        refine wc_exit ?_
                        refine wq_then_exit ?_
                        refine wq_then_exit ?_
                        refine wq_block_hit ?_
                        refine wq_seq ?_
                        refine wc_seq ?_
                        have hee : endsS l k = true := by unfold endsS; rw [decide_eq_true_eq]; first | (left; omega) | (right; exact ⟨by assumption, cls_blank (by assumption)⟩) | (right; exact ⟨by assumption, cls_op (by assumption)⟩) | (exfalso; simp at hfq)
                        have hplt := peS_lt (plain_go hil hsn hno)
                        rw [← hpk, pe_stop hee] at hplt
                        refine wc_region ?_
                        refine wl_val (r_move rfl) (ltn rfl) ?_
                        refine wl_val (r_move rfl) (ltn rfl) ?_
                        refine wl_val (r_move rfl) (ltn rfl) ?_
                        refine wl_val (r_build (pl := #[(0, 1), (1, 1), (2, 1)]) (_) Try.underlying27 Try.zeroValue27 (fun w => by kernel_rfl) rfl (rfl)) (ltn rfl) ?_
                        refine wl_eff (e_lit_one HL2 Try.underlying24 Try.sizeOf27 Try.zeroValue27 rfl rfl rfl (by decide) (by decide)) (ltn rfl) ?_
                        rintro l64 w64 H64
                        refine wl_eff (e_append H64.f2 Try.underlying24 (show (Try.prog.info? 27).map (fun i => (i.zero, i.size, i.bytes)) = some (some (.agg #[.int .i64 0, .int .i64 0, .int .i64 0]), 3, 24) by kernel_rfl) rfl rfl rfl ((H64).row_rd) (ones_cons (by first | rfl | assumption) (ones_cons (by first | rfl | assumption) (ones_cons (by first | rfl | assumption) ones_nil))) (by omega) (by omega)) (ltn rfl) ?_
                        rintro l65 w65 H65
                        have Hd66 := H65.f2.right
                        refine wl_val (r_assign rfl) (ltn rfl) ?_
                        refine wl_nil ?_
                        refine wq_seq ?_
                        refine wc_region ?_
                        refine wl_val (r_move rfl) (ltn rfl) ?_
                        refine wl_val (r_assign rfl) (ltn rfl) ?_
                        refine wl_nil ?_
                        refine wq_block_normal ?_
                        refine wq_round (_, _) (Sub.cons rfl (Sub.cons rfl (Sub.nil _))) (Sub.cons rfl (Sub.cons rfl (Sub.nil _))) (by (try dsimp only); exact by first | exact ⟨ws, ⟨by omega, by omega, by rw [← wordsAt_skip hil hsk]; exact hws⟩, Hd66.f2.f2⟩ | exact ⟨ws ++ [(1, i, i + opS l i)], ⟨(hA (by assumption) (by assumption)).2.2, by simp; omega, by rw [← hws, wordsAt_op hil hsn hop, (hA (by assumption) (by assumption)).1, List.append_assoc]; rfl⟩, wrow_one Hd66.f2.f2⟩ | exact ⟨ws ++ [(1, i, kd + opS l kd)], ⟨(hB (by assumption)).2.2.1, by simp; omega, by rw [← hws, wordsAt_op hil hsn hop, (hB (by assumption)).1, ← hkd, List.append_assoc]; rfl⟩, wrow_one Hd66.f2.f2⟩ | exact ⟨ws ++ [(0, i, k)], ⟨by omega, by simp; omega, by rw [← hws, wordsAt_plain hil hsn hno, ← hpk, pe_stop hee, List.append_assoc]; rfl⟩, wrow_one Hd66.f2.f2⟩) ?_
                        · (try dsimp only); omega
                    · (try simp only [beq_iff_eq, bne_iff_ne, ne_eq, decide_eq_true_eq, decide_eq_false_iff_not, beq_eq_false_iff_ne, bne_eq_false_iff_eq, Bool.not_eq_true', Bool.not_eq_false', Bool.not_eq_eq_eq_not, Bool.not_true, Bool.not_false, gt_iff_lt, ge_iff_le, Int.not_lt, Int.not_le] at h31)
                      refine wl_yes rfl rfl ?_
                      refine wl_val (r_move rfl) (ltn rfl) ?_
                      refine wl_yes rfl rfl ?_
                      refine wl_val (r_move rfl) (ltn rfl) ?_
                      refine wl_yes rfl rfl ?_
                      refine wl_val (r_index Try.underlying22 Try.sizeOf21 rfl rfl (by omega)) (ltn rfl) ?_
                      refine wl_yes rfl rfl ?_
                      refine wl_val (r_load (plain_of Try.underlying21 rfl) rfl (by first | exact RdI.at1n (hv _ (HL2.right.right)) (by omega) | exact RdI.at0 (hv _ (HL2.right.right)) (by omega) | exact RdI.at1 (hv _ (HL2.right.right)) (by omega))) (ltn rfl) ?_
                      refine wl_yes rfl rfl ?_
                      refine wl_eff (e_call (r_call rfl Try.func40 rfl rfl) (ref_op_ret)) (ltn rfl) ?_
                      rintro _ _ ⟨rfl, rfl⟩
                      refine wl_yes rfl rfl ?_
                      refine wl_val (r_pick_f rfl rfl) (ltn rfl) ?_
                      refine wl_yes rfl rfl ?_
                      refine wl_val (r_pick_t rfl rfl) (ltn rfl) ?_
                      refine wl_yes rfl rfl ?_
                      refine wl_val (r_not rfl) (ltn rfl) ?_
                      refine wl_val (r_pick_t rfl rfl) (ltn rfl) ?_
                      refine wl_nil ?_
                      refine wq_seq ?_
                      refine wc_cond rfl (fun h33 => ?_) (fun h33 => ?_)
                      · (try simp only [beq_iff_eq, bne_iff_ne, ne_eq, decide_eq_true_eq, decide_eq_false_iff_not, beq_eq_false_iff_ne, bne_eq_false_iff_eq, Bool.not_eq_true', Bool.not_eq_false', Bool.not_eq_eq_eq_not, Bool.not_true, Bool.not_false, gt_iff_lt, ge_iff_le, Int.not_lt, Int.not_le] at h33)
                        
                        refine wc_skip ?_
                        refine wq_seq ?_
                        refine wc_block ?_
                        have hef : endsS l k = false := by unfold endsS; rw [decide_eq_false_iff_not]; rintro (q | ⟨qa, qb⟩); omega; first | omega | exact qb (cls_zero (by assumption) (by assumption)) | simp_all
                        refine wc_region ?_
                        refine wl_val (r_move rfl) (ltn rfl) ?_
                        refine wl_val (r_as (r_add rfl rfl (by omega)) (show Value.int .i64 ((k : Int) + 1) = .int .i64 ((k + 1 : Nat) : Int) by rw [Int.natCast_add]; rfl)) (ltn rfl) ?_
                        refine wl_val (r_assign rfl) (ltn rfl) ?_
                        refine wl_nil ?_
                        refine wq_block_normal ?_
                        refine wq_round (_) (Sub.cons rfl (Sub.nil _)) (Sub.cons rfl (Sub.cons rfl (Sub.cons rfl (Sub.cons rfl (Sub.cons rfl (Sub.cons rfl (Sub.cons rfl (Sub.cons rfl (Sub.cons rfl (Sub.cons rfl (Sub.cons rfl (Sub.cons rfl (Sub.cons rfl (Sub.cons rfl (Sub.nil _))))))))))))))) (by (try dsimp only); exact ⟨⟨by omega, by omega, peS_mono hef hpk⟩, HL2.f2.f2⟩) ?_
                        · (try dsimp only); omega
                      · (try simp only [beq_iff_eq, bne_iff_ne, ne_eq, decide_eq_true_eq, decide_eq_false_iff_not, beq_eq_false_iff_ne, bne_eq_false_iff_eq, Bool.not_eq_true', Bool.not_eq_false', Bool.not_eq_eq_eq_not, Bool.not_true, Bool.not_false, gt_iff_lt, ge_iff_le, Int.not_lt, Int.not_le] at h33)
                        have hfq := h33
                        refine wc_exit ?_
                        refine wq_then_exit ?_
                        refine wq_then_exit ?_
                        refine wq_block_hit ?_
                        refine wq_seq ?_
                        refine wc_seq ?_
                        have hee : endsS l k = true := by unfold endsS; rw [decide_eq_true_eq]; first | (left; omega) | (right; exact ⟨by assumption, cls_blank (by assumption)⟩) | (right; exact ⟨by assumption, cls_op (by assumption)⟩) | (exfalso; simp at hfq)
                        have hplt := peS_lt (plain_go hil hsn hno)
                        rw [← hpk, pe_stop hee] at hplt
                        refine wc_region ?_
                        refine wl_val (r_move rfl) (ltn rfl) ?_
                        refine wl_val (r_move rfl) (ltn rfl) ?_
                        refine wl_val (r_move rfl) (ltn rfl) ?_
                        refine wl_val (r_build (pl := #[(0, 1), (1, 1), (2, 1)]) (_) Try.underlying27 Try.zeroValue27 (fun w => by kernel_rfl) rfl (rfl)) (ltn rfl) ?_
                        refine wl_eff (e_lit_one HL2 Try.underlying24 Try.sizeOf27 Try.zeroValue27 rfl rfl rfl (by decide) (by decide)) (ltn rfl) ?_
                        rintro l68 w68 H68
                        refine wl_eff (e_append H68.f2 Try.underlying24 (show (Try.prog.info? 27).map (fun i => (i.zero, i.size, i.bytes)) = some (some (.agg #[.int .i64 0, .int .i64 0, .int .i64 0]), 3, 24) by kernel_rfl) rfl rfl rfl ((H68).row_rd) (ones_cons (by first | rfl | assumption) (ones_cons (by first | rfl | assumption) (ones_cons (by first | rfl | assumption) ones_nil))) (by omega) (by omega)) (ltn rfl) ?_
                        rintro l69 w69 H69
                        have Hd70 := H69.f2.right
                        refine wl_val (r_assign rfl) (ltn rfl) ?_
                        refine wl_nil ?_
                        refine wq_seq ?_
                        refine wc_region ?_
                        refine wl_val (r_move rfl) (ltn rfl) ?_
                        refine wl_val (r_assign rfl) (ltn rfl) ?_
                        refine wl_nil ?_
                        refine wq_block_normal ?_
                        refine wq_round (_, _) (Sub.cons rfl (Sub.cons rfl (Sub.nil _))) (Sub.cons rfl (Sub.cons rfl (Sub.nil _))) (by (try dsimp only); exact by first | exact ⟨ws, ⟨by omega, by omega, by rw [← wordsAt_skip hil hsk]; exact hws⟩, Hd70.f2.f2⟩ | exact ⟨ws ++ [(1, i, i + opS l i)], ⟨(hA (by assumption) (by assumption)).2.2, by simp; omega, by rw [← hws, wordsAt_op hil hsn hop, (hA (by assumption) (by assumption)).1, List.append_assoc]; rfl⟩, wrow_one Hd70.f2.f2⟩ | exact ⟨ws ++ [(1, i, kd + opS l kd)], ⟨(hB (by assumption)).2.2.1, by simp; omega, by rw [← hws, wordsAt_op hil hsn hop, (hB (by assumption)).1, ← hkd, List.append_assoc]; rfl⟩, wrow_one Hd70.f2.f2⟩ | exact ⟨ws ++ [(0, i, k)], ⟨by omega, by simp; omega, by rw [← hws, wordsAt_plain hil hsn hno, ← hpk, pe_stop hee, List.append_assoc]; rfl⟩, wrow_one Hd70.f2.f2⟩) ?_
                        · (try dsimp only); omega
                  · (try simp only [beq_iff_eq, bne_iff_ne, ne_eq, decide_eq_true_eq, decide_eq_false_iff_not, beq_eq_false_iff_ne, bne_eq_false_iff_eq, Bool.not_eq_true', Bool.not_eq_false', Bool.not_eq_eq_eq_not, Bool.not_true, Bool.not_false, gt_iff_lt, ge_iff_le, Int.not_lt, Int.not_le] at h30)
                    refine wl_no rfl rfl rfl (ltn rfl) ?_
                    refine wl_no rfl rfl rfl (ltn rfl) ?_
                    refine wl_no rfl rfl rfl (ltn rfl) ?_
                    refine wl_no rfl rfl rfl (ltn rfl) ?_
                    refine wl_no rfl rfl rfl (ltn rfl) ?_
                    refine wl_no rfl rfl rfl (ltn rfl) ?_
                    refine wl_nou rfl rfl (ltn rfl) ?_
                    refine wl_nou rfl rfl (ltn rfl) ?_
                    refine wl_nou rfl rfl (ltn rfl) ?_
                    refine wl_nou rfl rfl (ltn rfl) ?_
                    refine wl_nou rfl rfl (ltn rfl) ?_
                    refine wl_no rfl rfl rfl (ltn rfl) ?_
                    refine wl_yes rfl rfl ?_
                    refine wl_val (r_pick_f rfl rfl) (ltn rfl) ?_
                    refine wl_yes rfl rfl ?_
                    refine wl_val (r_not rfl) (ltn rfl) ?_
                    refine wl_val (r_pick_t rfl rfl) (ltn rfl) ?_
                    refine wl_nil ?_
                    refine wq_seq ?_
                    refine wc_cond rfl (fun h34 => ?_) (fun h34 => ?_)
                    · (try simp only [beq_iff_eq, bne_iff_ne, ne_eq, decide_eq_true_eq, decide_eq_false_iff_not, beq_eq_false_iff_ne, bne_eq_false_iff_eq, Bool.not_eq_true', Bool.not_eq_false', Bool.not_eq_eq_eq_not, Bool.not_true, Bool.not_false, gt_iff_lt, ge_iff_le, Int.not_lt, Int.not_le] at h34)
                      
                      refine wc_skip ?_
                      refine wq_seq ?_
                      refine wc_block ?_
                      have hef : endsS l k = false := by unfold endsS; rw [decide_eq_false_iff_not]; rintro (q | ⟨qa, qb⟩); omega; first | omega | exact qb (cls_zero (by assumption) (by assumption)) | simp_all
                      refine wc_region ?_
                      refine wl_val (r_move rfl) (ltn rfl) ?_
                      refine wl_val (r_as (r_add rfl rfl (by omega)) (show Value.int .i64 ((k : Int) + 1) = .int .i64 ((k + 1 : Nat) : Int) by rw [Int.natCast_add]; rfl)) (ltn rfl) ?_
                      refine wl_val (r_assign rfl) (ltn rfl) ?_
                      refine wl_nil ?_
                      refine wq_block_normal ?_
                      refine wq_round (_) (Sub.cons rfl (Sub.nil _)) (Sub.cons rfl (Sub.cons rfl (Sub.cons rfl (Sub.cons rfl (Sub.cons rfl (Sub.cons rfl (Sub.cons rfl (Sub.cons rfl (Sub.cons rfl (Sub.cons rfl (Sub.cons rfl (Sub.cons rfl (Sub.cons rfl (Sub.cons rfl (Sub.nil _))))))))))))))) (by (try dsimp only); exact ⟨⟨by omega, by omega, peS_mono hef hpk⟩, HL2.f2.f2⟩) ?_
                      · (try dsimp only); omega
                    · (try simp only [beq_iff_eq, bne_iff_ne, ne_eq, decide_eq_true_eq, decide_eq_false_iff_not, beq_eq_false_iff_ne, bne_eq_false_iff_eq, Bool.not_eq_true', Bool.not_eq_false', Bool.not_eq_eq_eq_not, Bool.not_true, Bool.not_false, gt_iff_lt, ge_iff_le, Int.not_lt, Int.not_le] at h34)
                      have hfq := h34
                      refine wc_exit ?_
                      refine wq_then_exit ?_
                      refine wq_then_exit ?_
                      refine wq_block_hit ?_
                      refine wq_seq ?_
                      refine wc_seq ?_
                      have hee : endsS l k = true := by unfold endsS; rw [decide_eq_true_eq]; first | (left; omega) | (right; exact ⟨by assumption, cls_blank (by assumption)⟩) | (right; exact ⟨by assumption, cls_op (by assumption)⟩) | (exfalso; simp at hfq)
                      have hplt := peS_lt (plain_go hil hsn hno)
                      rw [← hpk, pe_stop hee] at hplt
                      refine wc_region ?_
                      refine wl_val (r_move rfl) (ltn rfl) ?_
                      refine wl_val (r_move rfl) (ltn rfl) ?_
                      refine wl_val (r_move rfl) (ltn rfl) ?_
                      refine wl_val (r_build (pl := #[(0, 1), (1, 1), (2, 1)]) (_) Try.underlying27 Try.zeroValue27 (fun w => by kernel_rfl) rfl (rfl)) (ltn rfl) ?_
                      refine wl_eff (e_lit_one HL2 Try.underlying24 Try.sizeOf27 Try.zeroValue27 rfl rfl rfl (by decide) (by decide)) (ltn rfl) ?_
                      rintro l71 w71 H71
                      refine wl_eff (e_append H71.f2 Try.underlying24 (show (Try.prog.info? 27).map (fun i => (i.zero, i.size, i.bytes)) = some (some (.agg #[.int .i64 0, .int .i64 0, .int .i64 0]), 3, 24) by kernel_rfl) rfl rfl rfl ((H71).row_rd) (ones_cons (by first | rfl | assumption) (ones_cons (by first | rfl | assumption) (ones_cons (by first | rfl | assumption) ones_nil))) (by omega) (by omega)) (ltn rfl) ?_
                      rintro l72 w72 H72
                      have Hd73 := H72.f2.right
                      refine wl_val (r_assign rfl) (ltn rfl) ?_
                      refine wl_nil ?_
                      refine wq_seq ?_
                      refine wc_region ?_
                      refine wl_val (r_move rfl) (ltn rfl) ?_
                      refine wl_val (r_assign rfl) (ltn rfl) ?_
                      refine wl_nil ?_
                      refine wq_block_normal ?_
                      refine wq_round (_, _) (Sub.cons rfl (Sub.cons rfl (Sub.nil _))) (Sub.cons rfl (Sub.cons rfl (Sub.nil _))) (by (try dsimp only); exact by first | exact ⟨ws, ⟨by omega, by omega, by rw [← wordsAt_skip hil hsk]; exact hws⟩, Hd73.f2.f2⟩ | exact ⟨ws ++ [(1, i, i + opS l i)], ⟨(hA (by assumption) (by assumption)).2.2, by simp; omega, by rw [← hws, wordsAt_op hil hsn hop, (hA (by assumption) (by assumption)).1, List.append_assoc]; rfl⟩, wrow_one Hd73.f2.f2⟩ | exact ⟨ws ++ [(1, i, kd + opS l kd)], ⟨(hB (by assumption)).2.2.1, by simp; omega, by rw [← hws, wordsAt_op hil hsn hop, (hB (by assumption)).1, ← hkd, List.append_assoc]; rfl⟩, wrow_one Hd73.f2.f2⟩ | exact ⟨ws ++ [(0, i, k)], ⟨by omega, by simp; omega, by rw [← hws, wordsAt_plain hil hsn hno, ← hpk, pe_stop hee, List.append_assoc]; rfl⟩, wrow_one Hd73.f2.f2⟩) ?_
                      · (try dsimp only); omega
                · (try simp only [beq_iff_eq, bne_iff_ne, ne_eq, decide_eq_true_eq, decide_eq_false_iff_not, beq_eq_false_iff_ne, bne_eq_false_iff_eq, Bool.not_eq_true', Bool.not_eq_false', Bool.not_eq_eq_eq_not, Bool.not_true, Bool.not_false, gt_iff_lt, ge_iff_le, Int.not_lt, Int.not_le] at h29)
                  refine wl_no rfl rfl rfl (ltn rfl) ?_
                  refine wl_no rfl rfl rfl (ltn rfl) ?_
                  refine wl_no rfl rfl rfl (ltn rfl) ?_
                  refine wl_no rfl rfl rfl (ltn rfl) ?_
                  refine wl_no rfl rfl rfl (ltn rfl) ?_
                  refine wl_no rfl rfl rfl (ltn rfl) ?_
                  refine wl_nou rfl rfl (ltn rfl) ?_
                  refine wl_nou rfl rfl (ltn rfl) ?_
                  refine wl_nou rfl rfl (ltn rfl) ?_
                  refine wl_nou rfl rfl (ltn rfl) ?_
                  refine wl_nou rfl rfl (ltn rfl) ?_
                  refine wl_nou rfl rfl (ltn rfl) ?_
                  refine wl_nou rfl rfl (ltn rfl) ?_
                  refine wl_nou rfl rfl (ltn rfl) ?_
                  refine wl_nou rfl rfl (ltn rfl) ?_
                  refine wl_nou rfl rfl (ltn rfl) ?_
                  refine wl_nou rfl rfl (ltn rfl) ?_
                  refine wl_nou rfl rfl (ltn rfl) ?_
                  refine wl_no rfl rfl rfl (ltn rfl) ?_
                  refine wl_no rfl rfl rfl (ltn rfl) ?_
                  refine wl_val (r_pick_f rfl rfl) (ltn rfl) ?_
                  refine wl_nil ?_
                  refine wq_seq ?_
                  refine wc_cond_f rfl ?_
                  refine wc_exit ?_
                  refine wq_then_exit ?_
                  refine wq_then_exit ?_
                  refine wq_block_hit ?_
                  refine wq_seq ?_
                  refine wc_seq ?_
                  have hee : endsS l k = true := by unfold endsS; rw [decide_eq_true_eq]; first | (left; omega) | (right; exact ⟨by assumption, cls_blank (by assumption)⟩) | (right; exact ⟨by assumption, cls_op (by assumption)⟩) | (exfalso; simp at hfq)
                  have hplt := peS_lt (plain_go hil hsn hno)
                  rw [← hpk, pe_stop hee] at hplt
                  refine wc_region ?_
                  refine wl_val (r_move rfl) (ltn rfl) ?_
                  refine wl_val (r_move rfl) (ltn rfl) ?_
                  refine wl_val (r_move rfl) (ltn rfl) ?_
                  refine wl_val (r_build (pl := #[(0, 1), (1, 1), (2, 1)]) (_) Try.underlying27 Try.zeroValue27 (fun w => by kernel_rfl) rfl (rfl)) (ltn rfl) ?_
                  refine wl_eff (e_lit_one HL2 Try.underlying24 Try.sizeOf27 Try.zeroValue27 rfl rfl rfl (by decide) (by decide)) (ltn rfl) ?_
                  rintro l74 w74 H74
                  refine wl_eff (e_append H74.f2 Try.underlying24 (show (Try.prog.info? 27).map (fun i => (i.zero, i.size, i.bytes)) = some (some (.agg #[.int .i64 0, .int .i64 0, .int .i64 0]), 3, 24) by kernel_rfl) rfl rfl rfl ((H74).row_rd) (ones_cons (by first | rfl | assumption) (ones_cons (by first | rfl | assumption) (ones_cons (by first | rfl | assumption) ones_nil))) (by omega) (by omega)) (ltn rfl) ?_
                  rintro l75 w75 H75
                  have Hd76 := H75.f2.right
                  refine wl_val (r_assign rfl) (ltn rfl) ?_
                  refine wl_nil ?_
                  refine wq_seq ?_
                  refine wc_region ?_
                  refine wl_val (r_move rfl) (ltn rfl) ?_
                  refine wl_val (r_assign rfl) (ltn rfl) ?_
                  refine wl_nil ?_
                  refine wq_block_normal ?_
                  refine wq_round (_, _) (Sub.cons rfl (Sub.cons rfl (Sub.nil _))) (Sub.cons rfl (Sub.cons rfl (Sub.nil _))) (by (try dsimp only); exact by first | exact ⟨ws, ⟨by omega, by omega, by rw [← wordsAt_skip hil hsk]; exact hws⟩, Hd76.f2.f2⟩ | exact ⟨ws ++ [(1, i, i + opS l i)], ⟨(hA (by assumption) (by assumption)).2.2, by simp; omega, by rw [← hws, wordsAt_op hil hsn hop, (hA (by assumption) (by assumption)).1, List.append_assoc]; rfl⟩, wrow_one Hd76.f2.f2⟩ | exact ⟨ws ++ [(1, i, kd + opS l kd)], ⟨(hB (by assumption)).2.2.1, by simp; omega, by rw [← hws, wordsAt_op hil hsn hop, (hB (by assumption)).1, ← hkd, List.append_assoc]; rfl⟩, wrow_one Hd76.f2.f2⟩ | exact ⟨ws ++ [(0, i, k)], ⟨by omega, by simp; omega, by rw [← hws, wordsAt_plain hil hsn hno, ← hpk, pe_stop hee, List.append_assoc]; rfl⟩, wrow_one Hd76.f2.f2⟩) ?_
                  · (try dsimp only); omega
          · (try simp only [beq_iff_eq, bne_iff_ne, ne_eq, decide_eq_true_eq, decide_eq_false_iff_not, beq_eq_false_iff_ne, bne_eq_false_iff_eq, Bool.not_eq_true', Bool.not_eq_false', Bool.not_eq_eq_eq_not, Bool.not_true, Bool.not_false, gt_iff_lt, ge_iff_le, Int.not_lt, Int.not_le] at h26)
            refine wl_no rfl rfl rfl (ltn rfl) ?_
            refine wl_no rfl rfl rfl (ltn rfl) ?_
            refine wl_no rfl rfl rfl (ltn rfl) ?_
            refine wl_no rfl rfl rfl (ltn rfl) ?_
            refine wl_no rfl rfl rfl (ltn rfl) ?_
            refine wl_val (r_pick_f rfl rfl) (ltn rfl) ?_
            refine wl_nil ?_
            refine wq_seq ?_
            refine wc_cond_f rfl ?_
            refine wc_skip ?_
            refine wq_seq ?_
            refine wc_seq ?_
            refine wc_seq ?_
            refine wc_region ?_
            refine wl_val (r_move rfl) (ltn rfl) ?_
            refine wl_nil ?_
            refine wq_seq ?_
            refine wc_cond rfl (fun h35 => ?_) (fun h35 => ?_)
            · (try simp only [beq_iff_eq, bne_iff_ne, ne_eq, decide_eq_true_eq, decide_eq_false_iff_not, beq_eq_false_iff_ne, bne_eq_false_iff_eq, Bool.not_eq_true', Bool.not_eq_false', Bool.not_eq_eq_eq_not, Bool.not_true, Bool.not_false, gt_iff_lt, ge_iff_le, Int.not_lt, Int.not_le] at h35)
              
              refine wc_seq ?_
              have hA : operS (l.getD i 0) = true → quoS l i = 0 → digS l i = 0 ∧ isOp l i (digS l i) = true ∧ i + opS l i ≤ l.length := fun qa qb => by
                have q0 := digS_zero (op_dig qa)
                exact ⟨q0, by unfold isOp; rw [decide_eq_true_eq, q0, Nat.add_zero]; exact ⟨hil, qb, qa⟩, opS_le hil⟩
              have hB : rb = true → digS l i = digN l i ∧ isOp l i (digS l i) = true ∧ kd + opS l kd ≤ l.length ∧ kd < l.length := fun qa => by
                have hr := hrb.1 qa
                have := red_op hkd hr.1 hr.2.1 hr.2.2
                exact ⟨this.1, this.2, opS_le hr.1, hr.1⟩
              have hp1 := opS_pos l i
              have hp2 := opS_pos l kd
              have hp3 := opS_small l i
              have hp4 := opS_small l kd
              have hop : isOp l i (digS l i) = true := by first | exact (hA (by assumption) (by assumption)).2.1 | exact (hB (by assumption)).2.1
              refine wc_region ?_
              refine wl_val (r_move rfl) (ltn rfl) ?_
              refine wl_val (r_move rfl) (ltn rfl) ?_
              refine wl_val (r_move rfl) (ltn rfl) ?_
              refine wl_val (r_move rfl) (ltn rfl) ?_
              refine wl_eff (e_call (r_call rfl Try.func43 rfl rfl) (ref_oper_ret HJ2 (fun W HW => hv _ (HW.right.right)) (fun W HW => (HW.f2).row_rd) (by omega) (by first | exact hil | exact (hB (by assumption)).2.2.2))) (ltn rfl) ?_
              rintro _ w77 ⟨rfl, H77⟩
              refine wl_val (r_as (r_add rfl rfl (by omega)) ((by first | exact (show Value.int .i64 ((i : Int) + (opS l i : Nat)) = .int .i64 ((i + opS l i : Nat) : Int) from by rw [Int.natCast_add]) | exact (show Value.int .i64 ((kd : Int) + (opS l kd : Nat)) = .int .i64 ((kd + opS l kd : Nat) : Int) from by rw [Int.natCast_add])))) (ltn rfl) ?_
              refine wl_val (r_assign rfl) (ltn rfl) ?_
              refine wl_nil ?_
              refine wq_seq ?_
              refine wc_seq ?_
              refine wc_region ?_
              refine wl_val (r_move rfl) (ltn rfl) ?_
              refine wl_val (r_move rfl) (ltn rfl) ?_
              refine wl_val (r_move rfl) (ltn rfl) ?_
              refine wl_val (r_build (pl := #[(0, 1), (1, 1), (2, 1)]) (_) Try.underlying27 Try.zeroValue27 (fun w => by kernel_rfl) rfl (rfl)) (ltn rfl) ?_
              refine wl_eff (e_lit_one H77 Try.underlying24 Try.sizeOf27 Try.zeroValue27 rfl rfl rfl (by decide) (by decide)) (ltn rfl) ?_
              rintro l78 w78 H78
              refine wl_eff (e_append H78.f2 Try.underlying24 (show (Try.prog.info? 27).map (fun i => (i.zero, i.size, i.bytes)) = some (some (.agg #[.int .i64 0, .int .i64 0, .int .i64 0]), 3, 24) by kernel_rfl) rfl rfl rfl ((H78).row_rd) (ones_cons (by first | rfl | assumption) (ones_cons (by first | rfl | assumption) (ones_cons (by first | rfl | assumption) ones_nil))) (by omega) (by omega)) (ltn rfl) ?_
              rintro l79 w79 H79
              have Hd80 := H79.f2.right
              refine wl_val (r_assign rfl) (ltn rfl) ?_
              refine wl_nil ?_
              refine wq_seq ?_
              refine wc_seq ?_
              refine wc_region ?_
              refine wl_val (r_move rfl) (ltn rfl) ?_
              refine wl_val (r_assign rfl) (ltn rfl) ?_
              refine wl_nil ?_
              refine wq_seq ?_
              refine wc_exit ?_
              refine wq_then_exit ?_
              refine wq_block_hit ?_
              refine wq_round (_, _) (Sub.cons rfl (Sub.cons rfl (Sub.nil _))) (Sub.cons rfl (Sub.cons rfl (Sub.nil _))) (by (try dsimp only); exact by first | exact ⟨ws, ⟨by omega, by omega, by rw [← wordsAt_skip hil hsk]; exact hws⟩, Hd80.f2.f2⟩ | exact ⟨ws ++ [(1, i, i + opS l i)], ⟨(hA (by assumption) (by assumption)).2.2, by simp; omega, by rw [← hws, wordsAt_op hil hsn hop, (hA (by assumption) (by assumption)).1, List.append_assoc]; rfl⟩, wrow_one Hd80.f2.f2⟩ | exact ⟨ws ++ [(1, i, kd + opS l kd)], ⟨(hB (by assumption)).2.2.1, by simp; omega, by rw [← hws, wordsAt_op hil hsn hop, (hB (by assumption)).1, ← hkd, List.append_assoc]; rfl⟩, wrow_one Hd80.f2.f2⟩ | exact ⟨ws ++ [(0, i, k)], ⟨by omega, by simp; omega, by rw [← hws, wordsAt_plain hil hsn hno, ← hpk, pe_stop hee, List.append_assoc]; rfl⟩, wrow_one Hd80.f2.f2⟩) ?_
              · (try dsimp only); omega
            · (try simp only [beq_iff_eq, bne_iff_ne, ne_eq, decide_eq_true_eq, decide_eq_false_iff_not, beq_eq_false_iff_ne, bne_eq_false_iff_eq, Bool.not_eq_true', Bool.not_eq_false', Bool.not_eq_eq_eq_not, Bool.not_true, Bool.not_false, gt_iff_lt, ge_iff_le, Int.not_lt, Int.not_le] at h35)
              
              refine wc_skip ?_
              refine wq_seq ?_
              refine wc_seq ?_
              refine wc_region ?_
              refine wl_val (r_move rfl) (ltn rfl) ?_
              refine wl_val (r_assign rfl) (ltn rfl) ?_
              refine wl_nil ?_
              refine wq_seq ?_
              refine wc_seq ?_
              refine wc_block ?_
              have hno : isOp l i (digS l i) = false := red_no hkd (fun q => by have := hrb.2 q; simp_all) (fun q => by have q1 := q.1; have q2 := q.2; first | omega | simp_all)
              refine wc_loop [(0, _), (3, _), (5, _), (6, _), (27, _), (28, _), (29, _), (30, _), (31, _), (83, _), (84, _), (85, _), (86, _), (87, _)] (fun (k : Nat) => [(8, .int .i64 (k : Int))]) (fun (k : Nat) W => (i ≤ k ∧ k ≤ l.length ∧ peS l k = peS l i) ∧ Holds w0 W (Row 27 3 u ws.length (ws.flatMap wdE) • RowI 3 .i64 (.slice (some ⟨bu1, ou1, none⟩) (stL l) cu1) (statesS l) • F)) (fun (k : Nat) => l.length - k) (i) (Sub.cons rfl (Sub.cons rfl (Sub.cons rfl (Sub.cons rfl (Sub.cons rfl (Sub.cons rfl (Sub.cons rfl (Sub.cons rfl (Sub.cons rfl (Sub.cons rfl (Sub.cons rfl (Sub.cons rfl (Sub.cons rfl (Sub.cons rfl (Sub.nil _))))))))))))))) (Sub.cons rfl (Sub.nil _)) ⟨⟨by omega, by omega, rfl⟩, HJ2.f2.f2⟩ ?_
              rintro k w81 ⟨⟨hk, hkl, hpk⟩, HL2⟩
              dsimp only [List.cons_append, List.nil_append]
              refine wc_seq ?_
              refine wc_seq ?_
              refine wc_region ?_
              refine wl_val (r_move rfl) (ltn rfl) ?_
              refine wl_val (r_move rfl) (ltn rfl) ?_
              refine wl_val (r_lenR (hv _ (HL2.right.right)) Try.underlying22 rfl) (ltn rfl) ?_
              refine wl_val (r_lss rfl rfl) (ltn rfl) ?_
              refine wl_split rfl (ltn rfl) (fun h36 => ?_) (fun h36 => ?_)
              · (try simp only [beq_iff_eq, bne_iff_ne, ne_eq, decide_eq_true_eq, decide_eq_false_iff_not, beq_eq_false_iff_ne, bne_eq_false_iff_eq, Bool.not_eq_true', Bool.not_eq_false', Bool.not_eq_eq_eq_not, Bool.not_true, Bool.not_false, gt_iff_lt, ge_iff_le, Int.not_lt, Int.not_le] at h36)
                refine wl_yes rfl rfl ?_
                refine wl_val (r_move rfl) (ltn rfl) ?_
                refine wl_yes rfl rfl ?_
                refine wl_val (r_move rfl) (ltn rfl) ?_
                refine wl_yes rfl rfl ?_
                obtain ⟨bu1, ou1, cu1, eu1⟩ := RdI.posV ((HL2.f2).row_rd) (by omega)
                cases eu1
                refine wl_val (r_index Try.underlying47 Try.sizeOf3 rfl rfl (by omega)) (ltn rfl) ?_
                refine wl_yes rfl rfl ?_
                refine wl_val (r_as (r_load (plain_of Try.underlying3 rfl) rfl (by first | exact RdI.at1n ((HL2.f2).row_rd) (by omega) | exact RdI.at0 ((HL2.f2).row_rd) (by omega) | exact RdI.at1 ((HL2.f2).row_rd) (by omega))) (show Value.int .i64 ((statesS l).getD k 0) = .int .i64 (quoS l k) by rw [statesS_at (by omega)])) (ltn rfl) ?_
                refine wl_yes rfl rfl ?_
                refine wl_val (r_eql rfl rfl) (ltn rfl) ?_
                refine wl_yes rfl rfl ?_
                refine wl_split rfl (ltn rfl) (fun h37 => ?_) (fun h37 => ?_)
                · (try simp only [beq_iff_eq, bne_iff_ne, ne_eq, decide_eq_true_eq, decide_eq_false_iff_not, beq_eq_false_iff_ne, bne_eq_false_iff_eq, Bool.not_eq_true', Bool.not_eq_false', Bool.not_eq_eq_eq_not, Bool.not_true, Bool.not_false, gt_iff_lt, ge_iff_le, Int.not_lt, Int.not_le] at h37)
                  refine wl_yes rfl rfl ?_
                  refine wl_val (r_move rfl) (ltn rfl) ?_
                  refine wl_yes rfl rfl ?_
                  refine wl_val (r_move rfl) (ltn rfl) ?_
                  refine wl_yes rfl rfl ?_
                  obtain ⟨bv, ov, cv, ev⟩ := RdI.posV (hv _ (HL2.right.right)) (by omega)
                  cases ev
                  refine wl_val (r_index Try.underlying22 Try.sizeOf21 rfl rfl (by omega)) (ltn rfl) ?_
                  refine wl_yes rfl rfl ?_
                  refine wl_val (r_load (plain_of Try.underlying21 rfl) rfl (by first | exact RdI.at1n (hv _ (HL2.right.right)) (by omega) | exact RdI.at0 (hv _ (HL2.right.right)) (by omega) | exact RdI.at1 (hv _ (HL2.right.right)) (by omega))) (ltn rfl) ?_
                  refine wl_yes rfl rfl ?_
                  refine wl_eff (e_call (r_call rfl Try.func39 rfl rfl) (ref_blank_ret)) (ltn rfl) ?_
                  rintro _ _ ⟨rfl, rfl⟩
                  refine wl_yes rfl rfl ?_
                  refine wl_split rfl (ltn rfl) (fun h38 => ?_) (fun h38 => ?_)
                  · (try simp only [beq_iff_eq, bne_iff_ne, ne_eq, decide_eq_true_eq, decide_eq_false_iff_not, beq_eq_false_iff_ne, bne_eq_false_iff_eq, Bool.not_eq_true', Bool.not_eq_false', Bool.not_eq_eq_eq_not, Bool.not_true, Bool.not_false, gt_iff_lt, ge_iff_le, Int.not_lt, Int.not_le] at h38)
                    refine wl_no rfl rfl rfl (ltn rfl) ?_
                    refine wl_no rfl rfl rfl (ltn rfl) ?_
                    refine wl_no rfl rfl rfl (ltn rfl) ?_
                    refine wl_no rfl rfl rfl (ltn rfl) ?_
                    refine wl_no rfl rfl rfl (ltn rfl) ?_
                    refine wl_yes rfl rfl ?_
                    refine wl_val (r_pick_t rfl rfl) (ltn rfl) ?_
                    refine wl_yes rfl rfl ?_
                    refine wl_val (r_pick_t rfl rfl) (ltn rfl) ?_
                    refine wl_yes rfl rfl ?_
                    refine wl_val (r_not rfl) (ltn rfl) ?_
                    refine wl_val (r_pick_t rfl rfl) (ltn rfl) ?_
                    refine wl_nil ?_
                    refine wq_seq ?_
                    refine wc_cond rfl (fun h39 => ?_) (fun h39 => ?_)
                    · (try simp only [beq_iff_eq, bne_iff_ne, ne_eq, decide_eq_true_eq, decide_eq_false_iff_not, beq_eq_false_iff_ne, bne_eq_false_iff_eq, Bool.not_eq_true', Bool.not_eq_false', Bool.not_eq_eq_eq_not, Bool.not_true, Bool.not_false, gt_iff_lt, ge_iff_le, Int.not_lt, Int.not_le] at h39)
                      
                      refine wc_skip ?_
                      refine wq_seq ?_
                      refine wc_block ?_
                      have hef : endsS l k = false := by unfold endsS; rw [decide_eq_false_iff_not]; rintro (q | ⟨qa, qb⟩); omega; first | omega | exact qb (cls_zero (by assumption) (by assumption)) | simp_all
                      refine wc_region ?_
                      refine wl_val (r_move rfl) (ltn rfl) ?_
                      refine wl_val (r_as (r_add rfl rfl (by omega)) (show Value.int .i64 ((k : Int) + 1) = .int .i64 ((k + 1 : Nat) : Int) by rw [Int.natCast_add]; rfl)) (ltn rfl) ?_
                      refine wl_val (r_assign rfl) (ltn rfl) ?_
                      refine wl_nil ?_
                      refine wq_block_normal ?_
                      refine wq_round (_) (Sub.cons rfl (Sub.nil _)) (Sub.cons rfl (Sub.cons rfl (Sub.cons rfl (Sub.cons rfl (Sub.cons rfl (Sub.cons rfl (Sub.cons rfl (Sub.cons rfl (Sub.cons rfl (Sub.cons rfl (Sub.cons rfl (Sub.cons rfl (Sub.cons rfl (Sub.cons rfl (Sub.nil _))))))))))))))) (by (try dsimp only); exact ⟨⟨by omega, by omega, peS_mono hef hpk⟩, HL2.f2.f2⟩) ?_
                      · (try dsimp only); omega
                    · (try simp only [beq_iff_eq, bne_iff_ne, ne_eq, decide_eq_true_eq, decide_eq_false_iff_not, beq_eq_false_iff_ne, bne_eq_false_iff_eq, Bool.not_eq_true', Bool.not_eq_false', Bool.not_eq_eq_eq_not, Bool.not_true, Bool.not_false, gt_iff_lt, ge_iff_le, Int.not_lt, Int.not_le] at h39)
                      have hfq := h39
                      refine wc_exit ?_
                      refine wq_then_exit ?_
                      refine wq_then_exit ?_
                      refine wq_block_hit ?_
                      refine wq_seq ?_
                      refine wc_seq ?_
                      have hee : endsS l k = true := by unfold endsS; rw [decide_eq_true_eq]; first | (left; omega) | (right; exact ⟨by assumption, cls_blank (by assumption)⟩) | (right; exact ⟨by assumption, cls_op (by assumption)⟩) | (exfalso; simp at hfq)
                      have hplt := peS_lt (plain_go hil hsn hno)
                      rw [← hpk, pe_stop hee] at hplt
                      refine wc_region ?_
                      refine wl_val (r_move rfl) (ltn rfl) ?_
                      refine wl_val (r_move rfl) (ltn rfl) ?_
                      refine wl_val (r_move rfl) (ltn rfl) ?_
                      refine wl_val (r_build (pl := #[(0, 1), (1, 1), (2, 1)]) (_) Try.underlying27 Try.zeroValue27 (fun w => by kernel_rfl) rfl (rfl)) (ltn rfl) ?_
                      refine wl_eff (e_lit_one HL2 Try.underlying24 Try.sizeOf27 Try.zeroValue27 rfl rfl rfl (by decide) (by decide)) (ltn rfl) ?_
                      rintro l83 w83 H83
                      refine wl_eff (e_append H83.f2 Try.underlying24 (show (Try.prog.info? 27).map (fun i => (i.zero, i.size, i.bytes)) = some (some (.agg #[.int .i64 0, .int .i64 0, .int .i64 0]), 3, 24) by kernel_rfl) rfl rfl rfl ((H83).row_rd) (ones_cons (by first | rfl | assumption) (ones_cons (by first | rfl | assumption) (ones_cons (by first | rfl | assumption) ones_nil))) (by omega) (by omega)) (ltn rfl) ?_
                      rintro l84 w84 H84
                      have Hd85 := H84.f2.right
                      refine wl_val (r_assign rfl) (ltn rfl) ?_
                      refine wl_nil ?_
                      refine wq_seq ?_
                      refine wc_region ?_
                      refine wl_val (r_move rfl) (ltn rfl) ?_
                      refine wl_val (r_assign rfl) (ltn rfl) ?_
                      refine wl_nil ?_
                      refine wq_block_normal ?_
                      refine wq_round (_, _) (Sub.cons rfl (Sub.cons rfl (Sub.nil _))) (Sub.cons rfl (Sub.cons rfl (Sub.nil _))) (by (try dsimp only); exact by first | exact ⟨ws, ⟨by omega, by omega, by rw [← wordsAt_skip hil hsk]; exact hws⟩, Hd85.f2.f2⟩ | exact ⟨ws ++ [(1, i, i + opS l i)], ⟨(hA (by assumption) (by assumption)).2.2, by simp; omega, by rw [← hws, wordsAt_op hil hsn hop, (hA (by assumption) (by assumption)).1, List.append_assoc]; rfl⟩, wrow_one Hd85.f2.f2⟩ | exact ⟨ws ++ [(1, i, kd + opS l kd)], ⟨(hB (by assumption)).2.2.1, by simp; omega, by rw [← hws, wordsAt_op hil hsn hop, (hB (by assumption)).1, ← hkd, List.append_assoc]; rfl⟩, wrow_one Hd85.f2.f2⟩ | exact ⟨ws ++ [(0, i, k)], ⟨by omega, by simp; omega, by rw [← hws, wordsAt_plain hil hsn hno, ← hpk, pe_stop hee, List.append_assoc]; rfl⟩, wrow_one Hd85.f2.f2⟩) ?_
                      · (try dsimp only); omega
                  · (try simp only [beq_iff_eq, bne_iff_ne, ne_eq, decide_eq_true_eq, decide_eq_false_iff_not, beq_eq_false_iff_ne, bne_eq_false_iff_eq, Bool.not_eq_true', Bool.not_eq_false', Bool.not_eq_eq_eq_not, Bool.not_true, Bool.not_false, gt_iff_lt, ge_iff_le, Int.not_lt, Int.not_le] at h38)
                    refine wl_yes rfl rfl ?_
                    refine wl_val (r_move rfl) (ltn rfl) ?_
                    refine wl_yes rfl rfl ?_
                    refine wl_val (r_move rfl) (ltn rfl) ?_
                    refine wl_yes rfl rfl ?_
                    refine wl_val (r_index Try.underlying22 Try.sizeOf21 rfl rfl (by omega)) (ltn rfl) ?_
                    refine wl_yes rfl rfl ?_
                    refine wl_val (r_load (plain_of Try.underlying21 rfl) rfl (by first | exact RdI.at1n (hv _ (HL2.right.right)) (by omega) | exact RdI.at0 (hv _ (HL2.right.right)) (by omega) | exact RdI.at1 (hv _ (HL2.right.right)) (by omega))) (ltn rfl) ?_
                    refine wl_yes rfl rfl ?_
                    refine wl_eff (e_call (r_call rfl Try.func40 rfl rfl) (ref_op_ret)) (ltn rfl) ?_
                    rintro _ _ ⟨rfl, rfl⟩
                    refine wl_yes rfl rfl ?_
                    refine wl_val (r_pick_f rfl rfl) (ltn rfl) ?_
                    refine wl_yes rfl rfl ?_
                    refine wl_val (r_pick_t rfl rfl) (ltn rfl) ?_
                    refine wl_yes rfl rfl ?_
                    refine wl_val (r_not rfl) (ltn rfl) ?_
                    refine wl_val (r_pick_t rfl rfl) (ltn rfl) ?_
                    refine wl_nil ?_
                    refine wq_seq ?_
                    refine wc_cond rfl (fun h40 => ?_) (fun h40 => ?_)
                    · (try simp only [beq_iff_eq, bne_iff_ne, ne_eq, decide_eq_true_eq, decide_eq_false_iff_not, beq_eq_false_iff_ne, bne_eq_false_iff_eq, Bool.not_eq_true', Bool.not_eq_false', Bool.not_eq_eq_eq_not, Bool.not_true, Bool.not_false, gt_iff_lt, ge_iff_le, Int.not_lt, Int.not_le] at h40)
                      
                      refine wc_skip ?_
                      refine wq_seq ?_
                      refine wc_block ?_
                      have hef : endsS l k = false := by unfold endsS; rw [decide_eq_false_iff_not]; rintro (q | ⟨qa, qb⟩); omega; first | omega | exact qb (cls_zero (by assumption) (by assumption)) | simp_all
                      refine wc_region ?_
                      refine wl_val (r_move rfl) (ltn rfl) ?_
                      refine wl_val (r_as (r_add rfl rfl (by omega)) (show Value.int .i64 ((k : Int) + 1) = .int .i64 ((k + 1 : Nat) : Int) by rw [Int.natCast_add]; rfl)) (ltn rfl) ?_
                      refine wl_val (r_assign rfl) (ltn rfl) ?_
                      refine wl_nil ?_
                      refine wq_block_normal ?_
                      refine wq_round (_) (Sub.cons rfl (Sub.nil _)) (Sub.cons rfl (Sub.cons rfl (Sub.cons rfl (Sub.cons rfl (Sub.cons rfl (Sub.cons rfl (Sub.cons rfl (Sub.cons rfl (Sub.cons rfl (Sub.cons rfl (Sub.cons rfl (Sub.cons rfl (Sub.cons rfl (Sub.cons rfl (Sub.nil _))))))))))))))) (by (try dsimp only); exact ⟨⟨by omega, by omega, peS_mono hef hpk⟩, HL2.f2.f2⟩) ?_
                      · (try dsimp only); omega
                    · (try simp only [beq_iff_eq, bne_iff_ne, ne_eq, decide_eq_true_eq, decide_eq_false_iff_not, beq_eq_false_iff_ne, bne_eq_false_iff_eq, Bool.not_eq_true', Bool.not_eq_false', Bool.not_eq_eq_eq_not, Bool.not_true, Bool.not_false, gt_iff_lt, ge_iff_le, Int.not_lt, Int.not_le] at h40)
                      have hfq := h40
                      refine wc_exit ?_
                      refine wq_then_exit ?_
                      refine wq_then_exit ?_
                      refine wq_block_hit ?_
                      refine wq_seq ?_
                      refine wc_seq ?_
                      have hee : endsS l k = true := by unfold endsS; rw [decide_eq_true_eq]; first | (left; omega) | (right; exact ⟨by assumption, cls_blank (by assumption)⟩) | (right; exact ⟨by assumption, cls_op (by assumption)⟩) | (exfalso; simp at hfq)
                      have hplt := peS_lt (plain_go hil hsn hno)
                      rw [← hpk, pe_stop hee] at hplt
                      refine wc_region ?_
                      refine wl_val (r_move rfl) (ltn rfl) ?_
                      refine wl_val (r_move rfl) (ltn rfl) ?_
                      refine wl_val (r_move rfl) (ltn rfl) ?_
                      refine wl_val (r_build (pl := #[(0, 1), (1, 1), (2, 1)]) (_) Try.underlying27 Try.zeroValue27 (fun w => by kernel_rfl) rfl (rfl)) (ltn rfl) ?_
                      refine wl_eff (e_lit_one HL2 Try.underlying24 Try.sizeOf27 Try.zeroValue27 rfl rfl rfl (by decide) (by decide)) (ltn rfl) ?_
                      rintro l87 w87 H87
                      refine wl_eff (e_append H87.f2 Try.underlying24 (show (Try.prog.info? 27).map (fun i => (i.zero, i.size, i.bytes)) = some (some (.agg #[.int .i64 0, .int .i64 0, .int .i64 0]), 3, 24) by kernel_rfl) rfl rfl rfl ((H87).row_rd) (ones_cons (by first | rfl | assumption) (ones_cons (by first | rfl | assumption) (ones_cons (by first | rfl | assumption) ones_nil))) (by omega) (by omega)) (ltn rfl) ?_
                      rintro l88 w88 H88
                      have Hd89 := H88.f2.right
                      refine wl_val (r_assign rfl) (ltn rfl) ?_
                      refine wl_nil ?_
                      refine wq_seq ?_
                      refine wc_region ?_
                      refine wl_val (r_move rfl) (ltn rfl) ?_
                      refine wl_val (r_assign rfl) (ltn rfl) ?_
                      refine wl_nil ?_
                      refine wq_block_normal ?_
                      refine wq_round (_, _) (Sub.cons rfl (Sub.cons rfl (Sub.nil _))) (Sub.cons rfl (Sub.cons rfl (Sub.nil _))) (by (try dsimp only); exact by first | exact ⟨ws, ⟨by omega, by omega, by rw [← wordsAt_skip hil hsk]; exact hws⟩, Hd89.f2.f2⟩ | exact ⟨ws ++ [(1, i, i + opS l i)], ⟨(hA (by assumption) (by assumption)).2.2, by simp; omega, by rw [← hws, wordsAt_op hil hsn hop, (hA (by assumption) (by assumption)).1, List.append_assoc]; rfl⟩, wrow_one Hd89.f2.f2⟩ | exact ⟨ws ++ [(1, i, kd + opS l kd)], ⟨(hB (by assumption)).2.2.1, by simp; omega, by rw [← hws, wordsAt_op hil hsn hop, (hB (by assumption)).1, ← hkd, List.append_assoc]; rfl⟩, wrow_one Hd89.f2.f2⟩ | exact ⟨ws ++ [(0, i, k)], ⟨by omega, by simp; omega, by rw [← hws, wordsAt_plain hil hsn hno, ← hpk, pe_stop hee, List.append_assoc]; rfl⟩, wrow_one Hd89.f2.f2⟩) ?_
                      · (try dsimp only); omega
                · (try simp only [beq_iff_eq, bne_iff_ne, ne_eq, decide_eq_true_eq, decide_eq_false_iff_not, beq_eq_false_iff_ne, bne_eq_false_iff_eq, Bool.not_eq_true', Bool.not_eq_false', Bool.not_eq_eq_eq_not, Bool.not_true, Bool.not_false, gt_iff_lt, ge_iff_le, Int.not_lt, Int.not_le] at h37)
                  refine wl_no rfl rfl rfl (ltn rfl) ?_
                  refine wl_no rfl rfl rfl (ltn rfl) ?_
                  refine wl_no rfl rfl rfl (ltn rfl) ?_
                  refine wl_no rfl rfl rfl (ltn rfl) ?_
                  refine wl_no rfl rfl rfl (ltn rfl) ?_
                  refine wl_no rfl rfl rfl (ltn rfl) ?_
                  refine wl_nou rfl rfl (ltn rfl) ?_
                  refine wl_nou rfl rfl (ltn rfl) ?_
                  refine wl_nou rfl rfl (ltn rfl) ?_
                  refine wl_nou rfl rfl (ltn rfl) ?_
                  refine wl_nou rfl rfl (ltn rfl) ?_
                  refine wl_no rfl rfl rfl (ltn rfl) ?_
                  refine wl_yes rfl rfl ?_
                  refine wl_val (r_pick_f rfl rfl) (ltn rfl) ?_
                  refine wl_yes rfl rfl ?_
                  refine wl_val (r_not rfl) (ltn rfl) ?_
                  refine wl_val (r_pick_t rfl rfl) (ltn rfl) ?_
                  refine wl_nil ?_
                  refine wq_seq ?_
                  refine wc_cond rfl (fun h41 => ?_) (fun h41 => ?_)
                  · (try simp only [beq_iff_eq, bne_iff_ne, ne_eq, decide_eq_true_eq, decide_eq_false_iff_not, beq_eq_false_iff_ne, bne_eq_false_iff_eq, Bool.not_eq_true', Bool.not_eq_false', Bool.not_eq_eq_eq_not, Bool.not_true, Bool.not_false, gt_iff_lt, ge_iff_le, Int.not_lt, Int.not_le] at h41)
                    
                    refine wc_skip ?_
                    refine wq_seq ?_
                    refine wc_block ?_
                    have hef : endsS l k = false := by unfold endsS; rw [decide_eq_false_iff_not]; rintro (q | ⟨qa, qb⟩); omega; first | omega | exact qb (cls_zero (by assumption) (by assumption)) | simp_all
                    refine wc_region ?_
                    refine wl_val (r_move rfl) (ltn rfl) ?_
                    refine wl_val (r_as (r_add rfl rfl (by omega)) (show Value.int .i64 ((k : Int) + 1) = .int .i64 ((k + 1 : Nat) : Int) by rw [Int.natCast_add]; rfl)) (ltn rfl) ?_
                    refine wl_val (r_assign rfl) (ltn rfl) ?_
                    refine wl_nil ?_
                    refine wq_block_normal ?_
                    refine wq_round (_) (Sub.cons rfl (Sub.nil _)) (Sub.cons rfl (Sub.cons rfl (Sub.cons rfl (Sub.cons rfl (Sub.cons rfl (Sub.cons rfl (Sub.cons rfl (Sub.cons rfl (Sub.cons rfl (Sub.cons rfl (Sub.cons rfl (Sub.cons rfl (Sub.cons rfl (Sub.cons rfl (Sub.nil _))))))))))))))) (by (try dsimp only); exact ⟨⟨by omega, by omega, peS_mono hef hpk⟩, HL2.f2.f2⟩) ?_
                    · (try dsimp only); omega
                  · (try simp only [beq_iff_eq, bne_iff_ne, ne_eq, decide_eq_true_eq, decide_eq_false_iff_not, beq_eq_false_iff_ne, bne_eq_false_iff_eq, Bool.not_eq_true', Bool.not_eq_false', Bool.not_eq_eq_eq_not, Bool.not_true, Bool.not_false, gt_iff_lt, ge_iff_le, Int.not_lt, Int.not_le] at h41)
                    have hfq := h41
                    refine wc_exit ?_
                    refine wq_then_exit ?_
                    refine wq_then_exit ?_
                    refine wq_block_hit ?_
                    refine wq_seq ?_
                    refine wc_seq ?_
                    have hee : endsS l k = true := by unfold endsS; rw [decide_eq_true_eq]; first | (left; omega) | (right; exact ⟨by assumption, cls_blank (by assumption)⟩) | (right; exact ⟨by assumption, cls_op (by assumption)⟩) | (exfalso; simp at hfq)
                    have hplt := peS_lt (plain_go hil hsn hno)
                    rw [← hpk, pe_stop hee] at hplt
                    refine wc_region ?_
                    refine wl_val (r_move rfl) (ltn rfl) ?_
                    refine wl_val (r_move rfl) (ltn rfl) ?_
                    refine wl_val (r_move rfl) (ltn rfl) ?_
                    refine wl_val (r_build (pl := #[(0, 1), (1, 1), (2, 1)]) (_) Try.underlying27 Try.zeroValue27 (fun w => by kernel_rfl) rfl (rfl)) (ltn rfl) ?_
                    refine wl_eff (e_lit_one HL2 Try.underlying24 Try.sizeOf27 Try.zeroValue27 rfl rfl rfl (by decide) (by decide)) (ltn rfl) ?_
                    rintro l90 w90 H90
                    refine wl_eff (e_append H90.f2 Try.underlying24 (show (Try.prog.info? 27).map (fun i => (i.zero, i.size, i.bytes)) = some (some (.agg #[.int .i64 0, .int .i64 0, .int .i64 0]), 3, 24) by kernel_rfl) rfl rfl rfl ((H90).row_rd) (ones_cons (by first | rfl | assumption) (ones_cons (by first | rfl | assumption) (ones_cons (by first | rfl | assumption) ones_nil))) (by omega) (by omega)) (ltn rfl) ?_
                    rintro l91 w91 H91
                    have Hd92 := H91.f2.right
                    refine wl_val (r_assign rfl) (ltn rfl) ?_
                    refine wl_nil ?_
                    refine wq_seq ?_
                    refine wc_region ?_
                    refine wl_val (r_move rfl) (ltn rfl) ?_
                    refine wl_val (r_assign rfl) (ltn rfl) ?_
                    refine wl_nil ?_
                    refine wq_block_normal ?_
                    refine wq_round (_, _) (Sub.cons rfl (Sub.cons rfl (Sub.nil _))) (Sub.cons rfl (Sub.cons rfl (Sub.nil _))) (by (try dsimp only); exact by first | exact ⟨ws, ⟨by omega, by omega, by rw [← wordsAt_skip hil hsk]; exact hws⟩, Hd92.f2.f2⟩ | exact ⟨ws ++ [(1, i, i + opS l i)], ⟨(hA (by assumption) (by assumption)).2.2, by simp; omega, by rw [← hws, wordsAt_op hil hsn hop, (hA (by assumption) (by assumption)).1, List.append_assoc]; rfl⟩, wrow_one Hd92.f2.f2⟩ | exact ⟨ws ++ [(1, i, kd + opS l kd)], ⟨(hB (by assumption)).2.2.1, by simp; omega, by rw [← hws, wordsAt_op hil hsn hop, (hB (by assumption)).1, ← hkd, List.append_assoc]; rfl⟩, wrow_one Hd92.f2.f2⟩ | exact ⟨ws ++ [(0, i, k)], ⟨by omega, by simp; omega, by rw [← hws, wordsAt_plain hil hsn hno, ← hpk, pe_stop hee, List.append_assoc]; rfl⟩, wrow_one Hd92.f2.f2⟩) ?_
                    · (try dsimp only); omega
              · (try simp only [beq_iff_eq, bne_iff_ne, ne_eq, decide_eq_true_eq, decide_eq_false_iff_not, beq_eq_false_iff_ne, bne_eq_false_iff_eq, Bool.not_eq_true', Bool.not_eq_false', Bool.not_eq_eq_eq_not, Bool.not_true, Bool.not_false, gt_iff_lt, ge_iff_le, Int.not_lt, Int.not_le] at h36)
                refine wl_no rfl rfl rfl (ltn rfl) ?_
                refine wl_no rfl rfl rfl (ltn rfl) ?_
                refine wl_no rfl rfl rfl (ltn rfl) ?_
                refine wl_no rfl rfl rfl (ltn rfl) ?_
                refine wl_no rfl rfl rfl (ltn rfl) ?_
                refine wl_no rfl rfl rfl (ltn rfl) ?_
                refine wl_nou rfl rfl (ltn rfl) ?_
                refine wl_nou rfl rfl (ltn rfl) ?_
                refine wl_nou rfl rfl (ltn rfl) ?_
                refine wl_nou rfl rfl (ltn rfl) ?_
                refine wl_nou rfl rfl (ltn rfl) ?_
                refine wl_nou rfl rfl (ltn rfl) ?_
                refine wl_nou rfl rfl (ltn rfl) ?_
                refine wl_nou rfl rfl (ltn rfl) ?_
                refine wl_nou rfl rfl (ltn rfl) ?_
                refine wl_nou rfl rfl (ltn rfl) ?_
                refine wl_nou rfl rfl (ltn rfl) ?_
                refine wl_nou rfl rfl (ltn rfl) ?_
                refine wl_no rfl rfl rfl (ltn rfl) ?_
                refine wl_no rfl rfl rfl (ltn rfl) ?_
                refine wl_val (r_pick_f rfl rfl) (ltn rfl) ?_
                refine wl_nil ?_
                refine wq_seq ?_
                refine wc_cond_f rfl ?_
                refine wc_exit ?_
                refine wq_then_exit ?_
                refine wq_then_exit ?_
                refine wq_block_hit ?_
                refine wq_seq ?_
                refine wc_seq ?_
                have hee : endsS l k = true := by unfold endsS; rw [decide_eq_true_eq]; first | (left; omega) | (right; exact ⟨by assumption, cls_blank (by assumption)⟩) | (right; exact ⟨by assumption, cls_op (by assumption)⟩) | (exfalso; simp at hfq)
                have hplt := peS_lt (plain_go hil hsn hno)
                rw [← hpk, pe_stop hee] at hplt
                refine wc_region ?_
                refine wl_val (r_move rfl) (ltn rfl) ?_
                refine wl_val (r_move rfl) (ltn rfl) ?_
                refine wl_val (r_move rfl) (ltn rfl) ?_
                refine wl_val (r_build (pl := #[(0, 1), (1, 1), (2, 1)]) (_) Try.underlying27 Try.zeroValue27 (fun w => by kernel_rfl) rfl (rfl)) (ltn rfl) ?_
                refine wl_eff (e_lit_one HL2 Try.underlying24 Try.sizeOf27 Try.zeroValue27 rfl rfl rfl (by decide) (by decide)) (ltn rfl) ?_
                rintro l93 w93 H93
                refine wl_eff (e_append H93.f2 Try.underlying24 (show (Try.prog.info? 27).map (fun i => (i.zero, i.size, i.bytes)) = some (some (.agg #[.int .i64 0, .int .i64 0, .int .i64 0]), 3, 24) by kernel_rfl) rfl rfl rfl ((H93).row_rd) (ones_cons (by first | rfl | assumption) (ones_cons (by first | rfl | assumption) (ones_cons (by first | rfl | assumption) ones_nil))) (by omega) (by omega)) (ltn rfl) ?_
                rintro l94 w94 H94
                have Hd95 := H94.f2.right
                refine wl_val (r_assign rfl) (ltn rfl) ?_
                refine wl_nil ?_
                refine wq_seq ?_
                refine wc_region ?_
                refine wl_val (r_move rfl) (ltn rfl) ?_
                refine wl_val (r_assign rfl) (ltn rfl) ?_
                refine wl_nil ?_
                refine wq_block_normal ?_
                refine wq_round (_, _) (Sub.cons rfl (Sub.cons rfl (Sub.nil _))) (Sub.cons rfl (Sub.cons rfl (Sub.nil _))) (by (try dsimp only); exact by first | exact ⟨ws, ⟨by omega, by omega, by rw [← wordsAt_skip hil hsk]; exact hws⟩, Hd95.f2.f2⟩ | exact ⟨ws ++ [(1, i, i + opS l i)], ⟨(hA (by assumption) (by assumption)).2.2, by simp; omega, by rw [← hws, wordsAt_op hil hsn hop, (hA (by assumption) (by assumption)).1, List.append_assoc]; rfl⟩, wrow_one Hd95.f2.f2⟩ | exact ⟨ws ++ [(1, i, kd + opS l kd)], ⟨(hB (by assumption)).2.2.1, by simp; omega, by rw [← hws, wordsAt_op hil hsn hop, (hB (by assumption)).1, ← hkd, List.append_assoc]; rfl⟩, wrow_one Hd95.f2.f2⟩ | exact ⟨ws ++ [(0, i, k)], ⟨by omega, by simp; omega, by rw [← hws, wordsAt_plain hil hsn hno, ← hpk, pe_stop hee, List.append_assoc]; rfl⟩, wrow_one Hd95.f2.f2⟩) ?_
                · (try dsimp only); omega
        · skip
          refine wc_region ?_
          refine wl_val (r_move rfl) (ltn rfl) ?_
          refine wl_val (r_move rfl) (ltn rfl) ?_
          refine wl_val (r_lenR (hv _ (HJ.right.right)) Try.underlying22 rfl) (ltn rfl) ?_
          refine wl_val (r_lss rfl rfl) (ltn rfl) ?_
          refine wl_split rfl (ltn rfl) (fun h42 => ?_) (fun h42 => ?_)
          · (try simp only [beq_iff_eq, bne_iff_ne, ne_eq, decide_eq_true_eq, decide_eq_false_iff_not, beq_eq_false_iff_ne, bne_eq_false_iff_eq, Bool.not_eq_true', Bool.not_eq_false', Bool.not_eq_eq_eq_not, Bool.not_true, Bool.not_false, gt_iff_lt, ge_iff_le, Int.not_lt, Int.not_le] at h42)
            refine wl_yes rfl rfl ?_
            refine wl_val (r_move rfl) (ltn rfl) ?_
            refine wl_yes rfl rfl ?_
            refine wl_val (r_move rfl) (ltn rfl) ?_
            refine wl_yes rfl rfl ?_
            obtain ⟨bu1, ou1, cu1, eu1⟩ := RdI.posV ((HJ.f2).row_rd) (by omega)
            cases eu1
            refine wl_val (r_index Try.underlying47 Try.sizeOf3 rfl rfl (by omega)) (ltn rfl) ?_
            refine wl_yes rfl rfl ?_
            refine wl_val (r_as (r_load (plain_of Try.underlying3 rfl) rfl (by first | exact RdI.at1n ((HJ.f2).row_rd) (by omega) | exact RdI.at0 ((HJ.f2).row_rd) (by omega) | exact RdI.at1 ((HJ.f2).row_rd) (by omega))) (show Value.int .i64 ((statesS l).getD kd 0) = .int .i64 (quoS l kd) by rw [statesS_at (by omega)])) (ltn rfl) ?_
            refine wl_yes rfl rfl ?_
            refine wl_val (r_eql rfl rfl) (ltn rfl) ?_
            refine wl_val (r_pick_t rfl rfl) (ltn rfl) ?_
            refine wl_split rfl (ltn rfl) (fun h43 => ?_) (fun h43 => ?_)
            · (try simp only [beq_iff_eq, bne_iff_ne, ne_eq, decide_eq_true_eq, decide_eq_false_iff_not, beq_eq_false_iff_ne, bne_eq_false_iff_eq, Bool.not_eq_true', Bool.not_eq_false', Bool.not_eq_eq_eq_not, Bool.not_true, Bool.not_false, gt_iff_lt, ge_iff_le, Int.not_lt, Int.not_le] at h43)
              refine wl_yes rfl rfl ?_
              refine wl_val (r_move rfl) (ltn rfl) ?_
              refine wl_yes rfl rfl ?_
              refine wl_val (r_move rfl) (ltn rfl) ?_
              refine wl_yes rfl rfl ?_
              obtain ⟨bv, ov, cv, ev⟩ := RdI.posV (hv _ (HJ.right.right)) (by omega)
              cases ev
              refine wl_val (r_index Try.underlying22 Try.sizeOf21 rfl rfl (by omega)) (ltn rfl) ?_
              refine wl_yes rfl rfl ?_
              refine wl_val (r_load (plain_of Try.underlying21 rfl) rfl (by first | exact RdI.at1n (hv _ (HJ.right.right)) (by omega) | exact RdI.at0 (hv _ (HJ.right.right)) (by omega) | exact RdI.at1 (hv _ (HJ.right.right)) (by omega))) (ltn rfl) ?_
              refine wl_yes rfl rfl ?_
              refine wl_val (r_eql rfl rfl) (ltn rfl) ?_
              refine wl_yes rfl rfl ?_
              refine wl_split rfl (ltn rfl) (fun h44 => ?_) (fun h44 => ?_)
              · (try simp only [beq_iff_eq, bne_iff_ne, ne_eq, decide_eq_true_eq, decide_eq_false_iff_not, beq_eq_false_iff_ne, bne_eq_false_iff_eq, Bool.not_eq_true', Bool.not_eq_false', Bool.not_eq_eq_eq_not, Bool.not_true, Bool.not_false, gt_iff_lt, ge_iff_le, Int.not_lt, Int.not_le] at h44)
                refine wl_no rfl rfl rfl (ltn rfl) ?_
                refine wl_no rfl rfl rfl (ltn rfl) ?_
                refine wl_no rfl rfl rfl (ltn rfl) ?_
                refine wl_no rfl rfl rfl (ltn rfl) ?_
                refine wl_no rfl rfl rfl (ltn rfl) ?_
                refine wl_yes rfl rfl ?_
                refine wl_val (r_pick_t rfl rfl) (ltn rfl) ?_
                refine wl_val (r_pick_t rfl rfl) (ltn rfl) ?_
                refine wl_val (r_assign rfl) (ltn rfl) ?_
                refine wl_nil ?_
                refine wq_join (_) (Sub.cons rfl (Sub.nil _)) (Sub.cons rfl (Sub.cons rfl (Sub.cons rfl (Sub.cons rfl (Sub.cons rfl (Sub.cons rfl (Sub.cons rfl (Sub.cons rfl (Sub.cons rfl (Sub.cons rfl (Sub.cons rfl (Sub.nil _)))))))))))) (by (try dsimp only); exact ⟨by first | (simp; omega) | (simp_all; done) | (simp_all; omega), HJ.f2.f2⟩)
              · (try simp only [beq_iff_eq, bne_iff_ne, ne_eq, decide_eq_true_eq, decide_eq_false_iff_not, beq_eq_false_iff_ne, bne_eq_false_iff_eq, Bool.not_eq_true', Bool.not_eq_false', Bool.not_eq_eq_eq_not, Bool.not_true, Bool.not_false, gt_iff_lt, ge_iff_le, Int.not_lt, Int.not_le] at h44)
                refine wl_yes rfl rfl ?_
                refine wl_val (r_move rfl) (ltn rfl) ?_
                refine wl_yes rfl rfl ?_
                refine wl_val (r_move rfl) (ltn rfl) ?_
                refine wl_yes rfl rfl ?_
                refine wl_val (r_index Try.underlying22 Try.sizeOf21 rfl rfl (by omega)) (ltn rfl) ?_
                refine wl_yes rfl rfl ?_
                refine wl_val (r_load (plain_of Try.underlying21 rfl) rfl (by first | exact RdI.at1n (hv _ (HJ.right.right)) (by omega) | exact RdI.at0 (hv _ (HJ.right.right)) (by omega) | exact RdI.at1 (hv _ (HJ.right.right)) (by omega))) (ltn rfl) ?_
                refine wl_yes rfl rfl ?_
                refine wl_val (r_eql rfl rfl) (ltn rfl) ?_
                refine wl_yes rfl rfl ?_
                refine wl_val (r_pick_f rfl rfl) (ltn rfl) ?_
                refine wl_val (r_pick_t rfl rfl) (ltn rfl) ?_
                refine wl_val (r_assign rfl) (ltn rfl) ?_
                refine wl_nil ?_
                refine wq_join (_) (Sub.cons rfl (Sub.nil _)) (Sub.cons rfl (Sub.cons rfl (Sub.cons rfl (Sub.cons rfl (Sub.cons rfl (Sub.cons rfl (Sub.cons rfl (Sub.cons rfl (Sub.cons rfl (Sub.cons rfl (Sub.cons rfl (Sub.nil _)))))))))))) (by (try dsimp only); exact ⟨by first | (simp; omega) | (simp_all; done) | (simp_all; omega), HJ.f2.f2⟩)
            · (try simp only [beq_iff_eq, bne_iff_ne, ne_eq, decide_eq_true_eq, decide_eq_false_iff_not, beq_eq_false_iff_ne, bne_eq_false_iff_eq, Bool.not_eq_true', Bool.not_eq_false', Bool.not_eq_eq_eq_not, Bool.not_true, Bool.not_false, gt_iff_lt, ge_iff_le, Int.not_lt, Int.not_le] at h43)
              refine wl_no rfl rfl rfl (ltn rfl) ?_
              refine wl_no rfl rfl rfl (ltn rfl) ?_
              refine wl_no rfl rfl rfl (ltn rfl) ?_
              refine wl_no rfl rfl rfl (ltn rfl) ?_
              refine wl_no rfl rfl rfl (ltn rfl) ?_
              refine wl_no rfl rfl rfl (ltn rfl) ?_
              refine wl_nou rfl rfl (ltn rfl) ?_
              refine wl_nou rfl rfl (ltn rfl) ?_
              refine wl_nou rfl rfl (ltn rfl) ?_
              refine wl_nou rfl rfl (ltn rfl) ?_
              refine wl_nou rfl rfl (ltn rfl) ?_
              refine wl_no rfl rfl rfl (ltn rfl) ?_
              refine wl_val (r_pick_f rfl rfl) (ltn rfl) ?_
              refine wl_val (r_assign rfl) (ltn rfl) ?_
              refine wl_nil ?_
              refine wq_join (_) (Sub.cons rfl (Sub.nil _)) (Sub.cons rfl (Sub.cons rfl (Sub.cons rfl (Sub.cons rfl (Sub.cons rfl (Sub.cons rfl (Sub.cons rfl (Sub.cons rfl (Sub.cons rfl (Sub.cons rfl (Sub.cons rfl (Sub.nil _)))))))))))) (by (try dsimp only); exact ⟨by first | (simp; omega) | (simp_all; done) | (simp_all; omega), HJ.f2.f2⟩)
          · (try simp only [beq_iff_eq, bne_iff_ne, ne_eq, decide_eq_true_eq, decide_eq_false_iff_not, beq_eq_false_iff_ne, bne_eq_false_iff_eq, Bool.not_eq_true', Bool.not_eq_false', Bool.not_eq_eq_eq_not, Bool.not_true, Bool.not_false, gt_iff_lt, ge_iff_le, Int.not_lt, Int.not_le] at h42)
            refine wl_no rfl rfl rfl (ltn rfl) ?_
            refine wl_no rfl rfl rfl (ltn rfl) ?_
            refine wl_no rfl rfl rfl (ltn rfl) ?_
            refine wl_no rfl rfl rfl (ltn rfl) ?_
            refine wl_no rfl rfl rfl (ltn rfl) ?_
            refine wl_val (r_pick_f rfl rfl) (ltn rfl) ?_
            refine wl_val (r_move rfl) (ltn rfl) ?_
            refine wl_no rfl rfl rfl (ltn rfl) ?_
            refine wl_no rfl rfl rfl (ltn rfl) ?_
            refine wl_no rfl rfl rfl (ltn rfl) ?_
            refine wl_no rfl rfl rfl (ltn rfl) ?_
            refine wl_no rfl rfl rfl (ltn rfl) ?_
            refine wl_no rfl rfl rfl (ltn rfl) ?_
            refine wl_nou rfl rfl (ltn rfl) ?_
            refine wl_nou rfl rfl (ltn rfl) ?_
            refine wl_nou rfl rfl (ltn rfl) ?_
            refine wl_nou rfl rfl (ltn rfl) ?_
            refine wl_nou rfl rfl (ltn rfl) ?_
            refine wl_no rfl rfl rfl (ltn rfl) ?_
            refine wl_val (r_pick_f rfl rfl) (ltn rfl) ?_
            refine wl_val (r_assign rfl) (ltn rfl) ?_
            refine wl_nil ?_
            refine wq_join (_) (Sub.cons rfl (Sub.nil _)) (Sub.cons rfl (Sub.cons rfl (Sub.cons rfl (Sub.cons rfl (Sub.cons rfl (Sub.cons rfl (Sub.cons rfl (Sub.cons rfl (Sub.cons rfl (Sub.cons rfl (Sub.cons rfl (Sub.nil _)))))))))))) (by (try dsimp only); exact ⟨by first | (simp; omega) | (simp_all; done) | (simp_all; omega), HJ.f2.f2⟩)
      · skip
        refine wc_block ?_
        refine wc_loop [(0, _), (3, _), (5, _), (6, _), (7, _), (27, _), (28, _), (29, _), (30, _), (31, _)] (fun (k : Nat) => [(8, .int .i64 (k : Int))]) (fun (k : Nat) W => (i ≤ k ∧ k ≤ l.length ∧ k + digN l k = i + digN l i) ∧ Holds w0 W (Row 27 3 u ws.length (ws.flatMap wdE) • RowI 3 .i64 (.slice (some ⟨bu1, ou1, none⟩) (stL l) cu1) (statesS l) • F)) (fun (k : Nat) => l.length - k) (i) (Sub.cons rfl (Sub.cons rfl (Sub.cons rfl (Sub.cons rfl (Sub.cons rfl (Sub.cons rfl (Sub.cons rfl (Sub.cons rfl (Sub.cons rfl (Sub.cons rfl (Sub.nil _))))))))))) (Sub.cons rfl (Sub.nil _)) ⟨⟨by omega, by omega, rfl⟩, HL.f2.f2⟩ ?_
        rintro k w96 ⟨⟨hk, hkl, hkn⟩, HL1⟩
        dsimp only [List.cons_append, List.nil_append]
        refine wc_seq ?_
        refine wc_seq ?_
        refine wc_region ?_
        refine wl_val (r_move rfl) (ltn rfl) ?_
        refine wl_val (r_move rfl) (ltn rfl) ?_
        refine wl_val (r_lenR (hv _ (HL1.right.right)) Try.underlying22 rfl) (ltn rfl) ?_
        refine wl_val (r_lss rfl rfl) (ltn rfl) ?_
        refine wl_split rfl (ltn rfl) (fun h45 => ?_) (fun h45 => ?_)
        · (try simp only [beq_iff_eq, bne_iff_ne, ne_eq, decide_eq_true_eq, decide_eq_false_iff_not, beq_eq_false_iff_ne, bne_eq_false_iff_eq, Bool.not_eq_true', Bool.not_eq_false', Bool.not_eq_eq_eq_not, Bool.not_true, Bool.not_false, gt_iff_lt, ge_iff_le, Int.not_lt, Int.not_le] at h45)
          refine wl_yes rfl rfl ?_
          refine wl_val (r_move rfl) (ltn rfl) ?_
          refine wl_yes rfl rfl ?_
          refine wl_val (r_move rfl) (ltn rfl) ?_
          refine wl_yes rfl rfl ?_
          obtain ⟨bu1, ou1, cu1, eu1⟩ := RdI.posV ((HL1.f2).row_rd) (by omega)
          cases eu1
          refine wl_val (r_index Try.underlying47 Try.sizeOf3 rfl rfl (by omega)) (ltn rfl) ?_
          refine wl_yes rfl rfl ?_
          refine wl_val (r_as (r_load (plain_of Try.underlying3 rfl) rfl (by first | exact RdI.at1n ((HL1.f2).row_rd) (by omega) | exact RdI.at0 ((HL1.f2).row_rd) (by omega) | exact RdI.at1 ((HL1.f2).row_rd) (by omega))) (show Value.int .i64 ((statesS l).getD k 0) = .int .i64 (quoS l k) by rw [statesS_at (by omega)])) (ltn rfl) ?_
          refine wl_yes rfl rfl ?_
          refine wl_val (r_eql rfl rfl) (ltn rfl) ?_
          refine wl_val (r_pick_t rfl rfl) (ltn rfl) ?_
          refine wl_split rfl (ltn rfl) (fun h46 => ?_) (fun h46 => ?_)
          · (try simp only [beq_iff_eq, bne_iff_ne, ne_eq, decide_eq_true_eq, decide_eq_false_iff_not, beq_eq_false_iff_ne, bne_eq_false_iff_eq, Bool.not_eq_true', Bool.not_eq_false', Bool.not_eq_eq_eq_not, Bool.not_true, Bool.not_false, gt_iff_lt, ge_iff_le, Int.not_lt, Int.not_le] at h46)
            refine wl_yes rfl rfl ?_
            refine wl_val (r_move rfl) (ltn rfl) ?_
            refine wl_yes rfl rfl ?_
            refine wl_val (r_move rfl) (ltn rfl) ?_
            refine wl_yes rfl rfl ?_
            obtain ⟨bv, ov, cv, ev⟩ := RdI.posV (hv _ (HL1.right.right)) (by omega)
            cases ev
            refine wl_val (r_index Try.underlying22 Try.sizeOf21 rfl rfl (by omega)) (ltn rfl) ?_
            refine wl_yes rfl rfl ?_
            refine wl_val (r_load (plain_of Try.underlying21 rfl) rfl (by first | exact RdI.at1n (hv _ (HL1.right.right)) (by omega) | exact RdI.at0 (hv _ (HL1.right.right)) (by omega) | exact RdI.at1 (hv _ (HL1.right.right)) (by omega))) (ltn rfl) ?_
            refine wl_yes rfl rfl ?_
            refine wl_eff (e_call (r_call rfl Try.func42 rfl rfl) (ref_digit_ret)) (ltn rfl) ?_
            rintro _ _ ⟨rfl, rfl⟩
            refine wl_val (r_pick_t rfl rfl) (ltn rfl) ?_
            refine wl_nil ?_
            refine wq_seq ?_
            refine wc_cond rfl (fun h47 => ?_) (fun h47 => ?_)
            · (try simp only [beq_iff_eq, bne_iff_ne, ne_eq, decide_eq_true_eq, decide_eq_false_iff_not, beq_eq_false_iff_ne, bne_eq_false_iff_eq, Bool.not_eq_true', Bool.not_eq_false', Bool.not_eq_eq_eq_not, Bool.not_true, Bool.not_false, gt_iff_lt, ge_iff_le, Int.not_lt, Int.not_le] at h47)
              
              refine wc_skip ?_
              refine wq_seq ?_
              refine wc_block ?_
              have hdg : isDig l k = true := by unfold isDig; rw [decide_eq_true_eq]; omega
              refine wc_region ?_
              refine wl_val (r_move rfl) (ltn rfl) ?_
              refine wl_val (r_as (r_add rfl rfl (by omega)) (show Value.int .i64 ((k : Int) + 1) = .int .i64 ((k + 1 : Nat) : Int) by rw [Int.natCast_add]; rfl)) (ltn rfl) ?_
              refine wl_val (r_assign rfl) (ltn rfl) ?_
              refine wl_nil ?_
              refine wq_block_normal ?_
              refine wq_round (_) (Sub.cons rfl (Sub.nil _)) (Sub.cons rfl (Sub.cons rfl (Sub.cons rfl (Sub.cons rfl (Sub.cons rfl (Sub.cons rfl (Sub.cons rfl (Sub.cons rfl (Sub.cons rfl (Sub.cons rfl (Sub.nil _))))))))))) (by (try dsimp only); exact ⟨⟨by omega, by omega, by rw [← hkn, digN_step hdg]; omega⟩, HL1.f2.f2⟩) ?_
              · (try dsimp only); omega
            · (try simp only [beq_iff_eq, bne_iff_ne, ne_eq, decide_eq_true_eq, decide_eq_false_iff_not, beq_eq_false_iff_ne, bne_eq_false_iff_eq, Bool.not_eq_true', Bool.not_eq_false', Bool.not_eq_eq_eq_not, Bool.not_true, Bool.not_false, gt_iff_lt, ge_iff_le, Int.not_lt, Int.not_le] at h47)
              
              refine wc_exit ?_
              refine wq_then_exit ?_
              have hdz : isDig l k = false := by unfold isDig; rw [decide_eq_false_iff_not]; omega
              have hkd1 : k = i + digN l i := by rw [digN_stop hdz] at hkn; omega
              refine wq_then_exit ?_
              refine wq_block_hit ?_
              refine wq_join (_) (Sub.cons rfl (Sub.nil _)) (Sub.cons rfl (Sub.cons rfl (Sub.cons rfl (Sub.cons rfl (Sub.cons rfl (Sub.cons rfl (Sub.cons rfl (Sub.cons rfl (Sub.cons rfl (Sub.cons rfl (Sub.nil _))))))))))) (by (try dsimp only); exact ⟨hkd1, HL1.f2.f2⟩)
          · (try simp only [beq_iff_eq, bne_iff_ne, ne_eq, decide_eq_true_eq, decide_eq_false_iff_not, beq_eq_false_iff_ne, bne_eq_false_iff_eq, Bool.not_eq_true', Bool.not_eq_false', Bool.not_eq_eq_eq_not, Bool.not_true, Bool.not_false, gt_iff_lt, ge_iff_le, Int.not_lt, Int.not_le] at h46)
            refine wl_no rfl rfl rfl (ltn rfl) ?_
            refine wl_no rfl rfl rfl (ltn rfl) ?_
            refine wl_no rfl rfl rfl (ltn rfl) ?_
            refine wl_no rfl rfl rfl (ltn rfl) ?_
            refine wl_no rfl rfl rfl (ltn rfl) ?_
            refine wl_val (r_pick_f rfl rfl) (ltn rfl) ?_
            refine wl_nil ?_
            refine wq_seq ?_
            refine wc_cond_f rfl ?_
            refine wc_exit ?_
            refine wq_then_exit ?_
            have hdz : isDig l k = false := by unfold isDig; rw [decide_eq_false_iff_not]; omega
            have hkd1 : k = i + digN l i := by rw [digN_stop hdz] at hkn; omega
            refine wq_then_exit ?_
            refine wq_block_hit ?_
            refine wq_join (_) (Sub.cons rfl (Sub.nil _)) (Sub.cons rfl (Sub.cons rfl (Sub.cons rfl (Sub.cons rfl (Sub.cons rfl (Sub.cons rfl (Sub.cons rfl (Sub.cons rfl (Sub.cons rfl (Sub.cons rfl (Sub.nil _))))))))))) (by (try dsimp only); exact ⟨hkd1, HL1.f2.f2⟩)
        · (try simp only [beq_iff_eq, bne_iff_ne, ne_eq, decide_eq_true_eq, decide_eq_false_iff_not, beq_eq_false_iff_ne, bne_eq_false_iff_eq, Bool.not_eq_true', Bool.not_eq_false', Bool.not_eq_eq_eq_not, Bool.not_true, Bool.not_false, gt_iff_lt, ge_iff_le, Int.not_lt, Int.not_le] at h45)
          refine wl_no rfl rfl rfl (ltn rfl) ?_
          refine wl_no rfl rfl rfl (ltn rfl) ?_
          refine wl_no rfl rfl rfl (ltn rfl) ?_
          refine wl_no rfl rfl rfl (ltn rfl) ?_
          refine wl_no rfl rfl rfl (ltn rfl) ?_
          refine wl_val (r_pick_f rfl rfl) (ltn rfl) ?_
          refine wl_val (r_move rfl) (ltn rfl) ?_
          refine wl_no rfl rfl rfl (ltn rfl) ?_
          refine wl_no rfl rfl rfl (ltn rfl) ?_
          refine wl_no rfl rfl rfl (ltn rfl) ?_
          refine wl_no rfl rfl rfl (ltn rfl) ?_
          refine wl_no rfl rfl rfl (ltn rfl) ?_
          refine wl_val (r_pick_f rfl rfl) (ltn rfl) ?_
          refine wl_nil ?_
          refine wq_seq ?_
          refine wc_cond_f rfl ?_
          refine wc_exit ?_
          refine wq_then_exit ?_
          have hdz : isDig l k = false := by unfold isDig; rw [decide_eq_false_iff_not]; omega
          have hkd1 : k = i + digN l i := by rw [digN_stop hdz] at hkn; omega
          refine wq_then_exit ?_
          refine wq_block_hit ?_
          refine wq_join (_) (Sub.cons rfl (Sub.nil _)) (Sub.cons rfl (Sub.cons rfl (Sub.cons rfl (Sub.cons rfl (Sub.cons rfl (Sub.cons rfl (Sub.cons rfl (Sub.cons rfl (Sub.cons rfl (Sub.cons rfl (Sub.nil _))))))))))) (by (try dsimp only); exact ⟨hkd1, HL1.f2.f2⟩)
  · (try simp only [beq_iff_eq, bne_iff_ne, ne_eq, decide_eq_true_eq, decide_eq_false_iff_not, beq_eq_false_iff_ne, bne_eq_false_iff_eq, Bool.not_eq_true', Bool.not_eq_false', Bool.not_eq_eq_eq_not, Bool.not_true, Bool.not_false, gt_iff_lt, ge_iff_le, Int.not_lt, Int.not_le] at h1)
    
    refine wc_exit ?_
    refine wq_then_exit ?_
    refine wq_then_exit ?_
    refine wq_block_hit ?_
    refine wq_seq ?_
    refine wc_seq ?_
    refine wc_region ?_
    refine wl_val (r_move rfl) (ltn rfl) ?_
    refine wl_val (r_assign rfl) (ltn rfl) ?_
    refine wl_nil ?_
    refine wq_seq ?_
    refine wc_ret ?_
    refine wq_end1 (.inl rfl) Try.results24 rfl ?_
    rw [wordsAt_end (by omega), List.append_nil] at hws
    rw [← hws]
    exact HL.f2.right
end
end Go.Proofs.Ytgoopiakpbcgoaa
