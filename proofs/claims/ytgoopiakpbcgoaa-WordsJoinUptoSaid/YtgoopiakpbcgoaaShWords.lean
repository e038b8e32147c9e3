/- shwords.Words, walked. -/
import Derived.Test.YtgoopiakpbcgoaaShOp
import Derived.Test.YtgoopiakpbcgoaaLitS
set_option linter.unusedSimpArgs false
set_option linter.unusedVariables false
namespace Go.Proofs.Ytgoopiakpbcgoaa
open Go.RowKit Go.Lib
def wdE (c : Wd) : List Value := [.int .i64 c.1, .int .i64 (c.2.1 : Nat), .int .i64 (c.2.2 : Nat)]
theorem wdE_len (c : Wd) : (wdE c).length = 3 := rfl
theorem wrow_one {w0 w : World} {F : HP} {v : Value} {cs : List Wd} {c : Wd} (H : Holds w0 w (Row 27 3 v (cs.length + 1) (cs.flatMap wdE ++ wdE c) • F)) : Holds w0 w (Row 27 3 v (cs ++ [c]).length ((cs ++ [c]).flatMap wdE) • F) := by
  simpa using H
theorem class_white {r : Int} (h : classS r = 1) : blankS r = true := by
  unfold classS at h
  by_cases hb : blankS r = true
  · exact hb
  · rw [if_neg hb] at h; split at h <;> omega
theorem white_class {r : Int} (h : blankS r = true) : classS r = 1 := by unfold classS; rw [if_pos h]
abbrev stL (l : List Int) : Nat := (statesS l).length
theorem peS_mono {l : List Int} {i k : Nat} (h : endsS l k = false) (e : peS l k = peS l i) : peS l (k + 1) = peS l i := by rw [← pe_step h]; exact e
set_option maxHeartbeats 4000000
section
variable {w0 w : World} {F : HP} {v u : Value} {l : List Int}
theorem sh_words_ret (H : Holds w0 w F) (hv : FRdI w0 F .i32 v l) (hl : Rn32 l) (hL : l.length ≤ 1073741824) : Ret Try.prog 9 #[v] w fun v' w' => Holds w0 w' (Row 27 3 v' (wordsS l).length ((wordsS l).flatMap wdE) • F) := by
  have hsl := statesS_len l
  refine ret_enter Try.func9 rfl Try.ntmps9 (Nat.le_of_ble_eq_true rfl) ?_
  dsimp only [slots0, Nat.reduceAdd]
  refine wc_seq ?_
  refine wc_region ?_
  refine wl_val (r_assign rfl) (ltn rfl) ?_
  refine wl_nil ?_
  refine wq_seq ?_
  refine wc_seq ?_
  refine wc_region ?_
  refine wl_val (r_assign rfl) (ltn rfl) ?_
  refine wl_nil ?_
  refine wq_seq ?_
  refine wc_seq ?_
  refine wc_region ?_
  refine wl_val (r_move rfl) (ltn rfl) ?_
  refine wl_eff (e_call (r_call rfl Try.func26 rfl rfl) (sh_states_ret H (fun W HW => hv _ (HW)) (by assumption) (by omega))) (ltn rfl) ?_
  rintro u1 w1 H1
  refine wl_val (r_assign rfl) (ltn rfl) ?_
  refine wl_nil ?_
  refine wq_seq ?_
  refine wc_seq ?_
  refine wc_seq ?_
  refine wc_region ?_
  refine wl_val (r_assign rfl) (ltn rfl) ?_
  refine wl_nil ?_
  refine wq_seq ?_
  refine wc_block ?_
  refine wc_loop [(0, _), (4, _)] (fun (⟨i, u⟩ : Nat × Value) => [(5, .int .i64 (i : Int)), (3, u)]) (fun (⟨i, u⟩ : Nat × Value) W => ∃ ws : List Wd, (i ≤ l.length ∧ ws.length ≤ i ∧ ws ++ wordsAt l i = wordsS l) ∧ Holds w0 W (Row 27 3 u ws.length (ws.flatMap wdE) • RowI 3 .i64 u1 (statesS l) • F)) (fun (⟨i, u⟩ : Nat × Value) => l.length - i) ((0, .slice none 0 0)) (Sub.cons rfl (Sub.cons rfl (Sub.nil _))) (Sub.cons rfl (Sub.cons rfl (Sub.nil _))) ⟨[], ⟨by omega, by simp, rfl⟩, (H1).row_nil none⟩ ?_
  rintro ⟨i, u⟩ w2 ⟨ws, ⟨hi, hwl, hws⟩, HL⟩
  dsimp only [List.cons_append, List.nil_append]
  refine wc_seq ?_
  refine wc_seq ?_
  refine wc_region ?_
  refine wl_val (r_move rfl) (ltn rfl) ?_
  refine wl_val (r_move rfl) (ltn rfl) ?_
  refine wl_val (r_lenR (hv _ (HL.right.right)) Try.underlying22 rfl) (ltn rfl) ?_
  refine wl_val (r_lss rfl rfl) (ltn rfl) ?_
  refine wl_nil ?_
  refine wq_seq ?_
  refine wc_cond rfl (fun h1 => ?_) (fun h1 => ?_)
  · (try simp only [beq_iff_eq, bne_iff_ne, ne_eq, decide_eq_true_eq, decide_eq_false_iff_not, beq_eq_false_iff_ne, bne_eq_false_iff_eq, Bool.not_eq_true', Bool.not_eq_false', Bool.not_eq_eq_eq_not, Bool.not_true, Bool.not_false, gt_iff_lt, ge_iff_le, Int.not_lt, Int.not_le] at h1)
    
    refine wc_skip ?_
    refine wq_seq ?_
    refine wc_block ?_
    refine wc_seq ?_
    refine wc_seq ?_
    have hil : i < l.length := by omega
    have hdn := digN_le l i
    have hds : digS l i ≤ digN l i := by unfold digS; split <;> omega
    refine wc_region ?_
    refine wl_val (r_move rfl) (ltn rfl) ?_
    refine wl_val (r_move rfl) (ltn rfl) ?_
    obtain ⟨bv, ov, cv, ev⟩ := RdI.posV (hv _ (HL.right.right)) (by omega)
    cases ev
    refine wl_val (r_index Try.underlying22 Try.sizeOf21 rfl rfl (by omega)) (ltn rfl) ?_
    refine wl_val (r_load (plain_of Try.underlying21 rfl) rfl (by first | exact RdI.at1n (hv _ (HL.right.right)) (by omega) | exact RdI.at0 (hv _ (HL.right.right)) (by omega) | exact RdI.at1 (hv _ (HL.right.right)) (by omega))) (ltn rfl) ?_
    refine wl_eff (e_call (r_call rfl Try.func27 rfl rfl) (class_ret HL (runs_at hl (by omega)))) (ltn rfl) ?_
    rintro _ w3 ⟨rfl, H3⟩
    refine wl_val (r_eql rfl rfl) (ltn rfl) ?_
    refine wl_split rfl (ltn rfl) (fun h2 => ?_) (fun h2 => ?_)
    · (try simp only [beq_iff_eq, bne_iff_ne, ne_eq, decide_eq_true_eq, decide_eq_false_iff_not, beq_eq_false_iff_ne, bne_eq_false_iff_eq, Bool.not_eq_true', Bool.not_eq_false', Bool.not_eq_eq_eq_not, Bool.not_true, Bool.not_false, gt_iff_lt, ge_iff_le, Int.not_lt, Int.not_le] at h2)
      refine wl_yes rfl rfl ?_
      refine wl_val (r_move rfl) (ltn rfl) ?_
      refine wl_yes rfl rfl ?_
      refine wl_val (r_move rfl) (ltn rfl) ?_
      refine wl_yes rfl rfl ?_
      obtain ⟨bu1, ou1, cu1, eu1⟩ := RdI.posV ((H3.f2).row_rd) (by omega)
      cases eu1
      refine wl_val (r_index Try.underlying47 Try.sizeOf3 rfl rfl (by omega)) (ltn rfl) ?_
      refine wl_yes rfl rfl ?_
      refine wl_val (r_as (r_load (plain_of Try.underlying3 rfl) rfl (by first | exact RdI.at1n ((H3.f2).row_rd) (by omega) | exact RdI.at0 ((H3.f2).row_rd) (by omega) | exact RdI.at1 ((H3.f2).row_rd) (by omega))) (show Value.int .i64 ((statesS l).getD i 0) = .int .i64 (quoS l i) by rw [statesS_at hil])) (ltn rfl) ?_
      refine wl_yes rfl rfl ?_
      refine wl_val (r_eql rfl rfl) (ltn rfl) ?_
      refine wl_val (r_pick_t rfl rfl) (ltn rfl) ?_
      refine wl_nil ?_
      refine wq_seq ?_
      refine wc_cond rfl (fun h3 => ?_) (fun h3 => ?_)
      · (try simp only [beq_iff_eq, bne_iff_ne, ne_eq, decide_eq_true_eq, decide_eq_false_iff_not, beq_eq_false_iff_ne, bne_eq_false_iff_eq, Bool.not_eq_true', Bool.not_eq_false', Bool.not_eq_eq_eq_not, Bool.not_true, Bool.not_false, gt_iff_lt, ge_iff_le, Int.not_lt, Int.not_le] at h3)
        
        refine wc_seq ?_
        have hsk : skipS l i = true := by unfold skipS; rw [decide_eq_true_eq]; exact ⟨class_white (by omega), by omega⟩
        refine wc_region ?_
        refine wl_val (r_move rfl) (ltn rfl) ?_
        refine wl_val (r_as (r_add rfl rfl (by omega)) (show Value.int .i64 ((i : Int) + 1) = .int .i64 ((i + 1 : Nat) : Int) by rw [Int.natCast_add]; rfl)) (ltn rfl) ?_
        refine wl_val (r_assign rfl) (ltn rfl) ?_
        refine wl_nil ?_
        refine wq_seq ?_
        refine wc_exit ?_
        refine wq_then_exit ?_
        refine wq_block_hit ?_
        refine wq_round (_, _) (Sub.cons rfl (Sub.cons rfl (Sub.nil _))) (Sub.cons rfl (Sub.cons rfl (Sub.nil _))) (by (try dsimp only); exact by first | exact ⟨ws, ⟨by omega, by omega, by rw [← wordsAt_skip hil hsk]; exact hws⟩, H3.f2.f2⟩ | exact ⟨ws ++ [(1, i, i + digS l i + opS l (i + digS l i))], ⟨by omega, by simp; omega, by rw [← hws, wordsAt_op hil hsn hop, List.append_assoc]; rfl⟩, wrow_one H3.f2.f2⟩ | exact ⟨ws ++ [(0, i, k)], ⟨by omega, by simp; omega, by rw [← hws, wordsAt_plain hil hsn hno, ← hpk, pe_stop hee, List.append_assoc]; rfl⟩, wrow_one H3.f2.f2⟩) ?_
        · (try dsimp only); omega
      · (try simp only [beq_iff_eq, bne_iff_ne, ne_eq, decide_eq_true_eq, decide_eq_false_iff_not, beq_eq_false_iff_ne, bne_eq_false_iff_eq, Bool.not_eq_true', Bool.not_eq_false', Bool.not_eq_eq_eq_not, Bool.not_true, Bool.not_false, gt_iff_lt, ge_iff_le, Int.not_lt, Int.not_le] at h3)
        
        refine wc_skip ?_
        refine wq_seq ?_
        refine wc_seq ?_
        have hsn : skipS l i = false := by unfold skipS; rw [decide_eq_false_iff_not]; rintro ⟨qa, qb⟩; have qc := white_class qa; omega
        refine wc_region ?_
        refine wl_val (r_move rfl) (ltn rfl) ?_
        refine wl_val (r_assign rfl) (ltn rfl) ?_
        refine wl_nil ?_
        refine wq_seq ?_
        refine wc_seq ?_
        refine wc_region ?_
        refine wl_val (r_move rfl) (ltn rfl) ?_
        refine wl_val (r_move rfl) (ltn rfl) ?_
        refine wl_val (r_move rfl) (ltn rfl) ?_
        refine wl_eff (e_call (r_call rfl Try.func28 rfl rfl) (digits_ret H3 (fun W HW => hv _ (HW.right.right)) (fun W HW => (HW.f2).row_rd) (by omega) (by omega))) (ltn rfl) ?_
        rintro _ w4 ⟨rfl, H4⟩
        refine wl_val (r_assign rfl) (ltn rfl) ?_
        refine wl_nil ?_
        refine wq_seq ?_
        refine wc_seq ?_
        refine wc_seq ?_
        refine wc_region ?_
        refine wl_val (r_move rfl) (ltn rfl) ?_
        refine wl_val (r_move rfl) (ltn rfl) ?_
        refine wl_val (r_as (r_add rfl rfl (by omega)) (show Value.int .i64 ((i : Int) + (digS l i : Nat)) = .int .i64 ((i + digS l i : Nat) : Int) by rw [Int.natCast_add])) (ltn rfl) ?_
        refine wl_val (r_move rfl) (ltn rfl) ?_
        refine wl_val (r_len Try.underlying22 rfl) (ltn rfl) ?_
        refine wl_val (r_lss rfl rfl) (ltn rfl) ?_
        refine wl_split rfl (ltn rfl) (fun h4 => ?_) (fun h4 => ?_)
        · (try simp only [beq_iff_eq, bne_iff_ne, ne_eq, decide_eq_true_eq, decide_eq_false_iff_not, beq_eq_false_iff_ne, bne_eq_false_iff_eq, Bool.not_eq_true', Bool.not_eq_false', Bool.not_eq_eq_eq_not, Bool.not_true, Bool.not_false, gt_iff_lt, ge_iff_le, Int.not_lt, Int.not_le] at h4)
          refine wl_yes rfl rfl ?_
          refine wl_val (r_move rfl) (ltn rfl) ?_
          refine wl_yes rfl rfl ?_
          refine wl_val (r_move rfl) (ltn rfl) ?_
          refine wl_yes rfl rfl ?_
          refine wl_val (r_move rfl) (ltn rfl) ?_
          refine wl_yes rfl rfl ?_
          refine wl_val (r_as (r_add rfl rfl (by omega)) (show Value.int .i64 ((i : Int) + (digS l i : Nat)) = .int .i64 ((i + digS l i : Nat) : Int) by rw [Int.natCast_add])) (ltn rfl) ?_
          refine wl_yes rfl rfl ?_
          refine wl_val (r_index Try.underlying47 Try.sizeOf3 rfl rfl (by omega)) (ltn rfl) ?_
          refine wl_yes rfl rfl ?_
          refine wl_val (r_as (r_load (plain_of Try.underlying3 rfl) rfl (by first | exact RdI.at1n ((H4.f2).row_rd) (by omega) | exact RdI.at0 ((H4.f2).row_rd) (by omega) | exact RdI.at1 ((H4.f2).row_rd) (by omega))) (show Value.int .i64 ((statesS l).getD (i + digS l i) 0) = .int .i64 (quoS l (i + digS l i)) by rw [statesS_at (by omega)])) (ltn rfl) ?_
          refine wl_yes rfl rfl ?_
          refine wl_val (r_eql rfl rfl) (ltn rfl) ?_
          refine wl_val (r_pick_t rfl rfl) (ltn rfl) ?_
          refine wl_split rfl (ltn rfl) (fun h5 => ?_) (fun h5 => ?_)
          · (try simp only [beq_iff_eq, bne_iff_ne, ne_eq, decide_eq_true_eq, decide_eq_false_iff_not, beq_eq_false_iff_ne, bne_eq_false_iff_eq, Bool.not_eq_true', Bool.not_eq_false', Bool.not_eq_eq_eq_not, Bool.not_true, Bool.not_false, gt_iff_lt, ge_iff_le, Int.not_lt, Int.not_le] at h5)
            refine wl_yes rfl rfl ?_
            refine wl_val (r_move rfl) (ltn rfl) ?_
            refine wl_yes rfl rfl ?_
            refine wl_val (r_move rfl) (ltn rfl) ?_
            refine wl_yes rfl rfl ?_
            refine wl_val (r_move rfl) (ltn rfl) ?_
            refine wl_yes rfl rfl ?_
            refine wl_val (r_as (r_add rfl rfl (by omega)) (show Value.int .i64 ((i : Int) + (digS l i : Nat)) = .int .i64 ((i + digS l i : Nat) : Int) by rw [Int.natCast_add])) (ltn rfl) ?_
            refine wl_yes rfl rfl ?_
            refine wl_val (r_index Try.underlying22 Try.sizeOf21 rfl rfl (by omega)) (ltn rfl) ?_
            refine wl_yes rfl rfl ?_
            refine wl_val (r_load (plain_of Try.underlying21 rfl) rfl (by first | exact RdI.at1n (hv _ (H4.right.right)) (by omega) | exact RdI.at0 (hv _ (H4.right.right)) (by omega) | exact RdI.at1 (hv _ (H4.right.right)) (by omega))) (ltn rfl) ?_
            refine wl_yes rfl rfl ?_
            refine wl_eff (e_call (r_call rfl Try.func29 rfl rfl) (oper_ret H4 (runs_at hl (by omega)))) (ltn rfl) ?_
            rintro _ w5 ⟨rfl, H5⟩
            refine wl_val (r_pick_t rfl rfl) (ltn rfl) ?_
            refine wl_nil ?_
            refine wq_seq ?_
            refine wc_cond rfl (fun h6 => ?_) (fun h6 => ?_)
            · (try simp only [beq_iff_eq, bne_iff_ne, ne_eq, decide_eq_true_eq, decide_eq_false_iff_not, beq_eq_false_iff_ne, bne_eq_false_iff_eq, Bool.not_eq_true', Bool.not_eq_false', Bool.not_eq_eq_eq_not, Bool.not_true, Bool.not_false, gt_iff_lt, ge_iff_le, Int.not_lt, Int.not_le] at h6)
              
              refine wc_seq ?_
              have hop : isOp l i (digS l i) = true := by unfold isOp; rw [decide_eq_true_eq]; exact ⟨by omega, by omega, by assumption⟩
              have hol := opS_le (l := l) (i := i + digS l i) (by omega)
              have hopp := opS_pos l (i + digS l i)
              refine wc_region ?_
              refine wl_val (r_move rfl) (ltn rfl) ?_
              refine wl_val (r_move rfl) (ltn rfl) ?_
              refine wl_val (r_move rfl) (ltn rfl) ?_
              refine wl_val (r_move rfl) (ltn rfl) ?_
              refine wl_val (r_move rfl) (ltn rfl) ?_
              refine wl_val (r_move rfl) (ltn rfl) ?_
              refine wl_val (r_as (r_add rfl rfl (by omega)) (show Value.int .i64 ((i : Int) + (digS l i : Nat)) = .int .i64 ((i + digS l i : Nat) : Int) by rw [Int.natCast_add])) (ltn rfl) ?_
              refine wl_eff (e_call (r_call rfl Try.func30 rfl rfl) (operator_ret H5 (fun W HW => hv _ (HW.right.right)) (fun W HW => (HW.f2).row_rd) (by omega) (by omega))) (ltn rfl) ?_
              rintro _ w6 ⟨rfl, H6⟩
              refine wl_val (r_add rfl rfl (by omega)) (ltn rfl) ?_
              refine wl_val (r_as (r_add rfl rfl (by omega)) (show Value.int .i64 ((i : Int) + ((digS l i : Nat) + (opS l (i + digS l i) : Nat))) = .int .i64 ((i + digS l i + opS l (i + digS l i) : Nat) : Int) by rw [Int.natCast_add, Int.natCast_add, Int.add_assoc])) (ltn rfl) ?_
              refine wl_val (r_assign rfl) (ltn rfl) ?_
              refine wl_nil ?_
              refine wq_seq ?_
              refine wc_seq ?_
              refine wc_region ?_
              refine wl_val (r_move rfl) (ltn rfl) ?_
              refine wl_val (r_move rfl) (ltn rfl) ?_
              refine wl_val (r_move rfl) (ltn rfl) ?_
              refine wl_val (r_build (pl := #[(0, 1), (1, 1), (2, 1)]) (_) Try.underlying27 Try.zeroValue27 (fun w => by kernel_rfl) rfl (rfl)) (ltn rfl) ?_
              refine wl_eff (e_lit_one H6 Try.underlying24 Try.sizeOf27 Try.zeroValue27 rfl rfl rfl (by decide) (by decide)) (ltn rfl) ?_
              rintro l7 w7 H7
              refine wl_eff (e_append H7.f2 Try.underlying24 (show (Try.prog.info? 27).map (fun i => (i.zero, i.size, i.bytes)) = some (some (.agg #[.int .i64 0, .int .i64 0, .int .i64 0]), 3, 24) by kernel_rfl) rfl rfl rfl ((H7).row_rd) (ones_cons (by first | rfl | assumption) (ones_cons (by first | rfl | assumption) (ones_cons (by first | rfl | assumption) ones_nil))) (by omega) (by omega)) (ltn rfl) ?_
              rintro l8 w8 H8
              have Hd9 := H8.f2.right
              refine wl_val (r_assign rfl) (ltn rfl) ?_
              refine wl_nil ?_
              refine wq_seq ?_
              refine wc_exit ?_
              refine wq_then_exit ?_
              refine wq_block_hit ?_
              refine wq_round (_, _) (Sub.cons rfl (Sub.cons rfl (Sub.nil _))) (Sub.cons rfl (Sub.cons rfl (Sub.nil _))) (by (try dsimp only); exact by first | exact ⟨ws, ⟨by omega, by omega, by rw [← wordsAt_skip hil hsk]; exact hws⟩, Hd9.f2.f2⟩ | exact ⟨ws ++ [(1, i, i + digS l i + opS l (i + digS l i))], ⟨by omega, by simp; omega, by rw [← hws, wordsAt_op hil hsn hop, List.append_assoc]; rfl⟩, wrow_one Hd9.f2.f2⟩ | exact ⟨ws ++ [(0, i, k)], ⟨by omega, by simp; omega, by rw [← hws, wordsAt_plain hil hsn hno, ← hpk, pe_stop hee, List.append_assoc]; rfl⟩, wrow_one Hd9.f2.f2⟩) ?_
              · (try dsimp only); omega
            · (try simp only [beq_iff_eq, bne_iff_ne, ne_eq, decide_eq_true_eq, decide_eq_false_iff_not, beq_eq_false_iff_ne, bne_eq_false_iff_eq, Bool.not_eq_true', Bool.not_eq_false', Bool.not_eq_eq_eq_not, Bool.not_true, Bool.not_false, gt_iff_lt, ge_iff_le, Int.not_lt, Int.not_le] at h6)
              
              refine wc_skip ?_
              refine wq_seq ?_
              refine wc_seq ?_
              refine wc_block ?_
              have hno : isOp l i (digS l i) = false := by unfold isOp; rw [decide_eq_false_iff_not]; rintro ⟨qa, qb, qc⟩; first | omega | simp_all
              refine wc_loop [(0, _), (3, _), (4, _), (6, _), (21, _), (22, _), (23, _), (24, _), (25, _), (41, _), (42, _), (43, _), (44, _), (45, _), (46, _), (47, _), (50, _), (51, _), (52, _), (53, _), (54, _), (55, _), (56, _)] (fun (k : Nat) => [(5, .int .i64 (k : Int))]) (fun (k : Nat) W => (i ≤ k ∧ k ≤ l.length ∧ peS l k = peS l i) ∧ Holds w0 W (Row 27 3 u ws.length (ws.flatMap wdE) • RowI 3 .i64 (.slice (some ⟨bu1, ou1, none⟩) (stL l) cu1) (statesS l) • F)) (fun (k : Nat) => l.length - k) (i) (Sub.cons rfl (Sub.cons rfl (Sub.cons rfl (Sub.cons rfl (Sub.cons rfl (Sub.cons rfl (Sub.cons rfl (Sub.cons rfl (Sub.cons rfl (Sub.cons rfl (Sub.cons rfl (Sub.cons rfl (Sub.cons rfl (Sub.cons rfl (Sub.cons rfl (Sub.cons rfl (Sub.cons rfl (Sub.cons rfl (Sub.cons rfl (Sub.cons rfl (Sub.cons rfl (Sub.cons rfl (Sub.cons rfl (Sub.nil _)))))))))))))))))))))))) (Sub.cons rfl (Sub.nil _)) ⟨⟨by omega, by omega, rfl⟩, H5.f2.f2⟩ ?_
              rintro k w10 ⟨⟨hk, hkl, hpk⟩, HL1⟩
              dsimp only [List.cons_append, List.nil_append]
              refine wc_seq ?_
              refine wc_seq ?_
              refine wc_region ?_
              refine wl_val (r_move rfl) (ltn rfl) ?_
              refine wl_val (r_move rfl) (ltn rfl) ?_
              refine wl_val (r_len Try.underlying22 rfl) (ltn rfl) ?_
              refine wl_val (r_lss rfl rfl) (ltn rfl) ?_
              refine wl_split rfl (ltn rfl) (fun h7 => ?_) (fun h7 => ?_)
              · (try simp only [beq_iff_eq, bne_iff_ne, ne_eq, decide_eq_true_eq, decide_eq_false_iff_not, beq_eq_false_iff_ne, bne_eq_false_iff_eq, Bool.not_eq_true', Bool.not_eq_false', Bool.not_eq_eq_eq_not, Bool.not_true, Bool.not_false, gt_iff_lt, ge_iff_le, Int.not_lt, Int.not_le] at h7)
                refine wl_yes rfl rfl ?_
                refine wl_val (r_move rfl) (ltn rfl) ?_
                refine wl_yes rfl rfl ?_
                refine wl_val (r_move rfl) (ltn rfl) ?_
                refine wl_yes rfl rfl ?_
                obtain ⟨bu1, ou1, cu1, eu1⟩ := RdI.posV ((HL1.f2).row_rd) (by omega)
                cases eu1
                refine wl_val (r_index Try.underlying47 Try.sizeOf3 rfl rfl (by omega)) (ltn rfl) ?_
                refine wl_yes rfl rfl ?_
                refine wl_val (r_as (r_load (plain_of Try.underlying3 rfl) rfl (by first | exact RdI.at1n ((HL1.f2).row_rd) (by omega) | exact RdI.at0 ((HL1.f2).row_rd) (by omega) | exact RdI.at1 ((HL1.f2).row_rd) (by omega))) (show Value.int .i64 ((statesS l).getD k 0) = .int .i64 (quoS l k) by rw [statesS_at (by omega)])) (ltn rfl) ?_
                refine wl_yes rfl rfl ?_
                refine wl_val (r_eql rfl rfl) (ltn rfl) ?_
                refine wl_yes rfl rfl ?_
                refine wl_split rfl (ltn rfl) (fun h8 => ?_) (fun h8 => ?_)
                · (try simp only [beq_iff_eq, bne_iff_ne, ne_eq, decide_eq_true_eq, decide_eq_false_iff_not, beq_eq_false_iff_ne, bne_eq_false_iff_eq, Bool.not_eq_true', Bool.not_eq_false', Bool.not_eq_eq_eq_not, Bool.not_true, Bool.not_false, gt_iff_lt, ge_iff_le, Int.not_lt, Int.not_le] at h8)
                  refine wl_yes rfl rfl ?_
                  refine wl_val (r_move rfl) (ltn rfl) ?_
                  refine wl_yes rfl rfl ?_
                  refine wl_val (r_move rfl) (ltn rfl) ?_
                  refine wl_yes rfl rfl ?_
                  refine wl_val (r_index Try.underlying22 Try.sizeOf21 rfl rfl (by omega)) (ltn rfl) ?_
                  refine wl_yes rfl rfl ?_
                  refine wl_val (r_load (plain_of Try.underlying21 rfl) rfl (by first | exact RdI.at1n (hv _ (HL1.right.right)) (by omega) | exact RdI.at0 (hv _ (HL1.right.right)) (by omega) | exact RdI.at1 (hv _ (HL1.right.right)) (by omega))) (ltn rfl) ?_
                  refine wl_yes rfl rfl ?_
                  refine wl_eff (e_call (r_call rfl Try.func27 rfl rfl) (class_ret HL1 (runs_at hl (by omega)))) (ltn rfl) ?_
                  rintro _ w11 ⟨rfl, H11⟩
                  refine wl_yes rfl rfl ?_
                  refine wl_val (r_neq rfl rfl) (ltn rfl) ?_
                  refine wl_yes rfl rfl ?_
                  refine wl_val (r_pick_t rfl rfl) (ltn rfl) ?_
                  refine wl_yes rfl rfl ?_
                  refine wl_val (r_not rfl) (ltn rfl) ?_
                  refine wl_val (r_pick_t rfl rfl) (ltn rfl) ?_
                  refine wl_nil ?_
                  refine wq_seq ?_
                  refine wc_cond rfl (fun h9 => ?_) (fun h9 => ?_)
                  · (try simp only [beq_iff_eq, bne_iff_ne, ne_eq, decide_eq_true_eq, decide_eq_false_iff_not, beq_eq_false_iff_ne, bne_eq_false_iff_eq, Bool.not_eq_true', Bool.not_eq_false', Bool.not_eq_eq_eq_not, Bool.not_true, Bool.not_false, gt_iff_lt, ge_iff_le, Int.not_lt, Int.not_le] at h9)
                    
                    refine wc_skip ?_
                    refine wq_seq ?_
                    refine wc_block ?_
                    have hef : endsS l k = false := by unfold endsS; rw [decide_eq_false_iff_not]; rintro (q | ⟨qa, qb⟩) <;> omega
                    refine wc_region ?_
                    refine wl_val (r_move rfl) (ltn rfl) ?_
                    refine wl_val (r_as (r_add rfl rfl (by omega)) (show Value.int .i64 ((k : Int) + 1) = .int .i64 ((k + 1 : Nat) : Int) by rw [Int.natCast_add]; rfl)) (ltn rfl) ?_
                    refine wl_val (r_assign rfl) (ltn rfl) ?_
                    refine wl_nil ?_
                    refine wq_block_normal ?_
                    refine wq_round (_) (Sub.cons rfl (Sub.nil _)) (Sub.cons rfl (Sub.cons rfl (Sub.cons rfl (Sub.cons rfl (Sub.cons rfl (Sub.cons rfl (Sub.cons rfl (Sub.cons rfl (Sub.cons rfl (Sub.cons rfl (Sub.cons rfl (Sub.cons rfl (Sub.cons rfl (Sub.cons rfl (Sub.cons rfl (Sub.cons rfl (Sub.cons rfl (Sub.cons rfl (Sub.cons rfl (Sub.cons rfl (Sub.cons rfl (Sub.cons rfl (Sub.cons rfl (Sub.nil _)))))))))))))))))))))))) (by (try dsimp only); exact ⟨⟨by omega, by omega, peS_mono hef hpk⟩, H11.f2.f2⟩) ?_
                    · (try dsimp only); omega
                  · (try simp only [beq_iff_eq, bne_iff_ne, ne_eq, decide_eq_true_eq, decide_eq_false_iff_not, beq_eq_false_iff_ne, bne_eq_false_iff_eq, Bool.not_eq_true', Bool.not_eq_false', Bool.not_eq_eq_eq_not, Bool.not_true, Bool.not_false, gt_iff_lt, ge_iff_le, Int.not_lt, Int.not_le] at h9)
                    have hcz : classS (l.getD k 0) ≠ 0 ∧ quoS l k = 0 := by first | exact ⟨by simpa using h9, by omega⟩ | (exfalso; simp at h9)
                    refine wc_exit ?_
                    refine wq_then_exit ?_
                    refine wq_then_exit ?_
                    refine wq_block_hit ?_
                    refine wq_seq ?_
                    have hee : endsS l k = true := by unfold endsS; rw [decide_eq_true_eq]; omega
                    have hplt := peS_lt (plain_go hil hsn hno)
                    rw [← hpk, pe_stop hee] at hplt
                    refine wc_region ?_
                    refine wl_val (r_move rfl) (ltn rfl) ?_
                    refine wl_val (r_move rfl) (ltn rfl) ?_
                    refine wl_val (r_move rfl) (ltn rfl) ?_
                    refine wl_val (r_build (pl := #[(0, 1), (1, 1), (2, 1)]) (_) Try.underlying27 Try.zeroValue27 (fun w => by kernel_rfl) rfl (rfl)) (ltn rfl) ?_
                    refine wl_eff (e_lit_one H11 Try.underlying24 Try.sizeOf27 Try.zeroValue27 rfl rfl rfl (by decide) (by decide)) (ltn rfl) ?_
                    rintro l12 w12 H12
                    refine wl_eff (e_append H12.f2 Try.underlying24 (show (Try.prog.info? 27).map (fun i => (i.zero, i.size, i.bytes)) = some (some (.agg #[.int .i64 0, .int .i64 0, .int .i64 0]), 3, 24) by kernel_rfl) rfl rfl rfl ((H12).row_rd) (ones_cons (by first | rfl | assumption) (ones_cons (by first | rfl | assumption) (ones_cons (by first | rfl | assumption) ones_nil))) (by omega) (by omega)) (ltn rfl) ?_
                    rintro l13 w13 H13
                    have Hd14 := H13.f2.right
                    refine wl_val (r_assign rfl) (ltn rfl) ?_
                    refine wl_nil ?_
                    refine wq_block_normal ?_
                    refine wq_round (_, _) (Sub.cons rfl (Sub.cons rfl (Sub.nil _))) (Sub.cons rfl (Sub.cons rfl (Sub.nil _))) (by (try dsimp only); exact by first | exact ⟨ws, ⟨by omega, by omega, by rw [← wordsAt_skip hil hsk]; exact hws⟩, Hd14.f2.f2⟩ | exact ⟨ws ++ [(1, i, i + digS l i + opS l (i + digS l i))], ⟨by omega, by simp; omega, by rw [← hws, wordsAt_op hil hsn hop, List.append_assoc]; rfl⟩, wrow_one Hd14.f2.f2⟩ | exact ⟨ws ++ [(0, i, k)], ⟨by omega, by simp; omega, by rw [← hws, wordsAt_plain hil hsn hno, ← hpk, pe_stop hee, List.append_assoc]; rfl⟩, wrow_one Hd14.f2.f2⟩) ?_
                    · (try dsimp only); omega
                · (try simp only [beq_iff_eq, bne_iff_ne, ne_eq, decide_eq_true_eq, decide_eq_false_iff_not, beq_eq_false_iff_ne, bne_eq_false_iff_eq, Bool.not_eq_true', Bool.not_eq_false', Bool.not_eq_eq_eq_not, Bool.not_true, Bool.not_false, gt_iff_lt, ge_iff_le, Int.not_lt, Int.not_le] at h8)
                  refine wl_no rfl rfl rfl (ltn rfl) ?_
                  refine wl_no rfl rfl rfl (ltn rfl) ?_
                  refine wl_no rfl rfl rfl (ltn rfl) ?_
                  refine wl_no rfl rfl rfl (ltn rfl) ?_
                  refine wl_no rfl rfl rfl (ltn rfl) ?_
                  refine wl_no rfl rfl rfl (ltn rfl) ?_
                  refine wl_yes rfl rfl ?_
                  refine wl_val (r_pick_f rfl rfl) (ltn rfl) ?_
                  refine wl_yes rfl rfl ?_
                  refine wl_val (r_not rfl) (ltn rfl) ?_
                  refine wl_val (r_pick_t rfl rfl) (ltn rfl) ?_
                  refine wl_nil ?_
                  refine wq_seq ?_
                  refine wc_cond rfl (fun h10 => ?_) (fun h10 => ?_)
                  · (try simp only [beq_iff_eq, bne_iff_ne, ne_eq, decide_eq_true_eq, decide_eq_false_iff_not, beq_eq_false_iff_ne, bne_eq_false_iff_eq, Bool.not_eq_true', Bool.not_eq_false', Bool.not_eq_eq_eq_not, Bool.not_true, Bool.not_false, gt_iff_lt, ge_iff_le, Int.not_lt, Int.not_le] at h10)
                    
                    refine wc_skip ?_
                    refine wq_seq ?_
                    refine wc_block ?_
                    have hef : endsS l k = false := by unfold endsS; rw [decide_eq_false_iff_not]; rintro (q | ⟨qa, qb⟩) <;> omega
                    refine wc_region ?_
                    refine wl_val (r_move rfl) (ltn rfl) ?_
                    refine wl_val (r_as (r_add rfl rfl (by omega)) (show Value.int .i64 ((k : Int) + 1) = .int .i64 ((k + 1 : Nat) : Int) by rw [Int.natCast_add]; rfl)) (ltn rfl) ?_
                    refine wl_val (r_assign rfl) (ltn rfl) ?_
                    refine wl_nil ?_
                    refine wq_block_normal ?_
                    refine wq_round (_) (Sub.cons rfl (Sub.nil _)) (Sub.cons rfl (Sub.cons rfl (Sub.cons rfl (Sub.cons rfl (Sub.cons rfl (Sub.cons rfl (Sub.cons rfl (Sub.cons rfl (Sub.cons rfl (Sub.cons rfl (Sub.cons rfl (Sub.cons rfl (Sub.cons rfl (Sub.cons rfl (Sub.cons rfl (Sub.cons rfl (Sub.cons rfl (Sub.cons rfl (Sub.cons rfl (Sub.cons rfl (Sub.cons rfl (Sub.cons rfl (Sub.cons rfl (Sub.nil _)))))))))))))))))))))))) (by (try dsimp only); exact ⟨⟨by omega, by omega, peS_mono hef hpk⟩, HL1.f2.f2⟩) ?_
                    · (try dsimp only); omega
                  · (try simp only [beq_iff_eq, bne_iff_ne, ne_eq, decide_eq_true_eq, decide_eq_false_iff_not, beq_eq_false_iff_ne, bne_eq_false_iff_eq, Bool.not_eq_true', Bool.not_eq_false', Bool.not_eq_eq_eq_not, Bool.not_true, Bool.not_false, gt_iff_lt, ge_iff_le, Int.not_lt, Int.not_le] at h10)
                    have hcz : classS (l.getD k 0) ≠ 0 ∧ quoS l k = 0 := by first | exact ⟨by simpa using h10, by omega⟩ | (exfalso; simp at h10)
                    refine wc_exit ?_
                    refine wq_then_exit ?_
                    refine wq_then_exit ?_
                    refine wq_block_hit ?_
                    refine wq_seq ?_
                    have hee : endsS l k = true := by unfold endsS; rw [decide_eq_true_eq]; omega
                    have hplt := peS_lt (plain_go hil hsn hno)
                    rw [← hpk, pe_stop hee] at hplt
                    refine wc_region ?_
                    refine wl_val (r_move rfl) (ltn rfl) ?_
                    refine wl_val (r_move rfl) (ltn rfl) ?_
                    refine wl_val (r_move rfl) (ltn rfl) ?_
                    refine wl_val (r_build (pl := #[(0, 1), (1, 1), (2, 1)]) (_) Try.underlying27 Try.zeroValue27 (fun w => by kernel_rfl) rfl (rfl)) (ltn rfl) ?_
                    refine wl_eff (e_lit_one HL1 Try.underlying24 Try.sizeOf27 Try.zeroValue27 rfl rfl rfl (by decide) (by decide)) (ltn rfl) ?_
                    rintro l15 w15 H15
                    refine wl_eff (e_append H15.f2 Try.underlying24 (show (Try.prog.info? 27).map (fun i => (i.zero, i.size, i.bytes)) = some (some (.agg #[.int .i64 0, .int .i64 0, .int .i64 0]), 3, 24) by kernel_rfl) rfl rfl rfl ((H15).row_rd) (ones_cons (by first | rfl | assumption) (ones_cons (by first | rfl | assumption) (ones_cons (by first | rfl | assumption) ones_nil))) (by omega) (by omega)) (ltn rfl) ?_
                    rintro l16 w16 H16
                    have Hd17 := H16.f2.right
                    refine wl_val (r_assign rfl) (ltn rfl) ?_
                    refine wl_nil ?_
                    refine wq_block_normal ?_
                    refine wq_round (_, _) (Sub.cons rfl (Sub.cons rfl (Sub.nil _))) (Sub.cons rfl (Sub.cons rfl (Sub.nil _))) (by (try dsimp only); exact by first | exact ⟨ws, ⟨by omega, by omega, by rw [← wordsAt_skip hil hsk]; exact hws⟩, Hd17.f2.f2⟩ | exact ⟨ws ++ [(1, i, i + digS l i + opS l (i + digS l i))], ⟨by omega, by simp; omega, by rw [← hws, wordsAt_op hil hsn hop, List.append_assoc]; rfl⟩, wrow_one Hd17.f2.f2⟩ | exact ⟨ws ++ [(0, i, k)], ⟨by omega, by simp; omega, by rw [← hws, wordsAt_plain hil hsn hno, ← hpk, pe_stop hee, List.append_assoc]; rfl⟩, wrow_one Hd17.f2.f2⟩) ?_
                    · (try dsimp only); omega
              · (try simp only [beq_iff_eq, bne_iff_ne, ne_eq, decide_eq_true_eq, decide_eq_false_iff_not, beq_eq_false_iff_ne, bne_eq_false_iff_eq, Bool.not_eq_true', Bool.not_eq_false', Bool.not_eq_eq_eq_not, Bool.not_true, Bool.not_false, gt_iff_lt, ge_iff_le, Int.not_lt, Int.not_le] at h7)
                refine wl_no rfl rfl rfl (ltn rfl) ?_
                refine wl_no rfl rfl rfl (ltn rfl) ?_
                refine wl_no rfl rfl rfl (ltn rfl) ?_
                refine wl_no rfl rfl rfl (ltn rfl) ?_
                refine wl_no rfl rfl rfl (ltn rfl) ?_
                refine wl_no rfl rfl rfl (ltn rfl) ?_
                refine wl_nou rfl rfl (ltn rfl) ?_
                refine wl_nou rfl rfl (ltn rfl) ?_
                refine wl_nou rfl rfl (ltn rfl) ?_
                refine wl_nou rfl rfl (ltn rfl) ?_
                refine wl_nou rfl rfl (ltn rfl) ?_
                refine wl_nou rfl rfl (ltn rfl) ?_
                refine wl_no rfl rfl rfl (ltn rfl) ?_
                refine wl_no rfl rfl rfl (ltn rfl) ?_
                refine wl_val (r_pick_f rfl rfl) (ltn rfl) ?_
                refine wl_nil ?_
                refine wq_seq ?_
                refine wc_cond_f rfl ?_
                refine wc_exit ?_
                refine wq_then_exit ?_
                refine wq_then_exit ?_
                refine wq_block_hit ?_
                refine wq_seq ?_
                have hee : endsS l k = true := by unfold endsS; rw [decide_eq_true_eq]; omega
                have hplt := peS_lt (plain_go hil hsn hno)
                rw [← hpk, pe_stop hee] at hplt
                refine wc_region ?_
                refine wl_val (r_move rfl) (ltn rfl) ?_
                refine wl_val (r_move rfl) (ltn rfl) ?_
                refine wl_val (r_move rfl) (ltn rfl) ?_
                refine wl_val (r_build (pl := #[(0, 1), (1, 1), (2, 1)]) (_) Try.underlying27 Try.zeroValue27 (fun w => by kernel_rfl) rfl (rfl)) (ltn rfl) ?_
                refine wl_eff (e_lit_one HL1 Try.underlying24 Try.sizeOf27 Try.zeroValue27 rfl rfl rfl (by decide) (by decide)) (ltn rfl) ?_
                rintro l18 w18 H18
                refine wl_eff (e_append H18.f2 Try.underlying24 (show (Try.prog.info? 27).map (fun i => (i.zero, i.size, i.bytes)) = some (some (.agg #[.int .i64 0, .int .i64 0, .int .i64 0]), 3, 24) by kernel_rfl) rfl rfl rfl ((H18).row_rd) (ones_cons (by first | rfl | assumption) (ones_cons (by first | rfl | assumption) (ones_cons (by first | rfl | assumption) ones_nil))) (by omega) (by omega)) (ltn rfl) ?_
                rintro l19 w19 H19
                have Hd20 := H19.f2.right
                refine wl_val (r_assign rfl) (ltn rfl) ?_
                refine wl_nil ?_
                refine wq_block_normal ?_
                refine wq_round (_, _) (Sub.cons rfl (Sub.cons rfl (Sub.nil _))) (Sub.cons rfl (Sub.cons rfl (Sub.nil _))) (by (try dsimp only); exact by first | exact ⟨ws, ⟨by omega, by omega, by rw [← wordsAt_skip hil hsk]; exact hws⟩, Hd20.f2.f2⟩ | exact ⟨ws ++ [(1, i, i + digS l i + opS l (i + digS l i))], ⟨by omega, by simp; omega, by rw [← hws, wordsAt_op hil hsn hop, List.append_assoc]; rfl⟩, wrow_one Hd20.f2.f2⟩ | exact ⟨ws ++ [(0, i, k)], ⟨by omega, by simp; omega, by rw [← hws, wordsAt_plain hil hsn hno, ← hpk, pe_stop hee, List.append_assoc]; rfl⟩, wrow_one Hd20.f2.f2⟩) ?_
                · (try dsimp only); omega
          · (try simp only [beq_iff_eq, bne_iff_ne, ne_eq, decide_eq_true_eq, decide_eq_false_iff_not, beq_eq_false_iff_ne, bne_eq_false_iff_eq, Bool.not_eq_true', Bool.not_eq_false', Bool.not_eq_eq_eq_not, Bool.not_true, Bool.not_false, gt_iff_lt, ge_iff_le, Int.not_lt, Int.not_le] at h5)
            refine wl_no rfl rfl rfl (ltn rfl) ?_
            refine wl_no rfl rfl rfl (ltn rfl) ?_
            refine wl_no rfl rfl rfl (ltn rfl) ?_
            refine wl_no rfl rfl rfl (ltn rfl) ?_
            refine wl_no rfl rfl rfl (ltn rfl) ?_
            refine wl_no rfl rfl rfl (ltn rfl) ?_
            refine wl_no rfl rfl rfl (ltn rfl) ?_
            refine wl_val (r_pick_f rfl rfl) (ltn rfl) ?_
            refine wl_nil ?_
            refine wq_seq ?_
            refine wc_cond_f rfl ?_
            refine wc_skip ?_
            refine wq_seq ?_
            refine wc_seq ?_
            refine wc_block ?_
            have hno : isOp l i (digS l i) = false := by unfold isOp; rw [decide_eq_false_iff_not]; rintro ⟨qa, qb, qc⟩; first | omega | simp_all
            refine wc_loop [(0, _), (3, _), (4, _), (6, _), (21, _), (22, _), (23, _), (24, _), (25, _), (41, _), (42, _), (43, _), (44, _), (45, _), (46, _), (47, _), (50, _), (51, _), (52, _), (53, _), (54, _), (55, _), (56, _)] (fun (k : Nat) => [(5, .int .i64 (k : Int))]) (fun (k : Nat) W => (i ≤ k ∧ k ≤ l.length ∧ peS l k = peS l i) ∧ Holds w0 W (Row 27 3 u ws.length (ws.flatMap wdE) • RowI 3 .i64 (.slice (some ⟨bu1, ou1, none⟩) (stL l) cu1) (statesS l) • F)) (fun (k : Nat) => l.length - k) (i) (Sub.cons rfl (Sub.cons rfl (Sub.cons rfl (Sub.cons rfl (Sub.cons rfl (Sub.cons rfl (Sub.cons rfl (Sub.cons rfl (Sub.cons rfl (Sub.cons rfl (Sub.cons rfl (Sub.cons rfl (Sub.cons rfl (Sub.cons rfl (Sub.cons rfl (Sub.cons rfl (Sub.cons rfl (Sub.cons rfl (Sub.cons rfl (Sub.cons rfl (Sub.cons rfl (Sub.cons rfl (Sub.cons rfl (Sub.nil _)))))))))))))))))))))))) (Sub.cons rfl (Sub.nil _)) ⟨⟨by omega, by omega, rfl⟩, H4.f2.f2⟩ ?_
            rintro k w21 ⟨⟨hk, hkl, hpk⟩, HL1⟩
            dsimp only [List.cons_append, List.nil_append]
            refine wc_seq ?_
            refine wc_seq ?_
            refine wc_region ?_
            refine wl_val (r_move rfl) (ltn rfl) ?_
            refine wl_val (r_move rfl) (ltn rfl) ?_
            refine wl_val (r_len Try.underlying22 rfl) (ltn rfl) ?_
            refine wl_val (r_lss rfl rfl) (ltn rfl) ?_
            refine wl_split rfl (ltn rfl) (fun h11 => ?_) (fun h11 => ?_)
            · (try simp only [beq_iff_eq, bne_iff_ne, ne_eq, decide_eq_true_eq, decide_eq_false_iff_not, beq_eq_false_iff_ne, bne_eq_false_iff_eq, Bool.not_eq_true', Bool.not_eq_false', Bool.not_eq_eq_eq_not, Bool.not_true, Bool.not_false, gt_iff_lt, ge_iff_le, Int.not_lt, Int.not_le] at h11)
              refine wl_yes rfl rfl ?_
              refine wl_val (r_move rfl) (ltn rfl) ?_
              refine wl_yes rfl rfl ?_
              refine wl_val (r_move rfl) (ltn rfl) ?_
              refine wl_yes rfl rfl ?_
              obtain ⟨bu1, ou1, cu1, eu1⟩ := RdI.posV ((HL1.f2).row_rd) (by omega)
              cases eu1
              refine wl_val (r_index Try.underlying47 Try.sizeOf3 rfl rfl (by omega)) (ltn rfl) ?_
              refine wl_yes rfl rfl ?_
              refine wl_val (r_as (r_load (plain_of Try.underlying3 rfl) rfl (by first | exact RdI.at1n ((HL1.f2).row_rd) (by omega) | exact RdI.at0 ((HL1.f2).row_rd) (by omega) | exact RdI.at1 ((HL1.f2).row_rd) (by omega))) (show Value.int .i64 ((statesS l).getD k 0) = .int .i64 (quoS l k) by rw [statesS_at (by omega)])) (ltn rfl) ?_
              refine wl_yes rfl rfl ?_
              refine wl_val (r_eql rfl rfl) (ltn rfl) ?_
              refine wl_yes rfl rfl ?_
              refine wl_split rfl (ltn rfl) (fun h12 => ?_) (fun h12 => ?_)
              · (try simp only [beq_iff_eq, bne_iff_ne, ne_eq, decide_eq_true_eq, decide_eq_false_iff_not, beq_eq_false_iff_ne, bne_eq_false_iff_eq, Bool.not_eq_true', Bool.not_eq_false', Bool.not_eq_eq_eq_not, Bool.not_true, Bool.not_false, gt_iff_lt, ge_iff_le, Int.not_lt, Int.not_le] at h12)
                refine wl_yes rfl rfl ?_
                refine wl_val (r_move rfl) (ltn rfl) ?_
                refine wl_yes rfl rfl ?_
                refine wl_val (r_move rfl) (ltn rfl) ?_
                refine wl_yes rfl rfl ?_
                refine wl_val (r_index Try.underlying22 Try.sizeOf21 rfl rfl (by omega)) (ltn rfl) ?_
                refine wl_yes rfl rfl ?_
                refine wl_val (r_load (plain_of Try.underlying21 rfl) rfl (by first | exact RdI.at1n (hv _ (HL1.right.right)) (by omega) | exact RdI.at0 (hv _ (HL1.right.right)) (by omega) | exact RdI.at1 (hv _ (HL1.right.right)) (by omega))) (ltn rfl) ?_
                refine wl_yes rfl rfl ?_
                refine wl_eff (e_call (r_call rfl Try.func27 rfl rfl) (class_ret HL1 (runs_at hl (by omega)))) (ltn rfl) ?_
                rintro _ w22 ⟨rfl, H22⟩
                refine wl_yes rfl rfl ?_
                refine wl_val (r_neq rfl rfl) (ltn rfl) ?_
                refine wl_yes rfl rfl ?_
                refine wl_val (r_pick_t rfl rfl) (ltn rfl) ?_
                refine wl_yes rfl rfl ?_
                refine wl_val (r_not rfl) (ltn rfl) ?_
                refine wl_val (r_pick_t rfl rfl) (ltn rfl) ?_
                refine wl_nil ?_
                refine wq_seq ?_
                refine wc_cond rfl (fun h13 => ?_) (fun h13 => ?_)
                · (try simp only [beq_iff_eq, bne_iff_ne, ne_eq, decide_eq_true_eq, decide_eq_false_iff_not, beq_eq_false_iff_ne, bne_eq_false_iff_eq, Bool.not_eq_true', Bool.not_eq_false', Bool.not_eq_eq_eq_not, Bool.not_true, Bool.not_false, gt_iff_lt, ge_iff_le, Int.not_lt, Int.not_le] at h13)
                  
                  refine wc_skip ?_
                  refine wq_seq ?_
                  refine wc_block ?_
                  have hef : endsS l k = false := by unfold endsS; rw [decide_eq_false_iff_not]; rintro (q | ⟨qa, qb⟩) <;> omega
                  refine wc_region ?_
                  refine wl_val (r_move rfl) (ltn rfl) ?_
                  refine wl_val (r_as (r_add rfl rfl (by omega)) (show Value.int .i64 ((k : Int) + 1) = .int .i64 ((k + 1 : Nat) : Int) by rw [Int.natCast_add]; rfl)) (ltn rfl) ?_
                  refine wl_val (r_assign rfl) (ltn rfl) ?_
                  refine wl_nil ?_
                  refine wq_block_normal ?_
                  refine wq_round (_) (Sub.cons rfl (Sub.nil _)) (Sub.cons rfl (Sub.cons rfl (Sub.cons rfl (Sub.cons rfl (Sub.cons rfl (Sub.cons rfl (Sub.cons rfl (Sub.cons rfl (Sub.cons rfl (Sub.cons rfl (Sub.cons rfl (Sub.cons rfl (Sub.cons rfl (Sub.cons rfl (Sub.cons rfl (Sub.cons rfl (Sub.cons rfl (Sub.cons rfl (Sub.cons rfl (Sub.cons rfl (Sub.cons rfl (Sub.cons rfl (Sub.cons rfl (Sub.nil _)))))))))))))))))))))))) (by (try dsimp only); exact ⟨⟨by omega, by omega, peS_mono hef hpk⟩, H22.f2.f2⟩) ?_
                  · (try dsimp only); omega
                · (try simp only [beq_iff_eq, bne_iff_ne, ne_eq, decide_eq_true_eq, decide_eq_false_iff_not, beq_eq_false_iff_ne, bne_eq_false_iff_eq, Bool.not_eq_true', Bool.not_eq_false', Bool.not_eq_eq_eq_not, Bool.not_true, Bool.not_false, gt_iff_lt, ge_iff_le, Int.not_lt, Int.not_le] at h13)
                  have hcz : classS (l.getD k 0) ≠ 0 ∧ quoS l k = 0 := by first | exact ⟨by simpa using h13, by omega⟩ | (exfalso; simp at h13)
                  refine wc_exit ?_
                  refine wq_then_exit ?_
                  refine wq_then_exit ?_
                  refine wq_block_hit ?_
                  refine wq_seq ?_
                  have hee : endsS l k = true := by unfold endsS; rw [decide_eq_true_eq]; omega
                  have hplt := peS_lt (plain_go hil hsn hno)
                  rw [← hpk, pe_stop hee] at hplt
                  refine wc_region ?_
                  refine wl_val (r_move rfl) (ltn rfl) ?_
                  refine wl_val (r_move rfl) (ltn rfl) ?_
                  refine wl_val (r_move rfl) (ltn rfl) ?_
                  refine wl_val (r_build (pl := #[(0, 1), (1, 1), (2, 1)]) (_) Try.underlying27 Try.zeroValue27 (fun w => by kernel_rfl) rfl (rfl)) (ltn rfl) ?_
                  refine wl_eff (e_lit_one H22 Try.underlying24 Try.sizeOf27 Try.zeroValue27 rfl rfl rfl (by decide) (by decide)) (ltn rfl) ?_
                  rintro l23 w23 H23
                  refine wl_eff (e_append H23.f2 Try.underlying24 (show (Try.prog.info? 27).map (fun i => (i.zero, i.size, i.bytes)) = some (some (.agg #[.int .i64 0, .int .i64 0, .int .i64 0]), 3, 24) by kernel_rfl) rfl rfl rfl ((H23).row_rd) (ones_cons (by first | rfl | assumption) (ones_cons (by first | rfl | assumption) (ones_cons (by first | rfl | assumption) ones_nil))) (by omega) (by omega)) (ltn rfl) ?_
                  rintro l24 w24 H24
                  have Hd25 := H24.f2.right
                  refine wl_val (r_assign rfl) (ltn rfl) ?_
                  refine wl_nil ?_
                  refine wq_block_normal ?_
                  refine wq_round (_, _) (Sub.cons rfl (Sub.cons rfl (Sub.nil _))) (Sub.cons rfl (Sub.cons rfl (Sub.nil _))) (by (try dsimp only); exact by first | exact ⟨ws, ⟨by omega, by omega, by rw [← wordsAt_skip hil hsk]; exact hws⟩, Hd25.f2.f2⟩ | exact ⟨ws ++ [(1, i, i + digS l i + opS l (i + digS l i))], ⟨by omega, by simp; omega, by rw [← hws, wordsAt_op hil hsn hop, List.append_assoc]; rfl⟩, wrow_one Hd25.f2.f2⟩ | exact ⟨ws ++ [(0, i, k)], ⟨by omega, by simp; omega, by rw [← hws, wordsAt_plain hil hsn hno, ← hpk, pe_stop hee, List.append_assoc]; rfl⟩, wrow_one Hd25.f2.f2⟩) ?_
                  · (try dsimp only); omega
              · (try simp only [beq_iff_eq, bne_iff_ne, ne_eq, decide_eq_true_eq, decide_eq_false_iff_not, beq_eq_false_iff_ne, bne_eq_false_iff_eq, Bool.not_eq_true', Bool.not_eq_false', Bool.not_eq_eq_eq_not, Bool.not_true, Bool.not_false, gt_iff_lt, ge_iff_le, Int.not_lt, Int.not_le] at h12)
                refine wl_no rfl rfl rfl (ltn rfl) ?_
                refine wl_no rfl rfl rfl (ltn rfl) ?_
                refine wl_no rfl rfl rfl (ltn rfl) ?_
                refine wl_no rfl rfl rfl (ltn rfl) ?_
                refine wl_no rfl rfl rfl (ltn rfl) ?_
                refine wl_no rfl rfl rfl (ltn rfl) ?_
                refine wl_yes rfl rfl ?_
                refine wl_val (r_pick_f rfl rfl) (ltn rfl) ?_
                refine wl_yes rfl rfl ?_
                refine wl_val (r_not rfl) (ltn rfl) ?_
                refine wl_val (r_pick_t rfl rfl) (ltn rfl) ?_
                refine wl_nil ?_
                refine wq_seq ?_
                refine wc_cond rfl (fun h14 => ?_) (fun h14 => ?_)
                · (try simp only [beq_iff_eq, bne_iff_ne, ne_eq, decide_eq_true_eq, decide_eq_false_iff_not, beq_eq_false_iff_ne, bne_eq_false_iff_eq, Bool.not_eq_true', Bool.not_eq_false', Bool.not_eq_eq_eq_not, Bool.not_true, Bool.not_false, gt_iff_lt, ge_iff_le, Int.not_lt, Int.not_le] at h14)
                  
                  refine wc_skip ?_
                  refine wq_seq ?_
                  refine wc_block ?_
                  have hef : endsS l k = false := by unfold endsS; rw [decide_eq_false_iff_not]; rintro (q | ⟨qa, qb⟩) <;> omega
                  refine wc_region ?_
                  refine wl_val (r_move rfl) (ltn rfl) ?_
                  refine wl_val (r_as (r_add rfl rfl (by omega)) (show Value.int .i64 ((k : Int) + 1) = .int .i64 ((k + 1 : Nat) : Int) by rw [Int.natCast_add]; rfl)) (ltn rfl) ?_
                  refine wl_val (r_assign rfl) (ltn rfl) ?_
                  refine wl_nil ?_
                  refine wq_block_normal ?_
                  refine wq_round (_) (Sub.cons rfl (Sub.nil _)) (Sub.cons rfl (Sub.cons rfl (Sub.cons rfl (Sub.cons rfl (Sub.cons rfl (Sub.cons rfl (Sub.cons rfl (Sub.cons rfl (Sub.cons rfl (Sub.cons rfl (Sub.cons rfl (Sub.cons rfl (Sub.cons rfl (Sub.cons rfl (Sub.cons rfl (Sub.cons rfl (Sub.cons rfl (Sub.cons rfl (Sub.cons rfl (Sub.cons rfl (Sub.cons rfl (Sub.cons rfl (Sub.cons rfl (Sub.nil _)))))))))))))))))))))))) (by (try dsimp only); exact ⟨⟨by omega, by omega, peS_mono hef hpk⟩, HL1.f2.f2⟩) ?_
                  · (try dsimp only); omega
                · (try simp only [beq_iff_eq, bne_iff_ne, ne_eq, decide_eq_true_eq, decide_eq_false_iff_not, beq_eq_false_iff_ne, bne_eq_false_iff_eq, Bool.not_eq_true', Bool.not_eq_false', Bool.not_eq_eq_eq_not, Bool.not_true, Bool.not_false, gt_iff_lt, ge_iff_le, Int.not_lt, Int.not_le] at h14)
                  have hcz : classS (l.getD k 0) ≠ 0 ∧ quoS l k = 0 := by first | exact ⟨by simpa using h14, by omega⟩ | (exfalso; simp at h14)
                  refine wc_exit ?_
                  refine wq_then_exit ?_
                  refine wq_then_exit ?_
                  refine wq_block_hit ?_
                  refine wq_seq ?_
                  have hee : endsS l k = true := by unfold endsS; rw [decide_eq_true_eq]; omega
                  have hplt := peS_lt (plain_go hil hsn hno)
                  rw [← hpk, pe_stop hee] at hplt
                  refine wc_region ?_
                  refine wl_val (r_move rfl) (ltn rfl) ?_
                  refine wl_val (r_move rfl) (ltn rfl) ?_
                  refine wl_val (r_move rfl) (ltn rfl) ?_
                  refine wl_val (r_build (pl := #[(0, 1), (1, 1), (2, 1)]) (_) Try.underlying27 Try.zeroValue27 (fun w => by kernel_rfl) rfl (rfl)) (ltn rfl) ?_
                  refine wl_eff (e_lit_one HL1 Try.underlying24 Try.sizeOf27 Try.zeroValue27 rfl rfl rfl (by decide) (by decide)) (ltn rfl) ?_
                  rintro l26 w26 H26
                  refine wl_eff (e_append H26.f2 Try.underlying24 (show (Try.prog.info? 27).map (fun i => (i.zero, i.size, i.bytes)) = some (some (.agg #[.int .i64 0, .int .i64 0, .int .i64 0]), 3, 24) by kernel_rfl) rfl rfl rfl ((H26).row_rd) (ones_cons (by first | rfl | assumption) (ones_cons (by first | rfl | assumption) (ones_cons (by first | rfl | assumption) ones_nil))) (by omega) (by omega)) (ltn rfl) ?_
                  rintro l27 w27 H27
                  have Hd28 := H27.f2.right
                  refine wl_val (r_assign rfl) (ltn rfl) ?_
                  refine wl_nil ?_
                  refine wq_block_normal ?_
                  refine wq_round (_, _) (Sub.cons rfl (Sub.cons rfl (Sub.nil _))) (Sub.cons rfl (Sub.cons rfl (Sub.nil _))) (by (try dsimp only); exact by first | exact ⟨ws, ⟨by omega, by omega, by rw [← wordsAt_skip hil hsk]; exact hws⟩, Hd28.f2.f2⟩ | exact ⟨ws ++ [(1, i, i + digS l i + opS l (i + digS l i))], ⟨by omega, by simp; omega, by rw [← hws, wordsAt_op hil hsn hop, List.append_assoc]; rfl⟩, wrow_one Hd28.f2.f2⟩ | exact ⟨ws ++ [(0, i, k)], ⟨by omega, by simp; omega, by rw [← hws, wordsAt_plain hil hsn hno, ← hpk, pe_stop hee, List.append_assoc]; rfl⟩, wrow_one Hd28.f2.f2⟩) ?_
                  · (try dsimp only); omega
            · (try simp only [beq_iff_eq, bne_iff_ne, ne_eq, decide_eq_true_eq, decide_eq_false_iff_not, beq_eq_false_iff_ne, bne_eq_false_iff_eq, Bool.not_eq_true', Bool.not_eq_false', Bool.not_eq_eq_eq_not, Bool.not_true, Bool.not_false, gt_iff_lt, ge_iff_le, Int.not_lt, Int.not_le] at h11)
              refine wl_no rfl rfl rfl (ltn rfl) ?_
              refine wl_no rfl rfl rfl (ltn rfl) ?_
              refine wl_no rfl rfl rfl (ltn rfl) ?_
              refine wl_no rfl rfl rfl (ltn rfl) ?_
              refine wl_no rfl rfl rfl (ltn rfl) ?_
              refine wl_no rfl rfl rfl (ltn rfl) ?_
              refine wl_nou rfl rfl (ltn rfl) ?_
              refine wl_nou rfl rfl (ltn rfl) ?_
              refine wl_nou rfl rfl (ltn rfl) ?_
              refine wl_nou rfl rfl (ltn rfl) ?_
              refine wl_nou rfl rfl (ltn rfl) ?_
              refine wl_nou rfl rfl (ltn rfl) ?_
              refine wl_no rfl rfl rfl (ltn rfl) ?_
              refine wl_no rfl rfl rfl (ltn rfl) ?_
              refine wl_val (r_pick_f rfl rfl) (ltn rfl) ?_
              refine wl_nil ?_
              refine wq_seq ?_
              refine wc_cond_f rfl ?_
              refine wc_exit ?_
              refine wq_then_exit ?_
              refine wq_then_exit ?_
              refine wq_block_hit ?_
              refine wq_seq ?_
              have hee : endsS l k = true := by unfold endsS; rw [decide_eq_true_eq]; omega
              have hplt := peS_lt (plain_go hil hsn hno)
              rw [← hpk, pe_stop hee] at hplt
              refine wc_region ?_
              refine wl_val (r_move rfl) (ltn rfl) ?_
              refine wl_val (r_move rfl) (ltn rfl) ?_
              refine wl_val (r_move rfl) (ltn rfl) ?_
              refine wl_val (r_build (pl := #[(0, 1), (1, 1), (2, 1)]) (_) Try.underlying27 Try.zeroValue27 (fun w => by kernel_rfl) rfl (rfl)) (ltn rfl) ?_
              refine wl_eff (e_lit_one HL1 Try.underlying24 Try.sizeOf27 Try.zeroValue27 rfl rfl rfl (by decide) (by decide)) (ltn rfl) ?_
              rintro l29 w29 H29
              refine wl_eff (e_append H29.f2 Try.underlying24 (show (Try.prog.info? 27).map (fun i => (i.zero, i.size, i.bytes)) = some (some (.agg #[.int .i64 0, .int .i64 0, .int .i64 0]), 3, 24) by kernel_rfl) rfl rfl rfl ((H29).row_rd) (ones_cons (by first | rfl | assumption) (ones_cons (by first | rfl | assumption) (ones_cons (by first | rfl | assumption) ones_nil))) (by omega) (by omega)) (ltn rfl) ?_
              rintro l30 w30 H30
              have Hd31 := H30.f2.right
              refine wl_val (r_assign rfl) (ltn rfl) ?_
              refine wl_nil ?_
              refine wq_block_normal ?_
              refine wq_round (_, _) (Sub.cons rfl (Sub.cons rfl (Sub.nil _))) (Sub.cons rfl (Sub.cons rfl (Sub.nil _))) (by (try dsimp only); exact by first | exact ⟨ws, ⟨by omega, by omega, by rw [← wordsAt_skip hil hsk]; exact hws⟩, Hd31.f2.f2⟩ | exact ⟨ws ++ [(1, i, i + digS l i + opS l (i + digS l i))], ⟨by omega, by simp; omega, by rw [← hws, wordsAt_op hil hsn hop, List.append_assoc]; rfl⟩, wrow_one Hd31.f2.f2⟩ | exact ⟨ws ++ [(0, i, k)], ⟨by omega, by simp; omega, by rw [← hws, wordsAt_plain hil hsn hno, ← hpk, pe_stop hee, List.append_assoc]; rfl⟩, wrow_one Hd31.f2.f2⟩) ?_
              · (try dsimp only); omega
        · (try simp only [beq_iff_eq, bne_iff_ne, ne_eq, decide_eq_true_eq, decide_eq_false_iff_not, beq_eq_false_iff_ne, bne_eq_false_iff_eq, Bool.not_eq_true', Bool.not_eq_false', Bool.not_eq_eq_eq_not, Bool.not_true, Bool.not_false, gt_iff_lt, ge_iff_le, Int.not_lt, Int.not_le] at h4)
          refine wl_no rfl rfl rfl (ltn rfl) ?_
          refine wl_no rfl rfl rfl (ltn rfl) ?_
          refine wl_no rfl rfl rfl (ltn rfl) ?_
          refine wl_no rfl rfl rfl (ltn rfl) ?_
          refine wl_no rfl rfl rfl (ltn rfl) ?_
          refine wl_no rfl rfl rfl (ltn rfl) ?_
          refine wl_no rfl rfl rfl (ltn rfl) ?_
          refine wl_val (r_pick_f rfl rfl) (ltn rfl) ?_
          refine wl_val (r_move rfl) (ltn rfl) ?_
          refine wl_no rfl rfl rfl (ltn rfl) ?_
          refine wl_no rfl rfl rfl (ltn rfl) ?_
          refine wl_no rfl rfl rfl (ltn rfl) ?_
          refine wl_no rfl rfl rfl (ltn rfl) ?_
          refine wl_no rfl rfl rfl (ltn rfl) ?_
          refine wl_no rfl rfl rfl (ltn rfl) ?_
          refine wl_no rfl rfl rfl (ltn rfl) ?_
          refine wl_val (r_pick_f rfl rfl) (ltn rfl) ?_
          refine wl_nil ?_
          refine wq_seq ?_
          refine wc_cond_f rfl ?_
          refine wc_skip ?_
          refine wq_seq ?_
          refine wc_seq ?_
          refine wc_block ?_
          have hno : isOp l i (digS l i) = false := by unfold isOp; rw [decide_eq_false_iff_not]; rintro ⟨qa, qb, qc⟩; first | omega | simp_all
          refine wc_loop [(0, _), (3, _), (4, _), (6, _), (21, _), (22, _), (23, _), (24, _), (25, _), (41, _), (42, _), (43, _), (44, _), (45, _), (46, _), (47, _), (50, _), (51, _), (52, _), (53, _), (54, _), (55, _), (56, _)] (fun (k : Nat) => [(5, .int .i64 (k : Int))]) (fun (k : Nat) W => (i ≤ k ∧ k ≤ l.length ∧ peS l k = peS l i) ∧ Holds w0 W (Row 27 3 u ws.length (ws.flatMap wdE) • RowI 3 .i64 (.slice (some ⟨bu1, ou1, none⟩) (stL l) cu1) (statesS l) • F)) (fun (k : Nat) => l.length - k) (i) (Sub.cons rfl (Sub.cons rfl (Sub.cons rfl (Sub.cons rfl (Sub.cons rfl (Sub.cons rfl (Sub.cons rfl (Sub.cons rfl (Sub.cons rfl (Sub.cons rfl (Sub.cons rfl (Sub.cons rfl (Sub.cons rfl (Sub.cons rfl (Sub.cons rfl (Sub.cons rfl (Sub.cons rfl (Sub.cons rfl (Sub.cons rfl (Sub.cons rfl (Sub.cons rfl (Sub.cons rfl (Sub.cons rfl (Sub.nil _)))))))))))))))))))))))) (Sub.cons rfl (Sub.nil _)) ⟨⟨by omega, by omega, rfl⟩, H4.f2.f2⟩ ?_
          rintro k w32 ⟨⟨hk, hkl, hpk⟩, HL1⟩
          dsimp only [List.cons_append, List.nil_append]
          refine wc_seq ?_
          refine wc_seq ?_
          refine wc_region ?_
          refine wl_val (r_move rfl) (ltn rfl) ?_
          refine wl_val (r_move rfl) (ltn rfl) ?_
          refine wl_val (r_len Try.underlying22 rfl) (ltn rfl) ?_
          refine wl_val (r_lss rfl rfl) (ltn rfl) ?_
          refine wl_split rfl (ltn rfl) (fun h15 => ?_) (fun h15 => ?_)
          · (try simp only [beq_iff_eq, bne_iff_ne, ne_eq, decide_eq_true_eq, decide_eq_false_iff_not, beq_eq_false_iff_ne, bne_eq_false_iff_eq, Bool.not_eq_true', Bool.not_eq_false', Bool.not_eq_eq_eq_not, Bool.not_true, Bool.not_false, gt_iff_lt, ge_iff_le, Int.not_lt, Int.not_le] at h15)
            refine wl_yes rfl rfl ?_
            refine wl_val (r_move rfl) (ltn rfl) ?_
            refine wl_yes rfl rfl ?_
            refine wl_val (r_move rfl) (ltn rfl) ?_
            refine wl_yes rfl rfl ?_
            obtain ⟨bu1, ou1, cu1, eu1⟩ := RdI.posV ((HL1.f2).row_rd) (by omega)
            cases eu1
            refine wl_val (r_index Try.underlying47 Try.sizeOf3 rfl rfl (by omega)) (ltn rfl) ?_
            refine wl_yes rfl rfl ?_
            refine wl_val (r_as (r_load (plain_of Try.underlying3 rfl) rfl (by first | exact RdI.at1n ((HL1.f2).row_rd) (by omega) | exact RdI.at0 ((HL1.f2).row_rd) (by omega) | exact RdI.at1 ((HL1.f2).row_rd) (by omega))) (show Value.int .i64 ((statesS l).getD k 0) = .int .i64 (quoS l k) by rw [statesS_at (by omega)])) (ltn rfl) ?_
            refine wl_yes rfl rfl ?_
            refine wl_val (r_eql rfl rfl) (ltn rfl) ?_
            refine wl_yes rfl rfl ?_
            refine wl_split rfl (ltn rfl) (fun h16 => ?_) (fun h16 => ?_)
            · (try simp only [beq_iff_eq, bne_iff_ne, ne_eq, decide_eq_true_eq, decide_eq_false_iff_not, beq_eq_false_iff_ne, bne_eq_false_iff_eq, Bool.not_eq_true', Bool.not_eq_false', Bool.not_eq_eq_eq_not, Bool.not_true, Bool.not_false, gt_iff_lt, ge_iff_le, Int.not_lt, Int.not_le] at h16)
              refine wl_yes rfl rfl ?_
              refine wl_val (r_move rfl) (ltn rfl) ?_
              refine wl_yes rfl rfl ?_
              refine wl_val (r_move rfl) (ltn rfl) ?_
              refine wl_yes rfl rfl ?_
              refine wl_val (r_index Try.underlying22 Try.sizeOf21 rfl rfl (by omega)) (ltn rfl) ?_
              refine wl_yes rfl rfl ?_
              refine wl_val (r_load (plain_of Try.underlying21 rfl) rfl (by first | exact RdI.at1n (hv _ (HL1.right.right)) (by omega) | exact RdI.at0 (hv _ (HL1.right.right)) (by omega) | exact RdI.at1 (hv _ (HL1.right.right)) (by omega))) (ltn rfl) ?_
              refine wl_yes rfl rfl ?_
              refine wl_eff (e_call (r_call rfl Try.func27 rfl rfl) (class_ret HL1 (runs_at hl (by omega)))) (ltn rfl) ?_
              rintro _ w33 ⟨rfl, H33⟩
              refine wl_yes rfl rfl ?_
              refine wl_val (r_neq rfl rfl) (ltn rfl) ?_
              refine wl_yes rfl rfl ?_
              refine wl_val (r_pick_t rfl rfl) (ltn rfl) ?_
              refine wl_yes rfl rfl ?_
              refine wl_val (r_not rfl) (ltn rfl) ?_
              refine wl_val (r_pick_t rfl rfl) (ltn rfl) ?_
              refine wl_nil ?_
              refine wq_seq ?_
              refine wc_cond rfl (fun h17 => ?_) (fun h17 => ?_)
              · (try simp only [beq_iff_eq, bne_iff_ne, ne_eq, decide_eq_true_eq, decide_eq_false_iff_not, beq_eq_false_iff_ne, bne_eq_false_iff_eq, Bool.not_eq_true', Bool.not_eq_false', Bool.not_eq_eq_eq_not, Bool.not_true, Bool.not_false, gt_iff_lt, ge_iff_le, Int.not_lt, Int.not_le] at h17)
                
                refine wc_skip ?_
                refine wq_seq ?_
                refine wc_block ?_
                have hef : endsS l k = false := by unfold endsS; rw [decide_eq_false_iff_not]; rintro (q | ⟨qa, qb⟩) <;> omega
                refine wc_region ?_
                refine wl_val (r_move rfl) (ltn rfl) ?_
                refine wl_val (r_as (r_add rfl rfl (by omega)) (show Value.int .i64 ((k : Int) + 1) = .int .i64 ((k + 1 : Nat) : Int) by rw [Int.natCast_add]; rfl)) (ltn rfl) ?_
                refine wl_val (r_assign rfl) (ltn rfl) ?_
                refine wl_nil ?_
                refine wq_block_normal ?_
                refine wq_round (_) (Sub.cons rfl (Sub.nil _)) (Sub.cons rfl (Sub.cons rfl (Sub.cons rfl (Sub.cons rfl (Sub.cons rfl (Sub.cons rfl (Sub.cons rfl (Sub.cons rfl (Sub.cons rfl (Sub.cons rfl (Sub.cons rfl (Sub.cons rfl (Sub.cons rfl (Sub.cons rfl (Sub.cons rfl (Sub.cons rfl (Sub.cons rfl (Sub.cons rfl (Sub.cons rfl (Sub.cons rfl (Sub.cons rfl (Sub.cons rfl (Sub.cons rfl (Sub.nil _)))))))))))))))))))))))) (by (try dsimp only); exact ⟨⟨by omega, by omega, peS_mono hef hpk⟩, H33.f2.f2⟩) ?_
                · (try dsimp only); omega
              · (try simp only [beq_iff_eq, bne_iff_ne, ne_eq, decide_eq_true_eq, decide_eq_false_iff_not, beq_eq_false_iff_ne, bne_eq_false_iff_eq, Bool.not_eq_true', Bool.not_eq_false', Bool.not_eq_eq_eq_not, Bool.not_true, Bool.not_false, gt_iff_lt, ge_iff_le, Int.not_lt, Int.not_le] at h17)
                have hcz : classS (l.getD k 0) ≠ 0 ∧ quoS l k = 0 := by first | exact ⟨by simpa using h17, by omega⟩ | (exfalso; simp at h17)
                refine wc_exit ?_
                refine wq_then_exit ?_
                refine wq_then_exit ?_
                refine wq_block_hit ?_
                refine wq_seq ?_
                have hee : endsS l k = true := by unfold endsS; rw [decide_eq_true_eq]; omega
                have hplt := peS_lt (plain_go hil hsn hno)
                rw [← hpk, pe_stop hee] at hplt
                refine wc_region ?_
                refine wl_val (r_move rfl) (ltn rfl) ?_
                refine wl_val (r_move rfl) (ltn rfl) ?_
                refine wl_val (r_move rfl) (ltn rfl) ?_
                refine wl_val (r_build (pl := #[(0, 1), (1, 1), (2, 1)]) (_) Try.underlying27 Try.zeroValue27 (fun w => by kernel_rfl) rfl (rfl)) (ltn rfl) ?_
                refine wl_eff (e_lit_one H33 Try.underlying24 Try.sizeOf27 Try.zeroValue27 rfl rfl rfl (by decide) (by decide)) (ltn rfl) ?_
                rintro l34 w34 H34
                refine wl_eff (e_append H34.f2 Try.underlying24 (show (Try.prog.info? 27).map (fun i => (i.zero, i.size, i.bytes)) = some (some (.agg #[.int .i64 0, .int .i64 0, .int .i64 0]), 3, 24) by kernel_rfl) rfl rfl rfl ((H34).row_rd) (ones_cons (by first | rfl | assumption) (ones_cons (by first | rfl | assumption) (ones_cons (by first | rfl | assumption) ones_nil))) (by omega) (by omega)) (ltn rfl) ?_
                rintro l35 w35 H35
                have Hd36 := H35.f2.right
                refine wl_val (r_assign rfl) (ltn rfl) ?_
                refine wl_nil ?_
                refine wq_block_normal ?_
                refine wq_round (_, _) (Sub.cons rfl (Sub.cons rfl (Sub.nil _))) (Sub.cons rfl (Sub.cons rfl (Sub.nil _))) (by (try dsimp only); exact by first | exact ⟨ws, ⟨by omega, by omega, by rw [← wordsAt_skip hil hsk]; exact hws⟩, Hd36.f2.f2⟩ | exact ⟨ws ++ [(1, i, i + digS l i + opS l (i + digS l i))], ⟨by omega, by simp; omega, by rw [← hws, wordsAt_op hil hsn hop, List.append_assoc]; rfl⟩, wrow_one Hd36.f2.f2⟩ | exact ⟨ws ++ [(0, i, k)], ⟨by omega, by simp; omega, by rw [← hws, wordsAt_plain hil hsn hno, ← hpk, pe_stop hee, List.append_assoc]; rfl⟩, wrow_one Hd36.f2.f2⟩) ?_
                · (try dsimp only); omega
            · (try simp only [beq_iff_eq, bne_iff_ne, ne_eq, decide_eq_true_eq, decide_eq_false_iff_not, beq_eq_false_iff_ne, bne_eq_false_iff_eq, Bool.not_eq_true', Bool.not_eq_false', Bool.not_eq_eq_eq_not, Bool.not_true, Bool.not_false, gt_iff_lt, ge_iff_le, Int.not_lt, Int.not_le] at h16)
              refine wl_no rfl rfl rfl (ltn rfl) ?_
              refine wl_no rfl rfl rfl (ltn rfl) ?_
              refine wl_no rfl rfl rfl (ltn rfl) ?_
              refine wl_no rfl rfl rfl (ltn rfl) ?_
              refine wl_no rfl rfl rfl (ltn rfl) ?_
              refine wl_no rfl rfl rfl (ltn rfl) ?_
              refine wl_yes rfl rfl ?_
              refine wl_val (r_pick_f rfl rfl) (ltn rfl) ?_
              refine wl_yes rfl rfl ?_
              refine wl_val (r_not rfl) (ltn rfl) ?_
              refine wl_val (r_pick_t rfl rfl) (ltn rfl) ?_
              refine wl_nil ?_
              refine wq_seq ?_
              refine wc_cond rfl (fun h18 => ?_) (fun h18 => ?_)
              · (try simp only [beq_iff_eq, bne_iff_ne, ne_eq, decide_eq_true_eq, decide_eq_false_iff_not, beq_eq_false_iff_ne, bne_eq_false_iff_eq, Bool.not_eq_true', Bool.not_eq_false', Bool.not_eq_eq_eq_not, Bool.not_true, Bool.not_false, gt_iff_lt, ge_iff_le, Int.not_lt, Int.not_le] at h18)
                
                refine wc_skip ?_
                refine wq_seq ?_
                refine wc_block ?_
                have hef : endsS l k = false := by unfold endsS; rw [decide_eq_false_iff_not]; rintro (q | ⟨qa, qb⟩) <;> omega
                refine wc_region ?_
                refine wl_val (r_move rfl) (ltn rfl) ?_
                refine wl_val (r_as (r_add rfl rfl (by omega)) (show Value.int .i64 ((k : Int) + 1) = .int .i64 ((k + 1 : Nat) : Int) by rw [Int.natCast_add]; rfl)) (ltn rfl) ?_
                refine wl_val (r_assign rfl) (ltn rfl) ?_
                refine wl_nil ?_
                refine wq_block_normal ?_
                refine wq_round (_) (Sub.cons rfl (Sub.nil _)) (Sub.cons rfl (Sub.cons rfl (Sub.cons rfl (Sub.cons rfl (Sub.cons rfl (Sub.cons rfl (Sub.cons rfl (Sub.cons rfl (Sub.cons rfl (Sub.cons rfl (Sub.cons rfl (Sub.cons rfl (Sub.cons rfl (Sub.cons rfl (Sub.cons rfl (Sub.cons rfl (Sub.cons rfl (Sub.cons rfl (Sub.cons rfl (Sub.cons rfl (Sub.cons rfl (Sub.cons rfl (Sub.cons rfl (Sub.nil _)))))))))))))))))))))))) (by (try dsimp only); exact ⟨⟨by omega, by omega, peS_mono hef hpk⟩, HL1.f2.f2⟩) ?_
                · (try dsimp only); omega
              · (try simp only [beq_iff_eq, bne_iff_ne, ne_eq, decide_eq_true_eq, decide_eq_false_iff_not, beq_eq_false_iff_ne, bne_eq_false_iff_eq, Bool.not_eq_true', Bool.not_eq_false', Bool.not_eq_eq_eq_not, Bool.not_true, Bool.not_false, gt_iff_lt, ge_iff_le, Int.not_lt, Int.not_le] at h18)
                have hcz : classS (l.getD k 0) ≠ 0 ∧ quoS l k = 0 := by first | exact ⟨by simpa using h18, by omega⟩ | (exfalso; simp at h18)
                refine wc_exit ?_
                refine wq_then_exit ?_
                refine wq_then_exit ?_
                refine wq_block_hit ?_
                refine wq_seq ?_
                have hee : endsS l k = true := by unfold endsS; rw [decide_eq_true_eq]; omega
                have hplt := peS_lt (plain_go hil hsn hno)
                rw [← hpk, pe_stop hee] at hplt
                refine wc_region ?_
                refine wl_val (r_move rfl) (ltn rfl) ?_
                refine wl_val (r_move rfl) (ltn rfl) ?_
                refine wl_val (r_move rfl) (ltn rfl) ?_
                refine wl_val (r_build (pl := #[(0, 1), (1, 1), (2, 1)]) (_) Try.underlying27 Try.zeroValue27 (fun w => by kernel_rfl) rfl (rfl)) (ltn rfl) ?_
                refine wl_eff (e_lit_one HL1 Try.underlying24 Try.sizeOf27 Try.zeroValue27 rfl rfl rfl (by decide) (by decide)) (ltn rfl) ?_
                rintro l37 w37 H37
                refine wl_eff (e_append H37.f2 Try.underlying24 (show (Try.prog.info? 27).map (fun i => (i.zero, i.size, i.bytes)) = some (some (.agg #[.int .i64 0, .int .i64 0, .int .i64 0]), 3, 24) by kernel_rfl) rfl rfl rfl ((H37).row_rd) (ones_cons (by first | rfl | assumption) (ones_cons (by first | rfl | assumption) (ones_cons (by first | rfl | assumption) ones_nil))) (by omega) (by omega)) (ltn rfl) ?_
                rintro l38 w38 H38
                have Hd39 := H38.f2.right
                refine wl_val (r_assign rfl) (ltn rfl) ?_
                refine wl_nil ?_
                refine wq_block_normal ?_
                refine wq_round (_, _) (Sub.cons rfl (Sub.cons rfl (Sub.nil _))) (Sub.cons rfl (Sub.cons rfl (Sub.nil _))) (by (try dsimp only); exact by first | exact ⟨ws, ⟨by omega, by omega, by rw [← wordsAt_skip hil hsk]; exact hws⟩, Hd39.f2.f2⟩ | exact ⟨ws ++ [(1, i, i + digS l i + opS l (i + digS l i))], ⟨by omega, by simp; omega, by rw [← hws, wordsAt_op hil hsn hop, List.append_assoc]; rfl⟩, wrow_one Hd39.f2.f2⟩ | exact ⟨ws ++ [(0, i, k)], ⟨by omega, by simp; omega, by rw [← hws, wordsAt_plain hil hsn hno, ← hpk, pe_stop hee, List.append_assoc]; rfl⟩, wrow_one Hd39.f2.f2⟩) ?_
                · (try dsimp only); omega
          · (try simp only [beq_iff_eq, bne_iff_ne, ne_eq, decide_eq_true_eq, decide_eq_false_iff_not, beq_eq_false_iff_ne, bne_eq_false_iff_eq, Bool.not_eq_true', Bool.not_eq_false', Bool.not_eq_eq_eq_not, Bool.not_true, Bool.not_false, gt_iff_lt, ge_iff_le, Int.not_lt, Int.not_le] at h15)
            refine wl_no rfl rfl rfl (ltn rfl) ?_
            refine wl_no rfl rfl rfl (ltn rfl) ?_
            refine wl_no rfl rfl rfl (ltn rfl) ?_
            refine wl_no rfl rfl rfl (ltn rfl) ?_
            refine wl_no rfl rfl rfl (ltn rfl) ?_
            refine wl_no rfl rfl rfl (ltn rfl) ?_
            refine wl_nou rfl rfl (ltn rfl) ?_
            refine wl_nou rfl rfl (ltn rfl) ?_
            refine wl_nou rfl rfl (ltn rfl) ?_
            refine wl_nou rfl rfl (ltn rfl) ?_
            refine wl_nou rfl rfl (ltn rfl) ?_
            refine wl_nou rfl rfl (ltn rfl) ?_
            refine wl_no rfl rfl rfl (ltn rfl) ?_
            refine wl_no rfl rfl rfl (ltn rfl) ?_
            refine wl_val (r_pick_f rfl rfl) (ltn rfl) ?_
            refine wl_nil ?_
            refine wq_seq ?_
            refine wc_cond_f rfl ?_
            refine wc_exit ?_
            refine wq_then_exit ?_
            refine wq_then_exit ?_
            refine wq_block_hit ?_
            refine wq_seq ?_
            have hee : endsS l k = true := by unfold endsS; rw [decide_eq_true_eq]; omega
            have hplt := peS_lt (plain_go hil hsn hno)
            rw [← hpk, pe_stop hee] at hplt
            refine wc_region ?_
            refine wl_val (r_move rfl) (ltn rfl) ?_
            refine wl_val (r_move rfl) (ltn rfl) ?_
            refine wl_val (r_move rfl) (ltn rfl) ?_
            refine wl_val (r_build (pl := #[(0, 1), (1, 1), (2, 1)]) (_) Try.underlying27 Try.zeroValue27 (fun w => by kernel_rfl) rfl (rfl)) (ltn rfl) ?_
            refine wl_eff (e_lit_one HL1 Try.underlying24 Try.sizeOf27 Try.zeroValue27 rfl rfl rfl (by decide) (by decide)) (ltn rfl) ?_
            rintro l40 w40 H40
            refine wl_eff (e_append H40.f2 Try.underlying24 (show (Try.prog.info? 27).map (fun i => (i.zero, i.size, i.bytes)) = some (some (.agg #[.int .i64 0, .int .i64 0, .int .i64 0]), 3, 24) by kernel_rfl) rfl rfl rfl ((H40).row_rd) (ones_cons (by first | rfl | assumption) (ones_cons (by first | rfl | assumption) (ones_cons (by first | rfl | assumption) ones_nil))) (by omega) (by omega)) (ltn rfl) ?_
            rintro l41 w41 H41
            have Hd42 := H41.f2.right
            refine wl_val (r_assign rfl) (ltn rfl) ?_
            refine wl_nil ?_
            refine wq_block_normal ?_
            refine wq_round (_, _) (Sub.cons rfl (Sub.cons rfl (Sub.nil _))) (Sub.cons rfl (Sub.cons rfl (Sub.nil _))) (by (try dsimp only); exact by first | exact ⟨ws, ⟨by omega, by omega, by rw [← wordsAt_skip hil hsk]; exact hws⟩, Hd42.f2.f2⟩ | exact ⟨ws ++ [(1, i, i + digS l i + opS l (i + digS l i))], ⟨by omega, by simp; omega, by rw [← hws, wordsAt_op hil hsn hop, List.append_assoc]; rfl⟩, wrow_one Hd42.f2.f2⟩ | exact ⟨ws ++ [(0, i, k)], ⟨by omega, by simp; omega, by rw [← hws, wordsAt_plain hil hsn hno, ← hpk, pe_stop hee, List.append_assoc]; rfl⟩, wrow_one Hd42.f2.f2⟩) ?_
            · (try dsimp only); omega
    · (try simp only [beq_iff_eq, bne_iff_ne, ne_eq, decide_eq_true_eq, decide_eq_false_iff_not, beq_eq_false_iff_ne, bne_eq_false_iff_eq, Bool.not_eq_true', Bool.not_eq_false', Bool.not_eq_eq_eq_not, Bool.not_true, Bool.not_false, gt_iff_lt, ge_iff_le, Int.not_lt, Int.not_le] at h2)
      refine wl_no rfl rfl rfl (ltn rfl) ?_
      refine wl_no rfl rfl rfl (ltn rfl) ?_
      refine wl_no rfl rfl rfl (ltn rfl) ?_
      refine wl_no rfl rfl rfl (ltn rfl) ?_
      refine wl_no rfl rfl rfl (ltn rfl) ?_
      refine wl_val (r_pick_f rfl rfl) (ltn rfl) ?_
      refine wl_nil ?_
      refine wq_seq ?_
      refine wc_cond_f rfl ?_
      refine wc_skip ?_
      refine wq_seq ?_
      refine wc_seq ?_
      have hsn : skipS l i = false := by unfold skipS; rw [decide_eq_false_iff_not]; rintro ⟨qa, qb⟩; have qc := white_class qa; omega
      refine wc_region ?_
      refine wl_val (r_move rfl) (ltn rfl) ?_
      refine wl_val (r_assign rfl) (ltn rfl) ?_
      refine wl_nil ?_
      refine wq_seq ?_
      refine wc_seq ?_
      refine wc_region ?_
      refine wl_val (r_move rfl) (ltn rfl) ?_
      refine wl_val (r_move rfl) (ltn rfl) ?_
      refine wl_val (r_move rfl) (ltn rfl) ?_
      refine wl_eff (e_call (r_call rfl Try.func28 rfl rfl) (digits_ret H3 (fun W HW => hv _ (HW.right.right)) (fun W HW => (HW.f2).row_rd) (by omega) (by omega))) (ltn rfl) ?_
      rintro _ w43 ⟨rfl, H43⟩
      refine wl_val (r_assign rfl) (ltn rfl) ?_
      refine wl_nil ?_
      refine wq_seq ?_
      refine wc_seq ?_
      refine wc_seq ?_
      refine wc_region ?_
      refine wl_val (r_move rfl) (ltn rfl) ?_
      refine wl_val (r_move rfl) (ltn rfl) ?_
      refine wl_val (r_as (r_add rfl rfl (by omega)) (show Value.int .i64 ((i : Int) + (digS l i : Nat)) = .int .i64 ((i + digS l i : Nat) : Int) by rw [Int.natCast_add])) (ltn rfl) ?_
      refine wl_val (r_move rfl) (ltn rfl) ?_
      refine wl_val (r_len Try.underlying22 rfl) (ltn rfl) ?_
      refine wl_val (r_lss rfl rfl) (ltn rfl) ?_
      refine wl_split rfl (ltn rfl) (fun h19 => ?_) (fun h19 => ?_)
      · (try simp only [beq_iff_eq, bne_iff_ne, ne_eq, decide_eq_true_eq, decide_eq_false_iff_not, beq_eq_false_iff_ne, bne_eq_false_iff_eq, Bool.not_eq_true', Bool.not_eq_false', Bool.not_eq_eq_eq_not, Bool.not_true, Bool.not_false, gt_iff_lt, ge_iff_le, Int.not_lt, Int.not_le] at h19)
        refine wl_yes rfl rfl ?_
        refine wl_val (r_move rfl) (ltn rfl) ?_
        refine wl_yes rfl rfl ?_
        refine wl_val (r_move rfl) (ltn rfl) ?_
        refine wl_yes rfl rfl ?_
        refine wl_val (r_move rfl) (ltn rfl) ?_
        refine wl_yes rfl rfl ?_
        refine wl_val (r_as (r_add rfl rfl (by omega)) (show Value.int .i64 ((i : Int) + (digS l i : Nat)) = .int .i64 ((i + digS l i : Nat) : Int) by rw [Int.natCast_add])) (ltn rfl) ?_
        refine wl_yes rfl rfl ?_
        obtain ⟨bu1, ou1, cu1, eu1⟩ := RdI.posV ((H43.f2).row_rd) (by omega)
        cases eu1
        refine wl_val (r_index Try.underlying47 Try.sizeOf3 rfl rfl (by omega)) (ltn rfl) ?_
        refine wl_yes rfl rfl ?_
        refine wl_val (r_as (r_load (plain_of Try.underlying3 rfl) rfl (by first | exact RdI.at1n ((H43.f2).row_rd) (by omega) | exact RdI.at0 ((H43.f2).row_rd) (by omega) | exact RdI.at1 ((H43.f2).row_rd) (by omega))) (show Value.int .i64 ((statesS l).getD (i + digS l i) 0) = .int .i64 (quoS l (i + digS l i)) by rw [statesS_at (by omega)])) (ltn rfl) ?_
        refine wl_yes rfl rfl ?_
        refine wl_val (r_eql rfl rfl) (ltn rfl) ?_
        refine wl_val (r_pick_t rfl rfl) (ltn rfl) ?_
        refine wl_split rfl (ltn rfl) (fun h20 => ?_) (fun h20 => ?_)
        · (try simp only [beq_iff_eq, bne_iff_ne, ne_eq, decide_eq_true_eq, decide_eq_false_iff_not, beq_eq_false_iff_ne, bne_eq_false_iff_eq, Bool.not_eq_true', Bool.not_eq_false', Bool.not_eq_eq_eq_not, Bool.not_true, Bool.not_false, gt_iff_lt, ge_iff_le, Int.not_lt, Int.not_le] at h20)
          refine wl_yes rfl rfl ?_
          refine wl_val (r_move rfl) (ltn rfl) ?_
          refine wl_yes rfl rfl ?_
          refine wl_val (r_move rfl) (ltn rfl) ?_
          refine wl_yes rfl rfl ?_
          refine wl_val (r_move rfl) (ltn rfl) ?_
          refine wl_yes rfl rfl ?_
          refine wl_val (r_as (r_add rfl rfl (by omega)) (show Value.int .i64 ((i : Int) + (digS l i : Nat)) = .int .i64 ((i + digS l i : Nat) : Int) by rw [Int.natCast_add])) (ltn rfl) ?_
          refine wl_yes rfl rfl ?_
          refine wl_val (r_index Try.underlying22 Try.sizeOf21 rfl rfl (by omega)) (ltn rfl) ?_
          refine wl_yes rfl rfl ?_
          refine wl_val (r_load (plain_of Try.underlying21 rfl) rfl (by first | exact RdI.at1n (hv _ (H43.right.right)) (by omega) | exact RdI.at0 (hv _ (H43.right.right)) (by omega) | exact RdI.at1 (hv _ (H43.right.right)) (by omega))) (ltn rfl) ?_
          refine wl_yes rfl rfl ?_
          refine wl_eff (e_call (r_call rfl Try.func29 rfl rfl) (oper_ret H43 (runs_at hl (by omega)))) (ltn rfl) ?_
          rintro _ w44 ⟨rfl, H44⟩
          refine wl_val (r_pick_t rfl rfl) (ltn rfl) ?_
          refine wl_nil ?_
          refine wq_seq ?_
          refine wc_cond rfl (fun h21 => ?_) (fun h21 => ?_)
          · (try simp only [beq_iff_eq, bne_iff_ne, ne_eq, decide_eq_true_eq, decide_eq_false_iff_not, beq_eq_false_iff_ne, bne_eq_false_iff_eq, Bool.not_eq_true', Bool.not_eq_false', Bool.not_eq_eq_eq_not, Bool.not_true, Bool.not_false, gt_iff_lt, ge_iff_le, Int.not_lt, Int.not_le] at h21)
            
            refine wc_seq ?_
            have hop : isOp l i (digS l i) = true := by unfold isOp; rw [decide_eq_true_eq]; exact ⟨by omega, by omega, by assumption⟩
            have hol := opS_le (l := l) (i := i + digS l i) (by omega)
            have hopp := opS_pos l (i + digS l i)
            refine wc_region ?_
            refine wl_val (r_move rfl) (ltn rfl) ?_
            refine wl_val (r_move rfl) (ltn rfl) ?_
            refine wl_val (r_move rfl) (ltn rfl) ?_
            refine wl_val (r_move rfl) (ltn rfl) ?_
            refine wl_val (r_move rfl) (ltn rfl) ?_
            refine wl_val (r_move rfl) (ltn rfl) ?_
            refine wl_val (r_as (r_add rfl rfl (by omega)) (show Value.int .i64 ((i : Int) + (digS l i : Nat)) = .int .i64 ((i + digS l i : Nat) : Int) by rw [Int.natCast_add])) (ltn rfl) ?_
            refine wl_eff (e_call (r_call rfl Try.func30 rfl rfl) (operator_ret H44 (fun W HW => hv _ (HW.right.right)) (fun W HW => (HW.f2).row_rd) (by omega) (by omega))) (ltn rfl) ?_
            rintro _ w45 ⟨rfl, H45⟩
            refine wl_val (r_add rfl rfl (by omega)) (ltn rfl) ?_
            refine wl_val (r_as (r_add rfl rfl (by omega)) (show Value.int .i64 ((i : Int) + ((digS l i : Nat) + (opS l (i + digS l i) : Nat))) = .int .i64 ((i + digS l i + opS l (i + digS l i) : Nat) : Int) by rw [Int.natCast_add, Int.natCast_add, Int.add_assoc])) (ltn rfl) ?_
            refine wl_val (r_assign rfl) (ltn rfl) ?_
            refine wl_nil ?_
            refine wq_seq ?_
            refine wc_seq ?_
            refine wc_region ?_
            refine wl_val (r_move rfl) (ltn rfl) ?_
            refine wl_val (r_move rfl) (ltn rfl) ?_
            refine wl_val (r_move rfl) (ltn rfl) ?_
            refine wl_val (r_build (pl := #[(0, 1), (1, 1), (2, 1)]) (_) Try.underlying27 Try.zeroValue27 (fun w => by kernel_rfl) rfl (rfl)) (ltn rfl) ?_
            refine wl_eff (e_lit_one H45 Try.underlying24 Try.sizeOf27 Try.zeroValue27 rfl rfl rfl (by decide) (by decide)) (ltn rfl) ?_
            rintro l46 w46 H46
            refine wl_eff (e_append H46.f2 Try.underlying24 (show (Try.prog.info? 27).map (fun i => (i.zero, i.size, i.bytes)) = some (some (.agg #[.int .i64 0, .int .i64 0, .int .i64 0]), 3, 24) by kernel_rfl) rfl rfl rfl ((H46).row_rd) (ones_cons (by first | rfl | assumption) (ones_cons (by first | rfl | assumption) (ones_cons (by first | rfl | assumption) ones_nil))) (by omega) (by omega)) (ltn rfl) ?_
            rintro l47 w47 H47
            have Hd48 := H47.f2.right
            refine wl_val (r_assign rfl) (ltn rfl) ?_
            refine wl_nil ?_
            refine wq_seq ?_
            refine wc_exit ?_
            refine wq_then_exit ?_
            refine wq_block_hit ?_
            refine wq_round (_, _) (Sub.cons rfl (Sub.cons rfl (Sub.nil _))) (Sub.cons rfl (Sub.cons rfl (Sub.nil _))) (by (try dsimp only); exact by first | exact ⟨ws, ⟨by omega, by omega, by rw [← wordsAt_skip hil hsk]; exact hws⟩, Hd48.f2.f2⟩ | exact ⟨ws ++ [(1, i, i + digS l i + opS l (i + digS l i))], ⟨by omega, by simp; omega, by rw [← hws, wordsAt_op hil hsn hop, List.append_assoc]; rfl⟩, wrow_one Hd48.f2.f2⟩ | exact ⟨ws ++ [(0, i, k)], ⟨by omega, by simp; omega, by rw [← hws, wordsAt_plain hil hsn hno, ← hpk, pe_stop hee, List.append_assoc]; rfl⟩, wrow_one Hd48.f2.f2⟩) ?_
            · (try dsimp only); omega
          · (try simp only [beq_iff_eq, bne_iff_ne, ne_eq, decide_eq_true_eq, decide_eq_false_iff_not, beq_eq_false_iff_ne, bne_eq_false_iff_eq, Bool.not_eq_true', Bool.not_eq_false', Bool.not_eq_eq_eq_not, Bool.not_true, Bool.not_false, gt_iff_lt, ge_iff_le, Int.not_lt, Int.not_le] at h21)
            
            refine wc_skip ?_
            refine wq_seq ?_
            refine wc_seq ?_
            refine wc_block ?_
            have hno : isOp l i (digS l i) = false := by unfold isOp; rw [decide_eq_false_iff_not]; rintro ⟨qa, qb, qc⟩; first | omega | simp_all
            refine wc_loop [(0, _), (3, _), (4, _), (6, _), (21, _), (22, _), (23, _), (24, _), (25, _), (41, _), (42, _), (43, _), (44, _), (45, _), (46, _), (47, _), (50, _), (51, _), (52, _), (53, _), (54, _), (55, _), (56, _)] (fun (k : Nat) => [(5, .int .i64 (k : Int))]) (fun (k : Nat) W => (i ≤ k ∧ k ≤ l.length ∧ peS l k = peS l i) ∧ Holds w0 W (Row 27 3 u ws.length (ws.flatMap wdE) • RowI 3 .i64 (.slice (some ⟨bu1, ou1, none⟩) (stL l) cu1) (statesS l) • F)) (fun (k : Nat) => l.length - k) (i) (Sub.cons rfl (Sub.cons rfl (Sub.cons rfl (Sub.cons rfl (Sub.cons rfl (Sub.cons rfl (Sub.cons rfl (Sub.cons rfl (Sub.cons rfl (Sub.cons rfl (Sub.cons rfl (Sub.cons rfl (Sub.cons rfl (Sub.cons rfl (Sub.cons rfl (Sub.cons rfl (Sub.cons rfl (Sub.cons rfl (Sub.cons rfl (Sub.cons rfl (Sub.cons rfl (Sub.cons rfl (Sub.cons rfl (Sub.nil _)))))))))))))))))))))))) (Sub.cons rfl (Sub.nil _)) ⟨⟨by omega, by omega, rfl⟩, H44.f2.f2⟩ ?_
            rintro k w49 ⟨⟨hk, hkl, hpk⟩, HL1⟩
            dsimp only [List.cons_append, List.nil_append]
            refine wc_seq ?_
            refine wc_seq ?_
            refine wc_region ?_
            refine wl_val (r_move rfl) (ltn rfl) ?_
            refine wl_val (r_move rfl) (ltn rfl) ?_
            refine wl_val (r_len Try.underlying22 rfl) (ltn rfl) ?_
            refine wl_val (r_lss rfl rfl) (ltn rfl) ?_
            refine wl_split rfl (ltn rfl) (fun h22 => ?_) (fun h22 => ?_)
            · (try simp only [beq_iff_eq, bne_iff_ne, ne_eq, decide_eq_true_eq, decide_eq_false_iff_not, beq_eq_false_iff_ne, bne_eq_false_iff_eq, Bool.not_eq_true', Bool.not_eq_false', Bool.not_eq_eq_eq_not, Bool.not_true, Bool.not_false, gt_iff_lt, ge_iff_le, Int.not_lt, Int.not_le] at h22)
              refine wl_yes rfl rfl ?_
              refine wl_val (r_move rfl) (ltn rfl) ?_
              refine wl_yes rfl rfl ?_
              refine wl_val (r_move rfl) (ltn rfl) ?_
              refine wl_yes rfl rfl ?_
              obtain ⟨bu1, ou1, cu1, eu1⟩ := RdI.posV ((HL1.f2).row_rd) (by omega)
              cases eu1
              refine wl_val (r_index Try.underlying47 Try.sizeOf3 rfl rfl (by omega)) (ltn rfl) ?_
              refine wl_yes rfl rfl ?_
              refine wl_val (r_as (r_load (plain_of Try.underlying3 rfl) rfl (by first | exact RdI.at1n ((HL1.f2).row_rd) (by omega) | exact RdI.at0 ((HL1.f2).row_rd) (by omega) | exact RdI.at1 ((HL1.f2).row_rd) (by omega))) (show Value.int .i64 ((statesS l).getD k 0) = .int .i64 (quoS l k) by rw [statesS_at (by omega)])) (ltn rfl) ?_
              refine wl_yes rfl rfl ?_
              refine wl_val (r_eql rfl rfl) (ltn rfl) ?_
              refine wl_yes rfl rfl ?_
              refine wl_split rfl (ltn rfl) (fun h23 => ?_) (fun h23 => ?_)
              · (try simp only [beq_iff_eq, bne_iff_ne, ne_eq, decide_eq_true_eq, decide_eq_false_iff_not, beq_eq_false_iff_ne, bne_eq_false_iff_eq, Bool.not_eq_true', Bool.not_eq_false', Bool.not_eq_eq_eq_not, Bool.not_true, Bool.not_false, gt_iff_lt, ge_iff_le, Int.not_lt, Int.not_le] at h23)
                refine wl_yes rfl rfl ?_
                refine wl_val (r_move rfl) (ltn rfl) ?_
                refine wl_yes rfl rfl ?_
                refine wl_val (r_move rfl) (ltn rfl) ?_
                refine wl_yes rfl rfl ?_
                refine wl_val (r_index Try.underlying22 Try.sizeOf21 rfl rfl (by omega)) (ltn rfl) ?_
                refine wl_yes rfl rfl ?_
                refine wl_val (r_load (plain_of Try.underlying21 rfl) rfl (by first | exact RdI.at1n (hv _ (HL1.right.right)) (by omega) | exact RdI.at0 (hv _ (HL1.right.right)) (by omega) | exact RdI.at1 (hv _ (HL1.right.right)) (by omega))) (ltn rfl) ?_
                refine wl_yes rfl rfl ?_
                refine wl_eff (e_call (r_call rfl Try.func27 rfl rfl) (class_ret HL1 (runs_at hl (by omega)))) (ltn rfl) ?_
                rintro _ w50 ⟨rfl, H50⟩
                refine wl_yes rfl rfl ?_
                refine wl_val (r_neq rfl rfl) (ltn rfl) ?_
                refine wl_yes rfl rfl ?_
                refine wl_val (r_pick_t rfl rfl) (ltn rfl) ?_
                refine wl_yes rfl rfl ?_
                refine wl_val (r_not rfl) (ltn rfl) ?_
                refine wl_val (r_pick_t rfl rfl) (ltn rfl) ?_
                refine wl_nil ?_
                refine wq_seq ?_
                refine wc_cond rfl (fun h24 => ?_) (fun h24 => ?_)
                · (try simp only [beq_iff_eq, bne_iff_ne, ne_eq, decide_eq_true_eq, decide_eq_false_iff_not, beq_eq_false_iff_ne, bne_eq_false_iff_eq, Bool.not_eq_true', Bool.not_eq_false', Bool.not_eq_eq_eq_not, Bool.not_true, Bool.not_false, gt_iff_lt, ge_iff_le, Int.not_lt, Int.not_le] at h24)
                  
                  refine wc_skip ?_
                  refine wq_seq ?_
                  refine wc_block ?_
                  have hef : endsS l k = false := by unfold endsS; rw [decide_eq_false_iff_not]; rintro (q | ⟨qa, qb⟩) <;> omega
                  refine wc_region ?_
                  refine wl_val (r_move rfl) (ltn rfl) ?_
                  refine wl_val (r_as (r_add rfl rfl (by omega)) (show Value.int .i64 ((k : Int) + 1) = .int .i64 ((k + 1 : Nat) : Int) by rw [Int.natCast_add]; rfl)) (ltn rfl) ?_
                  refine wl_val (r_assign rfl) (ltn rfl) ?_
                  refine wl_nil ?_
                  refine wq_block_normal ?_
                  refine wq_round (_) (Sub.cons rfl (Sub.nil _)) (Sub.cons rfl (Sub.cons rfl (Sub.cons rfl (Sub.cons rfl (Sub.cons rfl (Sub.cons rfl (Sub.cons rfl (Sub.cons rfl (Sub.cons rfl (Sub.cons rfl (Sub.cons rfl (Sub.cons rfl (Sub.cons rfl (Sub.cons rfl (Sub.cons rfl (Sub.cons rfl (Sub.cons rfl (Sub.cons rfl (Sub.cons rfl (Sub.cons rfl (Sub.cons rfl (Sub.cons rfl (Sub.cons rfl (Sub.nil _)))))))))))))))))))))))) (by (try dsimp only); exact ⟨⟨by omega, by omega, peS_mono hef hpk⟩, H50.f2.f2⟩) ?_
                  · (try dsimp only); omega
                · (try simp only [beq_iff_eq, bne_iff_ne, ne_eq, decide_eq_true_eq, decide_eq_false_iff_not, beq_eq_false_iff_ne, bne_eq_false_iff_eq, Bool.not_eq_true', Bool.not_eq_false', Bool.not_eq_eq_eq_not, Bool.not_true, Bool.not_false, gt_iff_lt, ge_iff_le, Int.not_lt, Int.not_le] at h24)
                  have hcz : classS (l.getD k 0) ≠ 0 ∧ quoS l k = 0 := by first | exact ⟨by simpa using h24, by omega⟩ | (exfalso; simp at h24)
                  refine wc_exit ?_
                  refine wq_then_exit ?_
                  refine wq_then_exit ?_
                  refine wq_block_hit ?_
                  refine wq_seq ?_
                  have hee : endsS l k = true := by unfold endsS; rw [decide_eq_true_eq]; omega
                  have hplt := peS_lt (plain_go hil hsn hno)
                  rw [← hpk, pe_stop hee] at hplt
                  refine wc_region ?_
                  refine wl_val (r_move rfl) (ltn rfl) ?_
                  refine wl_val (r_move rfl) (ltn rfl) ?_
                  refine wl_val (r_move rfl) (ltn rfl) ?_
                  refine wl_val (r_build (pl := #[(0, 1), (1, 1), (2, 1)]) (_) Try.underlying27 Try.zeroValue27 (fun w => by kernel_rfl) rfl (rfl)) (ltn rfl) ?_
                  refine wl_eff (e_lit_one H50 Try.underlying24 Try.sizeOf27 Try.zeroValue27 rfl rfl rfl (by decide) (by decide)) (ltn rfl) ?_
                  rintro l51 w51 H51
                  refine wl_eff (e_append H51.f2 Try.underlying24 (show (Try.prog.info? 27).map (fun i => (i.zero, i.size, i.bytes)) = some (some (.agg #[.int .i64 0, .int .i64 0, .int .i64 0]), 3, 24) by kernel_rfl) rfl rfl rfl ((H51).row_rd) (ones_cons (by first | rfl | assumption) (ones_cons (by first | rfl | assumption) (ones_cons (by first | rfl | assumption) ones_nil))) (by omega) (by omega)) (ltn rfl) ?_
                  rintro l52 w52 H52
                  have Hd53 := H52.f2.right
                  refine wl_val (r_assign rfl) (ltn rfl) ?_
                  refine wl_nil ?_
                  refine wq_block_normal ?_
                  refine wq_round (_, _) (Sub.cons rfl (Sub.cons rfl (Sub.nil _))) (Sub.cons rfl (Sub.cons rfl (Sub.nil _))) (by (try dsimp only); exact by first | exact ⟨ws, ⟨by omega, by omega, by rw [← wordsAt_skip hil hsk]; exact hws⟩, Hd53.f2.f2⟩ | exact ⟨ws ++ [(1, i, i + digS l i + opS l (i + digS l i))], ⟨by omega, by simp; omega, by rw [← hws, wordsAt_op hil hsn hop, List.append_assoc]; rfl⟩, wrow_one Hd53.f2.f2⟩ | exact ⟨ws ++ [(0, i, k)], ⟨by omega, by simp; omega, by rw [← hws, wordsAt_plain hil hsn hno, ← hpk, pe_stop hee, List.append_assoc]; rfl⟩, wrow_one Hd53.f2.f2⟩) ?_
                  · (try dsimp only); omega
              · (try simp only [beq_iff_eq, bne_iff_ne, ne_eq, decide_eq_true_eq, decide_eq_false_iff_not, beq_eq_false_iff_ne, bne_eq_false_iff_eq, Bool.not_eq_true', Bool.not_eq_false', Bool.not_eq_eq_eq_not, Bool.not_true, Bool.not_false, gt_iff_lt, ge_iff_le, Int.not_lt, Int.not_le] at h23)
                refine wl_no rfl rfl rfl (ltn rfl) ?_
                refine wl_no rfl rfl rfl (ltn rfl) ?_
                refine wl_no rfl rfl rfl (ltn rfl) ?_
                refine wl_no rfl rfl rfl (ltn rfl) ?_
                refine wl_no rfl rfl rfl (ltn rfl) ?_
                refine wl_no rfl rfl rfl (ltn rfl) ?_
                refine wl_yes rfl rfl ?_
                refine wl_val (r_pick_f rfl rfl) (ltn rfl) ?_
                refine wl_yes rfl rfl ?_
                refine wl_val (r_not rfl) (ltn rfl) ?_
                refine wl_val (r_pick_t rfl rfl) (ltn rfl) ?_
                refine wl_nil ?_
                refine wq_seq ?_
                refine wc_cond rfl (fun h25 => ?_) (fun h25 => ?_)
                · (try simp only [beq_iff_eq, bne_iff_ne, ne_eq, decide_eq_true_eq, decide_eq_false_iff_not, beq_eq_false_iff_ne, bne_eq_false_iff_eq, Bool.not_eq_true', Bool.not_eq_false', Bool.not_eq_eq_eq_not, Bool.not_true, Bool.not_false, gt_iff_lt, ge_iff_le, Int.not_lt, Int.not_le] at h25)
                  
                  refine wc_skip ?_
                  refine wq_seq ?_
                  refine wc_block ?_
                  have hef : endsS l k = false := by unfold endsS; rw [decide_eq_false_iff_not]; rintro (q | ⟨qa, qb⟩) <;> omega
                  refine wc_region ?_
                  refine wl_val (r_move rfl) (ltn rfl) ?_
                  refine wl_val (r_as (r_add rfl rfl (by omega)) (show Value.int .i64 ((k : Int) + 1) = .int .i64 ((k + 1 : Nat) : Int) by rw [Int.natCast_add]; rfl)) (ltn rfl) ?_
                  refine wl_val (r_assign rfl) (ltn rfl) ?_
                  refine wl_nil ?_
                  refine wq_block_normal ?_
                  refine wq_round (_) (Sub.cons rfl (Sub.nil _)) (Sub.cons rfl (Sub.cons rfl (Sub.cons rfl (Sub.cons rfl (Sub.cons rfl (Sub.cons rfl (Sub.cons rfl (Sub.cons rfl (Sub.cons rfl (Sub.cons rfl (Sub.cons rfl (Sub.cons rfl (Sub.cons rfl (Sub.cons rfl (Sub.cons rfl (Sub.cons rfl (Sub.cons rfl (Sub.cons rfl (Sub.cons rfl (Sub.cons rfl (Sub.cons rfl (Sub.cons rfl (Sub.cons rfl (Sub.nil _)))))))))))))))))))))))) (by (try dsimp only); exact ⟨⟨by omega, by omega, peS_mono hef hpk⟩, HL1.f2.f2⟩) ?_
                  · (try dsimp only); omega
                · (try simp only [beq_iff_eq, bne_iff_ne, ne_eq, decide_eq_true_eq, decide_eq_false_iff_not, beq_eq_false_iff_ne, bne_eq_false_iff_eq, Bool.not_eq_true', Bool.not_eq_false', Bool.not_eq_eq_eq_not, Bool.not_true, Bool.not_false, gt_iff_lt, ge_iff_le, Int.not_lt, Int.not_le] at h25)
                  have hcz : classS (l.getD k 0) ≠ 0 ∧ quoS l k = 0 := by first | exact ⟨by simpa using h25, by omega⟩ | (exfalso; simp at h25)
                  refine wc_exit ?_
                  refine wq_then_exit ?_
                  refine wq_then_exit ?_
                  refine wq_block_hit ?_
                  refine wq_seq ?_
                  have hee : endsS l k = true := by unfold endsS; rw [decide_eq_true_eq]; omega
                  have hplt := peS_lt (plain_go hil hsn hno)
                  rw [← hpk, pe_stop hee] at hplt
                  refine wc_region ?_
                  refine wl_val (r_move rfl) (ltn rfl) ?_
                  refine wl_val (r_move rfl) (ltn rfl) ?_
                  refine wl_val (r_move rfl) (ltn rfl) ?_
                  refine wl_val (r_build (pl := #[(0, 1), (1, 1), (2, 1)]) (_) Try.underlying27 Try.zeroValue27 (fun w => by kernel_rfl) rfl (rfl)) (ltn rfl) ?_
                  refine wl_eff (e_lit_one HL1 Try.underlying24 Try.sizeOf27 Try.zeroValue27 rfl rfl rfl (by decide) (by decide)) (ltn rfl) ?_
                  rintro l54 w54 H54
                  refine wl_eff (e_append H54.f2 Try.underlying24 (show (Try.prog.info? 27).map (fun i => (i.zero, i.size, i.bytes)) = some (some (.agg #[.int .i64 0, .int .i64 0, .int .i64 0]), 3, 24) by kernel_rfl) rfl rfl rfl ((H54).row_rd) (ones_cons (by first | rfl | assumption) (ones_cons (by first | rfl | assumption) (ones_cons (by first | rfl | assumption) ones_nil))) (by omega) (by omega)) (ltn rfl) ?_
                  rintro l55 w55 H55
                  have Hd56 := H55.f2.right
                  refine wl_val (r_assign rfl) (ltn rfl) ?_
                  refine wl_nil ?_
                  refine wq_block_normal ?_
                  refine wq_round (_, _) (Sub.cons rfl (Sub.cons rfl (Sub.nil _))) (Sub.cons rfl (Sub.cons rfl (Sub.nil _))) (by (try dsimp only); exact by first | exact ⟨ws, ⟨by omega, by omega, by rw [← wordsAt_skip hil hsk]; exact hws⟩, Hd56.f2.f2⟩ | exact ⟨ws ++ [(1, i, i + digS l i + opS l (i + digS l i))], ⟨by omega, by simp; omega, by rw [← hws, wordsAt_op hil hsn hop, List.append_assoc]; rfl⟩, wrow_one Hd56.f2.f2⟩ | exact ⟨ws ++ [(0, i, k)], ⟨by omega, by simp; omega, by rw [← hws, wordsAt_plain hil hsn hno, ← hpk, pe_stop hee, List.append_assoc]; rfl⟩, wrow_one Hd56.f2.f2⟩) ?_
                  · (try dsimp only); omega
            · (try simp only [beq_iff_eq, bne_iff_ne, ne_eq, decide_eq_true_eq, decide_eq_false_iff_not, beq_eq_false_iff_ne, bne_eq_false_iff_eq, Bool.not_eq_true', Bool.not_eq_false', Bool.not_eq_eq_eq_not, Bool.not_true, Bool.not_false, gt_iff_lt, ge_iff_le, Int.not_lt, Int.not_le] at h22)
              refine wl_no rfl rfl rfl (ltn rfl) ?_
              refine wl_no rfl rfl rfl (ltn rfl) ?_
              refine wl_no rfl rfl rfl (ltn rfl) ?_
              refine wl_no rfl rfl rfl (ltn rfl) ?_
              refine wl_no rfl rfl rfl (ltn rfl) ?_
              refine wl_no rfl rfl rfl (ltn rfl) ?_
              refine wl_nou rfl rfl (ltn rfl) ?_
              refine wl_nou rfl rfl (ltn rfl) ?_
              refine wl_nou rfl rfl (ltn rfl) ?_
              refine wl_nou rfl rfl (ltn rfl) ?_
              refine wl_nou rfl rfl (ltn rfl) ?_
              refine wl_nou rfl rfl (ltn rfl) ?_
              refine wl_no rfl rfl rfl (ltn rfl) ?_
              refine wl_no rfl rfl rfl (ltn rfl) ?_
              refine wl_val (r_pick_f rfl rfl) (ltn rfl) ?_
              refine wl_nil ?_
              refine wq_seq ?_
              refine wc_cond_f rfl ?_
              refine wc_exit ?_
              refine wq_then_exit ?_
              refine wq_then_exit ?_
              refine wq_block_hit ?_
              refine wq_seq ?_
              have hee : endsS l k = true := by unfold endsS; rw [decide_eq_true_eq]; omega
              have hplt := peS_lt (plain_go hil hsn hno)
              rw [← hpk, pe_stop hee] at hplt
              refine wc_region ?_
              refine wl_val (r_move rfl) (ltn rfl) ?_
              refine wl_val (r_move rfl) (ltn rfl) ?_
              refine wl_val (r_move rfl) (ltn rfl) ?_
              refine wl_val (r_build (pl := #[(0, 1), (1, 1), (2, 1)]) (_) Try.underlying27 Try.zeroValue27 (fun w => by kernel_rfl) rfl (rfl)) (ltn rfl) ?_
              refine wl_eff (e_lit_one HL1 Try.underlying24 Try.sizeOf27 Try.zeroValue27 rfl rfl rfl (by decide) (by decide)) (ltn rfl) ?_
              rintro l57 w57 H57
              refine wl_eff (e_append H57.f2 Try.underlying24 (show (Try.prog.info? 27).map (fun i => (i.zero, i.size, i.bytes)) = some (some (.agg #[.int .i64 0, .int .i64 0, .int .i64 0]), 3, 24) by kernel_rfl) rfl rfl rfl ((H57).row_rd) (ones_cons (by first | rfl | assumption) (ones_cons (by first | rfl | assumption) (ones_cons (by first | rfl | assumption) ones_nil))) (by omega) (by omega)) (ltn rfl) ?_
              rintro l58 w58 H58
              have Hd59 := H58.f2.right
              refine wl_val (r_assign rfl) (ltn rfl) ?_
              refine wl_nil ?_
              refine wq_block_normal ?_
              refine wq_round (_, _) (Sub.cons rfl (Sub.cons rfl (Sub.nil _))) (Sub.cons rfl (Sub.cons rfl (Sub.nil _))) (by (try dsimp only); exact by first | exact ⟨ws, ⟨by omega, by omega, by rw [← wordsAt_skip hil hsk]; exact hws⟩, Hd59.f2.f2⟩ | exact ⟨ws ++ [(1, i, i + digS l i + opS l (i + digS l i))], ⟨by omega, by simp; omega, by rw [← hws, wordsAt_op hil hsn hop, List.append_assoc]; rfl⟩, wrow_one Hd59.f2.f2⟩ | exact ⟨ws ++ [(0, i, k)], ⟨by omega, by simp; omega, by rw [← hws, wordsAt_plain hil hsn hno, ← hpk, pe_stop hee, List.append_assoc]; rfl⟩, wrow_one Hd59.f2.f2⟩) ?_
              · (try dsimp only); omega
        · (try simp only [beq_iff_eq, bne_iff_ne, ne_eq, decide_eq_true_eq, decide_eq_false_iff_not, beq_eq_false_iff_ne, bne_eq_false_iff_eq, Bool.not_eq_true', Bool.not_eq_false', Bool.not_eq_eq_eq_not, Bool.not_true, Bool.not_false, gt_iff_lt, ge_iff_le, Int.not_lt, Int.not_le] at h20)
          refine wl_no rfl rfl rfl (ltn rfl) ?_
          refine wl_no rfl rfl rfl (ltn rfl) ?_
          refine wl_no rfl rfl rfl (ltn rfl) ?_
          refine wl_no rfl rfl rfl (ltn rfl) ?_
          refine wl_no rfl rfl rfl (ltn rfl) ?_
          refine wl_no rfl rfl rfl (ltn rfl) ?_
          refine wl_no rfl rfl rfl (ltn rfl) ?_
          refine wl_val (r_pick_f rfl rfl) (ltn rfl) ?_
          refine wl_nil ?_
          refine wq_seq ?_
          refine wc_cond_f rfl ?_
          refine wc_skip ?_
          refine wq_seq ?_
          refine wc_seq ?_
          refine wc_block ?_
          have hno : isOp l i (digS l i) = false := by unfold isOp; rw [decide_eq_false_iff_not]; rintro ⟨qa, qb, qc⟩; first | omega | simp_all
          refine wc_loop [(0, _), (3, _), (4, _), (6, _), (21, _), (22, _), (23, _), (24, _), (25, _), (41, _), (42, _), (43, _), (44, _), (45, _), (46, _), (47, _), (50, _), (51, _), (52, _), (53, _), (54, _), (55, _), (56, _)] (fun (k : Nat) => [(5, .int .i64 (k : Int))]) (fun (k : Nat) W => (i ≤ k ∧ k ≤ l.length ∧ peS l k = peS l i) ∧ Holds w0 W (Row 27 3 u ws.length (ws.flatMap wdE) • RowI 3 .i64 (.slice (some ⟨bu1, ou1, none⟩) (stL l) cu1) (statesS l) • F)) (fun (k : Nat) => l.length - k) (i) (Sub.cons rfl (Sub.cons rfl (Sub.cons rfl (Sub.cons rfl (Sub.cons rfl (Sub.cons rfl (Sub.cons rfl (Sub.cons rfl (Sub.cons rfl (Sub.cons rfl (Sub.cons rfl (Sub.cons rfl (Sub.cons rfl (Sub.cons rfl (Sub.cons rfl (Sub.cons rfl (Sub.cons rfl (Sub.cons rfl (Sub.cons rfl (Sub.cons rfl (Sub.cons rfl (Sub.cons rfl (Sub.cons rfl (Sub.nil _)))))))))))))))))))))))) (Sub.cons rfl (Sub.nil _)) ⟨⟨by omega, by omega, rfl⟩, H43.f2.f2⟩ ?_
          rintro k w60 ⟨⟨hk, hkl, hpk⟩, HL1⟩
          dsimp only [List.cons_append, List.nil_append]
          refine wc_seq ?_
          refine wc_seq ?_
          refine wc_region ?_
          refine wl_val (r_move rfl) (ltn rfl) ?_
          refine wl_val (r_move rfl) (ltn rfl) ?_
          refine wl_val (r_len Try.underlying22 rfl) (ltn rfl) ?_
          refine wl_val (r_lss rfl rfl) (ltn rfl) ?_
          refine wl_split rfl (ltn rfl) (fun h26 => ?_) (fun h26 => ?_)
          · (try simp only [beq_iff_eq, bne_iff_ne, ne_eq, decide_eq_true_eq, decide_eq_false_iff_not, beq_eq_false_iff_ne, bne_eq_false_iff_eq, Bool.not_eq_true', Bool.not_eq_false', Bool.not_eq_eq_eq_not, Bool.not_true, Bool.not_false, gt_iff_lt, ge_iff_le, Int.not_lt, Int.not_le] at h26)
            refine wl_yes rfl rfl ?_
            refine wl_val (r_move rfl) (ltn rfl) ?_
            refine wl_yes rfl rfl ?_
            refine wl_val (r_move rfl) (ltn rfl) ?_
            refine wl_yes rfl rfl ?_
            obtain ⟨bu1, ou1, cu1, eu1⟩ := RdI.posV ((HL1.f2).row_rd) (by omega)
            cases eu1
            refine wl_val (r_index Try.underlying47 Try.sizeOf3 rfl rfl (by omega)) (ltn rfl) ?_
            refine wl_yes rfl rfl ?_
            refine wl_val (r_as (r_load (plain_of Try.underlying3 rfl) rfl (by first | exact RdI.at1n ((HL1.f2).row_rd) (by omega) | exact RdI.at0 ((HL1.f2).row_rd) (by omega) | exact RdI.at1 ((HL1.f2).row_rd) (by omega))) (show Value.int .i64 ((statesS l).getD k 0) = .int .i64 (quoS l k) by rw [statesS_at (by omega)])) (ltn rfl) ?_
            refine wl_yes rfl rfl ?_
            refine wl_val (r_eql rfl rfl) (ltn rfl) ?_
            refine wl_yes rfl rfl ?_
            refine wl_split rfl (ltn rfl) (fun h27 => ?_) (fun h27 => ?_)
            · (try simp only [beq_iff_eq, bne_iff_ne, ne_eq, decide_eq_true_eq, decide_eq_false_iff_not, beq_eq_false_iff_ne, bne_eq_false_iff_eq, Bool.not_eq_true', Bool.not_eq_false', Bool.not_eq_eq_eq_not, Bool.not_true, Bool.not_false, gt_iff_lt, ge_iff_le, Int.not_lt, Int.not_le] at h27)
              refine wl_yes rfl rfl ?_
              refine wl_val (r_move rfl) (ltn rfl) ?_
              refine wl_yes rfl rfl ?_
              refine wl_val (r_move rfl) (ltn rfl) ?_
              refine wl_yes rfl rfl ?_
              refine wl_val (r_index Try.underlying22 Try.sizeOf21 rfl rfl (by omega)) (ltn rfl) ?_
              refine wl_yes rfl rfl ?_
              refine wl_val (r_load (plain_of Try.underlying21 rfl) rfl (by first | exact RdI.at1n (hv _ (HL1.right.right)) (by omega) | exact RdI.at0 (hv _ (HL1.right.right)) (by omega) | exact RdI.at1 (hv _ (HL1.right.right)) (by omega))) (ltn rfl) ?_
              refine wl_yes rfl rfl ?_
              refine wl_eff (e_call (r_call rfl Try.func27 rfl rfl) (class_ret HL1 (runs_at hl (by omega)))) (ltn rfl) ?_
              rintro _ w61 ⟨rfl, H61⟩
              refine wl_yes rfl rfl ?_
              refine wl_val (r_neq rfl rfl) (ltn rfl) ?_
              refine wl_yes rfl rfl ?_
              refine wl_val (r_pick_t rfl rfl) (ltn rfl) ?_
              refine wl_yes rfl rfl ?_
              refine wl_val (r_not rfl) (ltn rfl) ?_
              refine wl_val (r_pick_t rfl rfl) (ltn rfl) ?_
              refine wl_nil ?_
              refine wq_seq ?_
              refine wc_cond rfl (fun h28 => ?_) (fun h28 => ?_)
              · (try simp only [beq_iff_eq, bne_iff_ne, ne_eq, decide_eq_true_eq, decide_eq_false_iff_not, beq_eq_false_iff_ne, bne_eq_false_iff_eq, Bool.not_eq_true', Bool.not_eq_false', Bool.not_eq_eq_eq_not, Bool.not_true, Bool.not_false, gt_iff_lt, ge_iff_le, Int.not_lt, Int.not_le] at h28)
                
                refine wc_skip ?_
                refine wq_seq ?_
                refine wc_block ?_
                have hef : endsS l k = false := by unfold endsS; rw [decide_eq_false_iff_not]; rintro (q | ⟨qa, qb⟩) <;> omega
                refine wc_region ?_
                refine wl_val (r_move rfl) (ltn rfl) ?_
                refine wl_val (r_as (r_add rfl rfl (by omega)) (show Value.int .i64 ((k : Int) + 1) = .int .i64 ((k + 1 : Nat) : Int) by rw [Int.natCast_add]; rfl)) (ltn rfl) ?_
                refine wl_val (r_assign rfl) (ltn rfl) ?_
                refine wl_nil ?_
                refine wq_block_normal ?_
                refine wq_round (_) (Sub.cons rfl (Sub.nil _)) (Sub.cons rfl (Sub.cons rfl (Sub.cons rfl (Sub.cons rfl (Sub.cons rfl (Sub.cons rfl (Sub.cons rfl (Sub.cons rfl (Sub.cons rfl (Sub.cons rfl (Sub.cons rfl (Sub.cons rfl (Sub.cons rfl (Sub.cons rfl (Sub.cons rfl (Sub.cons rfl (Sub.cons rfl (Sub.cons rfl (Sub.cons rfl (Sub.cons rfl (Sub.cons rfl (Sub.cons rfl (Sub.cons rfl (Sub.nil _)))))))))))))))))))))))) (by (try dsimp only); exact ⟨⟨by omega, by omega, peS_mono hef hpk⟩, H61.f2.f2⟩) ?_
                · (try dsimp only); omega
              · (try simp only [beq_iff_eq, bne_iff_ne, ne_eq, decide_eq_true_eq, decide_eq_false_iff_not, beq_eq_false_iff_ne, bne_eq_false_iff_eq, Bool.not_eq_true', Bool.not_eq_false', Bool.not_eq_eq_eq_not, Bool.not_true, Bool.not_false, gt_iff_lt, ge_iff_le, Int.not_lt, Int.not_le] at h28)
                have hcz : classS (l.getD k 0) ≠ 0 ∧ quoS l k = 0 := by first | exact ⟨by simpa using h28, by omega⟩ | (exfalso; simp at h28)
                refine wc_exit ?_
                refine wq_then_exit ?_
                refine wq_then_exit ?_
                refine wq_block_hit ?_
                refine wq_seq ?_
                have hee : endsS l k = true := by unfold endsS; rw [decide_eq_true_eq]; omega
                have hplt := peS_lt (plain_go hil hsn hno)
                rw [← hpk, pe_stop hee] at hplt
                refine wc_region ?_
                refine wl_val (r_move rfl) (ltn rfl) ?_
                refine wl_val (r_move rfl) (ltn rfl) ?_
                refine wl_val (r_move rfl) (ltn rfl) ?_
                refine wl_val (r_build (pl := #[(0, 1), (1, 1), (2, 1)]) (_) Try.underlying27 Try.zeroValue27 (fun w => by kernel_rfl) rfl (rfl)) (ltn rfl) ?_
                refine wl_eff (e_lit_one H61 Try.underlying24 Try.sizeOf27 Try.zeroValue27 rfl rfl rfl (by decide) (by decide)) (ltn rfl) ?_
                rintro l62 w62 H62
                refine wl_eff (e_append H62.f2 Try.underlying24 (show (Try.prog.info? 27).map (fun i => (i.zero, i.size, i.bytes)) = some (some (.agg #[.int .i64 0, .int .i64 0, .int .i64 0]), 3, 24) by kernel_rfl) rfl rfl rfl ((H62).row_rd) (ones_cons (by first | rfl | assumption) (ones_cons (by first | rfl | assumption) (ones_cons (by first | rfl | assumption) ones_nil))) (by omega) (by omega)) (ltn rfl) ?_
                rintro l63 w63 H63
                have Hd64 := H63.f2.right
                refine wl_val (r_assign rfl) (ltn rfl) ?_
                refine wl_nil ?_
                refine wq_block_normal ?_
                refine wq_round (_, _) (Sub.cons rfl (Sub.cons rfl (Sub.nil _))) (Sub.cons rfl (Sub.cons rfl (Sub.nil _))) (by (try dsimp only); exact by first | exact ⟨ws, ⟨by omega, by omega, by rw [← wordsAt_skip hil hsk]; exact hws⟩, Hd64.f2.f2⟩ | exact ⟨ws ++ [(1, i, i + digS l i + opS l (i + digS l i))], ⟨by omega, by simp; omega, by rw [← hws, wordsAt_op hil hsn hop, List.append_assoc]; rfl⟩, wrow_one Hd64.f2.f2⟩ | exact ⟨ws ++ [(0, i, k)], ⟨by omega, by simp; omega, by rw [← hws, wordsAt_plain hil hsn hno, ← hpk, pe_stop hee, List.append_assoc]; rfl⟩, wrow_one Hd64.f2.f2⟩) ?_
                · (try dsimp only); omega
            · (try simp only [beq_iff_eq, bne_iff_ne, ne_eq, decide_eq_true_eq, decide_eq_false_iff_not, beq_eq_false_iff_ne, bne_eq_false_iff_eq, Bool.not_eq_true', Bool.not_eq_false', Bool.not_eq_eq_eq_not, Bool.not_true, Bool.not_false, gt_iff_lt, ge_iff_le, Int.not_lt, Int.not_le] at h27)
              refine wl_no rfl rfl rfl (ltn rfl) ?_
              refine wl_no rfl rfl rfl (ltn rfl) ?_
              refine wl_no rfl rfl rfl (ltn rfl) ?_
              refine wl_no rfl rfl rfl (ltn rfl) ?_
              refine wl_no rfl rfl rfl (ltn rfl) ?_
              refine wl_no rfl rfl rfl (ltn rfl) ?_
              refine wl_yes rfl rfl ?_
              refine wl_val (r_pick_f rfl rfl) (ltn rfl) ?_
              refine wl_yes rfl rfl ?_
              refine wl_val (r_not rfl) (ltn rfl) ?_
              refine wl_val (r_pick_t rfl rfl) (ltn rfl) ?_
              refine wl_nil ?_
              refine wq_seq ?_
              refine wc_cond rfl (fun h29 => ?_) (fun h29 => ?_)
              · (try simp only [beq_iff_eq, bne_iff_ne, ne_eq, decide_eq_true_eq, decide_eq_false_iff_not, beq_eq_false_iff_ne, bne_eq_false_iff_eq, Bool.not_eq_true', Bool.not_eq_false', Bool.not_eq_eq_eq_not, Bool.not_true, Bool.not_false, gt_iff_lt, ge_iff_le, Int.not_lt, Int.not_le] at h29)
                
                refine wc_skip ?_
                refine wq_seq ?_
                refine wc_block ?_
                have hef : endsS l k = false := by unfold endsS; rw [decide_eq_false_iff_not]; rintro (q | ⟨qa, qb⟩) <;> omega
                refine wc_region ?_
                refine wl_val (r_move rfl) (ltn rfl) ?_
                refine wl_val (r_as (r_add rfl rfl (by omega)) (show Value.int .i64 ((k : Int) + 1) = .int .i64 ((k + 1 : Nat) : Int) by rw [Int.natCast_add]; rfl)) (ltn rfl) ?_
                refine wl_val (r_assign rfl) (ltn rfl) ?_
                refine wl_nil ?_
                refine wq_block_normal ?_
                refine wq_round (_) (Sub.cons rfl (Sub.nil _)) (Sub.cons rfl (Sub.cons rfl (Sub.cons rfl (Sub.cons rfl (Sub.cons rfl (Sub.cons rfl (Sub.cons rfl (Sub.cons rfl (Sub.cons rfl (Sub.cons rfl (Sub.cons rfl (Sub.cons rfl (Sub.cons rfl (Sub.cons rfl (Sub.cons rfl (Sub.cons rfl (Sub.cons rfl (Sub.cons rfl (Sub.cons rfl (Sub.cons rfl (Sub.cons rfl (Sub.cons rfl (Sub.cons rfl (Sub.nil _)))))))))))))))))))))))) (by (try dsimp only); exact ⟨⟨by omega, by omega, peS_mono hef hpk⟩, HL1.f2.f2⟩) ?_
                · (try dsimp only); omega
              · (try simp only [beq_iff_eq, bne_iff_ne, ne_eq, decide_eq_true_eq, decide_eq_false_iff_not, beq_eq_false_iff_ne, bne_eq_false_iff_eq, Bool.not_eq_true', Bool.not_eq_false', Bool.not_eq_eq_eq_not, Bool.not_true, Bool.not_false, gt_iff_lt, ge_iff_le, Int.not_lt, Int.not_le] at h29)
                have hcz : classS (l.getD k 0) ≠ 0 ∧ quoS l k = 0 := by first | exact ⟨by simpa using h29, by omega⟩ | (exfalso; simp at h29)
                refine wc_exit ?_
                refine wq_then_exit ?_
                refine wq_then_exit ?_
                refine wq_block_hit ?_
                refine wq_seq ?_
                have hee : endsS l k = true := by unfold endsS; rw [decide_eq_true_eq]; omega
                have hplt := peS_lt (plain_go hil hsn hno)
                rw [← hpk, pe_stop hee] at hplt
                refine wc_region ?_
                refine wl_val (r_move rfl) (ltn rfl) ?_
                refine wl_val (r_move rfl) (ltn rfl) ?_
                refine wl_val (r_move rfl) (ltn rfl) ?_
                refine wl_val (r_build (pl := #[(0, 1), (1, 1), (2, 1)]) (_) Try.underlying27 Try.zeroValue27 (fun w => by kernel_rfl) rfl (rfl)) (ltn rfl) ?_
                refine wl_eff (e_lit_one HL1 Try.underlying24 Try.sizeOf27 Try.zeroValue27 rfl rfl rfl (by decide) (by decide)) (ltn rfl) ?_
                rintro l65 w65 H65
                refine wl_eff (e_append H65.f2 Try.underlying24 (show (Try.prog.info? 27).map (fun i => (i.zero, i.size, i.bytes)) = some (some (.agg #[.int .i64 0, .int .i64 0, .int .i64 0]), 3, 24) by kernel_rfl) rfl rfl rfl ((H65).row_rd) (ones_cons (by first | rfl | assumption) (ones_cons (by first | rfl | assumption) (ones_cons (by first | rfl | assumption) ones_nil))) (by omega) (by omega)) (ltn rfl) ?_
                rintro l66 w66 H66
                have Hd67 := H66.f2.right
                refine wl_val (r_assign rfl) (ltn rfl) ?_
                refine wl_nil ?_
                refine wq_block_normal ?_
                refine wq_round (_, _) (Sub.cons rfl (Sub.cons rfl (Sub.nil _))) (Sub.cons rfl (Sub.cons rfl (Sub.nil _))) (by (try dsimp only); exact by first | exact ⟨ws, ⟨by omega, by omega, by rw [← wordsAt_skip hil hsk]; exact hws⟩, Hd67.f2.f2⟩ | exact ⟨ws ++ [(1, i, i + digS l i + opS l (i + digS l i))], ⟨by omega, by simp; omega, by rw [← hws, wordsAt_op hil hsn hop, List.append_assoc]; rfl⟩, wrow_one Hd67.f2.f2⟩ | exact ⟨ws ++ [(0, i, k)], ⟨by omega, by simp; omega, by rw [← hws, wordsAt_plain hil hsn hno, ← hpk, pe_stop hee, List.append_assoc]; rfl⟩, wrow_one Hd67.f2.f2⟩) ?_
                · (try dsimp only); omega
          · (try simp only [beq_iff_eq, bne_iff_ne, ne_eq, decide_eq_true_eq, decide_eq_false_iff_not, beq_eq_false_iff_ne, bne_eq_false_iff_eq, Bool.not_eq_true', Bool.not_eq_false', Bool.not_eq_eq_eq_not, Bool.not_true, Bool.not_false, gt_iff_lt, ge_iff_le, Int.not_lt, Int.not_le] at h26)
            refine wl_no rfl rfl rfl (ltn rfl) ?_
            refine wl_no rfl rfl rfl (ltn rfl) ?_
            refine wl_no rfl rfl rfl (ltn rfl) ?_
            refine wl_no rfl rfl rfl (ltn rfl) ?_
            refine wl_no rfl rfl rfl (ltn rfl) ?_
            refine wl_no rfl rfl rfl (ltn rfl) ?_
            refine wl_nou rfl rfl (ltn rfl) ?_
            refine wl_nou rfl rfl (ltn rfl) ?_
            refine wl_nou rfl rfl (ltn rfl) ?_
            refine wl_nou rfl rfl (ltn rfl) ?_
            refine wl_nou rfl rfl (ltn rfl) ?_
            refine wl_nou rfl rfl (ltn rfl) ?_
            refine wl_no rfl rfl rfl (ltn rfl) ?_
            refine wl_no rfl rfl rfl (ltn rfl) ?_
            refine wl_val (r_pick_f rfl rfl) (ltn rfl) ?_
            refine wl_nil ?_
            refine wq_seq ?_
            refine wc_cond_f rfl ?_
            refine wc_exit ?_
            refine wq_then_exit ?_
            refine wq_then_exit ?_
            refine wq_block_hit ?_
            refine wq_seq ?_
            have hee : endsS l k = true := by unfold endsS; rw [decide_eq_true_eq]; omega
            have hplt := peS_lt (plain_go hil hsn hno)
            rw [← hpk, pe_stop hee] at hplt
            refine wc_region ?_
            refine wl_val (r_move rfl) (ltn rfl) ?_
            refine wl_val (r_move rfl) (ltn rfl) ?_
            refine wl_val (r_move rfl) (ltn rfl) ?_
            refine wl_val (r_build (pl := #[(0, 1), (1, 1), (2, 1)]) (_) Try.underlying27 Try.zeroValue27 (fun w => by kernel_rfl) rfl (rfl)) (ltn rfl) ?_
            refine wl_eff (e_lit_one HL1 Try.underlying24 Try.sizeOf27 Try.zeroValue27 rfl rfl rfl (by decide) (by decide)) (ltn rfl) ?_
            rintro l68 w68 H68
            refine wl_eff (e_append H68.f2 Try.underlying24 (show (Try.prog.info? 27).map (fun i => (i.zero, i.size, i.bytes)) = some (some (.agg #[.int .i64 0, .int .i64 0, .int .i64 0]), 3, 24) by kernel_rfl) rfl rfl rfl ((H68).row_rd) (ones_cons (by first | rfl | assumption) (ones_cons (by first | rfl | assumption) (ones_cons (by first | rfl | assumption) ones_nil))) (by omega) (by omega)) (ltn rfl) ?_
            rintro l69 w69 H69
            have Hd70 := H69.f2.right
            refine wl_val (r_assign rfl) (ltn rfl) ?_
            refine wl_nil ?_
            refine wq_block_normal ?_
            refine wq_round (_, _) (Sub.cons rfl (Sub.cons rfl (Sub.nil _))) (Sub.cons rfl (Sub.cons rfl (Sub.nil _))) (by (try dsimp only); exact by first | exact ⟨ws, ⟨by omega, by omega, by rw [← wordsAt_skip hil hsk]; exact hws⟩, Hd70.f2.f2⟩ | exact ⟨ws ++ [(1, i, i + digS l i + opS l (i + digS l i))], ⟨by omega, by simp; omega, by rw [← hws, wordsAt_op hil hsn hop, List.append_assoc]; rfl⟩, wrow_one Hd70.f2.f2⟩ | exact ⟨ws ++ [(0, i, k)], ⟨by omega, by simp; omega, by rw [← hws, wordsAt_plain hil hsn hno, ← hpk, pe_stop hee, List.append_assoc]; rfl⟩, wrow_one Hd70.f2.f2⟩) ?_
            · (try dsimp only); omega
      · (try simp only [beq_iff_eq, bne_iff_ne, ne_eq, decide_eq_true_eq, decide_eq_false_iff_not, beq_eq_false_iff_ne, bne_eq_false_iff_eq, Bool.not_eq_true', Bool.not_eq_false', Bool.not_eq_eq_eq_not, Bool.not_true, Bool.not_false, gt_iff_lt, ge_iff_le, Int.not_lt, Int.not_le] at h19)
        refine wl_no rfl rfl rfl (ltn rfl) ?_
        refine wl_no rfl rfl rfl (ltn rfl) ?_
        refine wl_no rfl rfl rfl (ltn rfl) ?_
        refine wl_no rfl rfl rfl (ltn rfl) ?_
        refine wl_no rfl rfl rfl (ltn rfl) ?_
        refine wl_no rfl rfl rfl (ltn rfl) ?_
        refine wl_no rfl rfl rfl (ltn rfl) ?_
        refine wl_val (r_pick_f rfl rfl) (ltn rfl) ?_
        refine wl_val (r_move rfl) (ltn rfl) ?_
        refine wl_no rfl rfl rfl (ltn rfl) ?_
        refine wl_no rfl rfl rfl (ltn rfl) ?_
        refine wl_no rfl rfl rfl (ltn rfl) ?_
        refine wl_no rfl rfl rfl (ltn rfl) ?_
        refine wl_no rfl rfl rfl (ltn rfl) ?_
        refine wl_no rfl rfl rfl (ltn rfl) ?_
        refine wl_no rfl rfl rfl (ltn rfl) ?_
        refine wl_val (r_pick_f rfl rfl) (ltn rfl) ?_
        refine wl_nil ?_
        refine wq_seq ?_
        refine wc_cond_f rfl ?_
        refine wc_skip ?_
        refine wq_seq ?_
        refine wc_seq ?_
        refine wc_block ?_
        have hno : isOp l i (digS l i) = false := by unfold isOp; rw [decide_eq_false_iff_not]; rintro ⟨qa, qb, qc⟩; first | omega | simp_all
        refine wc_loop [(0, _), (3, _), (4, _), (6, _), (21, _), (22, _), (23, _), (24, _), (25, _), (41, _), (42, _), (43, _), (44, _), (45, _), (46, _), (47, _), (50, _), (51, _), (52, _), (53, _), (54, _), (55, _), (56, _)] (fun (k : Nat) => [(5, .int .i64 (k : Int))]) (fun (k : Nat) W => (i ≤ k ∧ k ≤ l.length ∧ peS l k = peS l i) ∧ Holds w0 W (Row 27 3 u ws.length (ws.flatMap wdE) • RowI 3 .i64 u1 (statesS l) • F)) (fun (k : Nat) => l.length - k) (i) (Sub.cons rfl (Sub.cons rfl (Sub.cons rfl (Sub.cons rfl (Sub.cons rfl (Sub.cons rfl (Sub.cons rfl (Sub.cons rfl (Sub.cons rfl (Sub.cons rfl (Sub.cons rfl (Sub.cons rfl (Sub.cons rfl (Sub.cons rfl (Sub.cons rfl (Sub.cons rfl (Sub.cons rfl (Sub.cons rfl (Sub.cons rfl (Sub.cons rfl (Sub.cons rfl (Sub.cons rfl (Sub.cons rfl (Sub.nil _)))))))))))))))))))))))) (Sub.cons rfl (Sub.nil _)) ⟨⟨by omega, by omega, rfl⟩, H43.f2.f2⟩ ?_
        rintro k w71 ⟨⟨hk, hkl, hpk⟩, HL1⟩
        dsimp only [List.cons_append, List.nil_append]
        refine wc_seq ?_
        refine wc_seq ?_
        refine wc_region ?_
        refine wl_val (r_move rfl) (ltn rfl) ?_
        refine wl_val (r_move rfl) (ltn rfl) ?_
        refine wl_val (r_len Try.underlying22 rfl) (ltn rfl) ?_
        refine wl_val (r_lss rfl rfl) (ltn rfl) ?_
        refine wl_split rfl (ltn rfl) (fun h30 => ?_) (fun h30 => ?_)
        · (try simp only [beq_iff_eq, bne_iff_ne, ne_eq, decide_eq_true_eq, decide_eq_false_iff_not, beq_eq_false_iff_ne, bne_eq_false_iff_eq, Bool.not_eq_true', Bool.not_eq_false', Bool.not_eq_eq_eq_not, Bool.not_true, Bool.not_false, gt_iff_lt, ge_iff_le, Int.not_lt, Int.not_le] at h30)
          refine wl_yes rfl rfl ?_
          refine wl_val (r_move rfl) (ltn rfl) ?_
          refine wl_yes rfl rfl ?_
          refine wl_val (r_move rfl) (ltn rfl) ?_
          refine wl_yes rfl rfl ?_
          obtain ⟨bu1, ou1, cu1, eu1⟩ := RdI.posV ((HL1.f2).row_rd) (by omega)
          cases eu1
          refine wl_val (r_index Try.underlying47 Try.sizeOf3 rfl rfl (by omega)) (ltn rfl) ?_
          refine wl_yes rfl rfl ?_
          refine wl_val (r_as (r_load (plain_of Try.underlying3 rfl) rfl (by first | exact RdI.at1n ((HL1.f2).row_rd) (by omega) | exact RdI.at0 ((HL1.f2).row_rd) (by omega) | exact RdI.at1 ((HL1.f2).row_rd) (by omega))) (show Value.int .i64 ((statesS l).getD k 0) = .int .i64 (quoS l k) by rw [statesS_at (by omega)])) (ltn rfl) ?_
          refine wl_yes rfl rfl ?_
          refine wl_val (r_eql rfl rfl) (ltn rfl) ?_
          refine wl_yes rfl rfl ?_
          refine wl_split rfl (ltn rfl) (fun h31 => ?_) (fun h31 => ?_)
          · (try simp only [beq_iff_eq, bne_iff_ne, ne_eq, decide_eq_true_eq, decide_eq_false_iff_not, beq_eq_false_iff_ne, bne_eq_false_iff_eq, Bool.not_eq_true', Bool.not_eq_false', Bool.not_eq_eq_eq_not, Bool.not_true, Bool.not_false, gt_iff_lt, ge_iff_le, Int.not_lt, Int.not_le] at h31)
            refine wl_yes rfl rfl ?_
            refine wl_val (r_move rfl) (ltn rfl) ?_
            refine wl_yes rfl rfl ?_
            refine wl_val (r_move rfl) (ltn rfl) ?_
            refine wl_yes rfl rfl ?_
            refine wl_val (r_index Try.underlying22 Try.sizeOf21 rfl rfl (by omega)) (ltn rfl) ?_
            refine wl_yes rfl rfl ?_
            refine wl_val (r_load (plain_of Try.underlying21 rfl) rfl (by first | exact RdI.at1n (hv _ (HL1.right.right)) (by omega) | exact RdI.at0 (hv _ (HL1.right.right)) (by omega) | exact RdI.at1 (hv _ (HL1.right.right)) (by omega))) (ltn rfl) ?_
            refine wl_yes rfl rfl ?_
            refine wl_eff (e_call (r_call rfl Try.func27 rfl rfl) (class_ret HL1 (runs_at hl (by omega)))) (ltn rfl) ?_
            rintro _ w72 ⟨rfl, H72⟩
            refine wl_yes rfl rfl ?_
            refine wl_val (r_neq rfl rfl) (ltn rfl) ?_
            refine wl_yes rfl rfl ?_
            refine wl_val (r_pick_t rfl rfl) (ltn rfl) ?_
            refine wl_yes rfl rfl ?_
            refine wl_val (r_not rfl) (ltn rfl) ?_
            refine wl_val (r_pick_t rfl rfl) (ltn rfl) ?_
            refine wl_nil ?_
            refine wq_seq ?_
            refine wc_cond rfl (fun h32 => ?_) (fun h32 => ?_)
            · (try simp only [beq_iff_eq, bne_iff_ne, ne_eq, decide_eq_true_eq, decide_eq_false_iff_not, beq_eq_false_iff_ne, bne_eq_false_iff_eq, Bool.not_eq_true', Bool.not_eq_false', Bool.not_eq_eq_eq_not, Bool.not_true, Bool.not_false, gt_iff_lt, ge_iff_le, Int.not_lt, Int.not_le] at h32)
              
              refine wc_skip ?_
              refine wq_seq ?_
              refine wc_block ?_
              have hef : endsS l k = false := by unfold endsS; rw [decide_eq_false_iff_not]; rintro (q | ⟨qa, qb⟩) <;> omega
              refine wc_region ?_
              refine wl_val (r_move rfl) (ltn rfl) ?_
              refine wl_val (r_as (r_add rfl rfl (by omega)) (show Value.int .i64 ((k : Int) + 1) = .int .i64 ((k + 1 : Nat) : Int) by rw [Int.natCast_add]; rfl)) (ltn rfl) ?_
              refine wl_val (r_assign rfl) (ltn rfl) ?_
              refine wl_nil ?_
              refine wq_block_normal ?_
              refine wq_round (_) (Sub.cons rfl (Sub.nil _)) (Sub.cons rfl (Sub.cons rfl (Sub.cons rfl (Sub.cons rfl (Sub.cons rfl (Sub.cons rfl (Sub.cons rfl (Sub.cons rfl (Sub.cons rfl (Sub.cons rfl (Sub.cons rfl (Sub.cons rfl (Sub.cons rfl (Sub.cons rfl (Sub.cons rfl (Sub.cons rfl (Sub.cons rfl (Sub.cons rfl (Sub.cons rfl (Sub.cons rfl (Sub.cons rfl (Sub.cons rfl (Sub.cons rfl (Sub.nil _)))))))))))))))))))))))) (by (try dsimp only); exact ⟨⟨by omega, by omega, peS_mono hef hpk⟩, H72.f2.f2⟩) ?_
              · (try dsimp only); omega
            · (try simp only [beq_iff_eq, bne_iff_ne, ne_eq, decide_eq_true_eq, decide_eq_false_iff_not, beq_eq_false_iff_ne, bne_eq_false_iff_eq, Bool.not_eq_true', Bool.not_eq_false', Bool.not_eq_eq_eq_not, Bool.not_true, Bool.not_false, gt_iff_lt, ge_iff_le, Int.not_lt, Int.not_le] at h32)
              have hcz : classS (l.getD k 0) ≠ 0 ∧ quoS l k = 0 := by first | exact ⟨by simpa using h32, by omega⟩ | (exfalso; simp at h32)
              refine wc_exit ?_
              refine wq_then_exit ?_
              refine wq_then_exit ?_
              refine wq_block_hit ?_
              refine wq_seq ?_
              have hee : endsS l k = true := by unfold endsS; rw [decide_eq_true_eq]; omega
              have hplt := peS_lt (plain_go hil hsn hno)
              rw [← hpk, pe_stop hee] at hplt
              refine wc_region ?_
              refine wl_val (r_move rfl) (ltn rfl) ?_
              refine wl_val (r_move rfl) (ltn rfl) ?_
              refine wl_val (r_move rfl) (ltn rfl) ?_
              refine wl_val (r_build (pl := #[(0, 1), (1, 1), (2, 1)]) (_) Try.underlying27 Try.zeroValue27 (fun w => by kernel_rfl) rfl (rfl)) (ltn rfl) ?_
              refine wl_eff (e_lit_one H72 Try.underlying24 Try.sizeOf27 Try.zeroValue27 rfl rfl rfl (by decide) (by decide)) (ltn rfl) ?_
              rintro l73 w73 H73
              refine wl_eff (e_append H73.f2 Try.underlying24 (show (Try.prog.info? 27).map (fun i => (i.zero, i.size, i.bytes)) = some (some (.agg #[.int .i64 0, .int .i64 0, .int .i64 0]), 3, 24) by kernel_rfl) rfl rfl rfl ((H73).row_rd) (ones_cons (by first | rfl | assumption) (ones_cons (by first | rfl | assumption) (ones_cons (by first | rfl | assumption) ones_nil))) (by omega) (by omega)) (ltn rfl) ?_
              rintro l74 w74 H74
              have Hd75 := H74.f2.right
              refine wl_val (r_assign rfl) (ltn rfl) ?_
              refine wl_nil ?_
              refine wq_block_normal ?_
              refine wq_round (_, _) (Sub.cons rfl (Sub.cons rfl (Sub.nil _))) (Sub.cons rfl (Sub.cons rfl (Sub.nil _))) (by (try dsimp only); exact by first | exact ⟨ws, ⟨by omega, by omega, by rw [← wordsAt_skip hil hsk]; exact hws⟩, Hd75.f2.f2⟩ | exact ⟨ws ++ [(1, i, i + digS l i + opS l (i + digS l i))], ⟨by omega, by simp; omega, by rw [← hws, wordsAt_op hil hsn hop, List.append_assoc]; rfl⟩, wrow_one Hd75.f2.f2⟩ | exact ⟨ws ++ [(0, i, k)], ⟨by omega, by simp; omega, by rw [← hws, wordsAt_plain hil hsn hno, ← hpk, pe_stop hee, List.append_assoc]; rfl⟩, wrow_one Hd75.f2.f2⟩) ?_
              · (try dsimp only); omega
          · (try simp only [beq_iff_eq, bne_iff_ne, ne_eq, decide_eq_true_eq, decide_eq_false_iff_not, beq_eq_false_iff_ne, bne_eq_false_iff_eq, Bool.not_eq_true', Bool.not_eq_false', Bool.not_eq_eq_eq_not, Bool.not_true, Bool.not_false, gt_iff_lt, ge_iff_le, Int.not_lt, Int.not_le] at h31)
            refine wl_no rfl rfl rfl (ltn rfl) ?_
            refine wl_no rfl rfl rfl (ltn rfl) ?_
            refine wl_no rfl rfl rfl (ltn rfl) ?_
            refine wl_no rfl rfl rfl (ltn rfl) ?_
            refine wl_no rfl rfl rfl (ltn rfl) ?_
            refine wl_no rfl rfl rfl (ltn rfl) ?_
            refine wl_yes rfl rfl ?_
            refine wl_val (r_pick_f rfl rfl) (ltn rfl) ?_
            refine wl_yes rfl rfl ?_
            refine wl_val (r_not rfl) (ltn rfl) ?_
            refine wl_val (r_pick_t rfl rfl) (ltn rfl) ?_
            refine wl_nil ?_
            refine wq_seq ?_
            refine wc_cond rfl (fun h33 => ?_) (fun h33 => ?_)
            · (try simp only [beq_iff_eq, bne_iff_ne, ne_eq, decide_eq_true_eq, decide_eq_false_iff_not, beq_eq_false_iff_ne, bne_eq_false_iff_eq, Bool.not_eq_true', Bool.not_eq_false', Bool.not_eq_eq_eq_not, Bool.not_true, Bool.not_false, gt_iff_lt, ge_iff_le, Int.not_lt, Int.not_le] at h33)
              
              refine wc_skip ?_
              refine wq_seq ?_
              refine wc_block ?_
              have hef : endsS l k = false := by unfold endsS; rw [decide_eq_false_iff_not]; rintro (q | ⟨qa, qb⟩) <;> omega
              refine wc_region ?_
              refine wl_val (r_move rfl) (ltn rfl) ?_
              refine wl_val (r_as (r_add rfl rfl (by omega)) (show Value.int .i64 ((k : Int) + 1) = .int .i64 ((k + 1 : Nat) : Int) by rw [Int.natCast_add]; rfl)) (ltn rfl) ?_
              refine wl_val (r_assign rfl) (ltn rfl) ?_
              refine wl_nil ?_
              refine wq_block_normal ?_
              refine wq_round (_) (Sub.cons rfl (Sub.nil _)) (Sub.cons rfl (Sub.cons rfl (Sub.cons rfl (Sub.cons rfl (Sub.cons rfl (Sub.cons rfl (Sub.cons rfl (Sub.cons rfl (Sub.cons rfl (Sub.cons rfl (Sub.cons rfl (Sub.cons rfl (Sub.cons rfl (Sub.cons rfl (Sub.cons rfl (Sub.cons rfl (Sub.cons rfl (Sub.cons rfl (Sub.cons rfl (Sub.cons rfl (Sub.cons rfl (Sub.cons rfl (Sub.cons rfl (Sub.nil _)))))))))))))))))))))))) (by (try dsimp only); exact ⟨⟨by omega, by omega, peS_mono hef hpk⟩, HL1.f2.f2⟩) ?_
              · (try dsimp only); omega
            · (try simp only [beq_iff_eq, bne_iff_ne, ne_eq, decide_eq_true_eq, decide_eq_false_iff_not, beq_eq_false_iff_ne, bne_eq_false_iff_eq, Bool.not_eq_true', Bool.not_eq_false', Bool.not_eq_eq_eq_not, Bool.not_true, Bool.not_false, gt_iff_lt, ge_iff_le, Int.not_lt, Int.not_le] at h33)
              have hcz : classS (l.getD k 0) ≠ 0 ∧ quoS l k = 0 := by first | exact ⟨by simpa using h33, by omega⟩ | (exfalso; simp at h33)
              refine wc_exit ?_
              refine wq_then_exit ?_
              refine wq_then_exit ?_
              refine wq_block_hit ?_
              refine wq_seq ?_
              have hee : endsS l k = true := by unfold endsS; rw [decide_eq_true_eq]; omega
              have hplt := peS_lt (plain_go hil hsn hno)
              rw [← hpk, pe_stop hee] at hplt
              refine wc_region ?_
              refine wl_val (r_move rfl) (ltn rfl) ?_
              refine wl_val (r_move rfl) (ltn rfl) ?_
              refine wl_val (r_move rfl) (ltn rfl) ?_
              refine wl_val (r_build (pl := #[(0, 1), (1, 1), (2, 1)]) (_) Try.underlying27 Try.zeroValue27 (fun w => by kernel_rfl) rfl (rfl)) (ltn rfl) ?_
              refine wl_eff (e_lit_one HL1 Try.underlying24 Try.sizeOf27 Try.zeroValue27 rfl rfl rfl (by decide) (by decide)) (ltn rfl) ?_
              rintro l76 w76 H76
              refine wl_eff (e_append H76.f2 Try.underlying24 (show (Try.prog.info? 27).map (fun i => (i.zero, i.size, i.bytes)) = some (some (.agg #[.int .i64 0, .int .i64 0, .int .i64 0]), 3, 24) by kernel_rfl) rfl rfl rfl ((H76).row_rd) (ones_cons (by first | rfl | assumption) (ones_cons (by first | rfl | assumption) (ones_cons (by first | rfl | assumption) ones_nil))) (by omega) (by omega)) (ltn rfl) ?_
              rintro l77 w77 H77
              have Hd78 := H77.f2.right
              refine wl_val (r_assign rfl) (ltn rfl) ?_
              refine wl_nil ?_
              refine wq_block_normal ?_
              refine wq_round (_, _) (Sub.cons rfl (Sub.cons rfl (Sub.nil _))) (Sub.cons rfl (Sub.cons rfl (Sub.nil _))) (by (try dsimp only); exact by first | exact ⟨ws, ⟨by omega, by omega, by rw [← wordsAt_skip hil hsk]; exact hws⟩, Hd78.f2.f2⟩ | exact ⟨ws ++ [(1, i, i + digS l i + opS l (i + digS l i))], ⟨by omega, by simp; omega, by rw [← hws, wordsAt_op hil hsn hop, List.append_assoc]; rfl⟩, wrow_one Hd78.f2.f2⟩ | exact ⟨ws ++ [(0, i, k)], ⟨by omega, by simp; omega, by rw [← hws, wordsAt_plain hil hsn hno, ← hpk, pe_stop hee, List.append_assoc]; rfl⟩, wrow_one Hd78.f2.f2⟩) ?_
              · (try dsimp only); omega
        · (try simp only [beq_iff_eq, bne_iff_ne, ne_eq, decide_eq_true_eq, decide_eq_false_iff_not, beq_eq_false_iff_ne, bne_eq_false_iff_eq, Bool.not_eq_true', Bool.not_eq_false', Bool.not_eq_eq_eq_not, Bool.not_true, Bool.not_false, gt_iff_lt, ge_iff_le, Int.not_lt, Int.not_le] at h30)
          refine wl_no rfl rfl rfl (ltn rfl) ?_
          refine wl_no rfl rfl rfl (ltn rfl) ?_
          refine wl_no rfl rfl rfl (ltn rfl) ?_
          refine wl_no rfl rfl rfl (ltn rfl) ?_
          refine wl_no rfl rfl rfl (ltn rfl) ?_
          refine wl_no rfl rfl rfl (ltn rfl) ?_
          refine wl_nou rfl rfl (ltn rfl) ?_
          refine wl_nou rfl rfl (ltn rfl) ?_
          refine wl_nou rfl rfl (ltn rfl) ?_
          refine wl_nou rfl rfl (ltn rfl) ?_
          refine wl_nou rfl rfl (ltn rfl) ?_
          refine wl_nou rfl rfl (ltn rfl) ?_
          refine wl_no rfl rfl rfl (ltn rfl) ?_
          refine wl_no rfl rfl rfl (ltn rfl) ?_
          refine wl_val (r_pick_f rfl rfl) (ltn rfl) ?_
          refine wl_nil ?_
          refine wq_seq ?_
          refine wc_cond_f rfl ?_
          refine wc_exit ?_
          refine wq_then_exit ?_
          refine wq_then_exit ?_
          refine wq_block_hit ?_
          refine wq_seq ?_
          have hee : endsS l k = true := by unfold endsS; rw [decide_eq_true_eq]; omega
          have hplt := peS_lt (plain_go hil hsn hno)
          rw [← hpk, pe_stop hee] at hplt
          refine wc_region ?_
          refine wl_val (r_move rfl) (ltn rfl) ?_
          refine wl_val (r_move rfl) (ltn rfl) ?_
          refine wl_val (r_move rfl) (ltn rfl) ?_
          refine wl_val (r_build (pl := #[(0, 1), (1, 1), (2, 1)]) (_) Try.underlying27 Try.zeroValue27 (fun w => by kernel_rfl) rfl (rfl)) (ltn rfl) ?_
          refine wl_eff (e_lit_one HL1 Try.underlying24 Try.sizeOf27 Try.zeroValue27 rfl rfl rfl (by decide) (by decide)) (ltn rfl) ?_
          rintro l79 w79 H79
          refine wl_eff (e_append H79.f2 Try.underlying24 (show (Try.prog.info? 27).map (fun i => (i.zero, i.size, i.bytes)) = some (some (.agg #[.int .i64 0, .int .i64 0, .int .i64 0]), 3, 24) by kernel_rfl) rfl rfl rfl ((H79).row_rd) (ones_cons (by first | rfl | assumption) (ones_cons (by first | rfl | assumption) (ones_cons (by first | rfl | assumption) ones_nil))) (by omega) (by omega)) (ltn rfl) ?_
          rintro l80 w80 H80
          have Hd81 := H80.f2.right
          refine wl_val (r_assign rfl) (ltn rfl) ?_
          refine wl_nil ?_
          refine wq_block_normal ?_
          refine wq_round (_, _) (Sub.cons rfl (Sub.cons rfl (Sub.nil _))) (Sub.cons rfl (Sub.cons rfl (Sub.nil _))) (by (try dsimp only); exact by first | exact ⟨ws, ⟨by omega, by omega, by rw [← wordsAt_skip hil hsk]; exact hws⟩, Hd81.f2.f2⟩ | exact ⟨ws ++ [(1, i, i + digS l i + opS l (i + digS l i))], ⟨by omega, by simp; omega, by rw [← hws, wordsAt_op hil hsn hop, List.append_assoc]; rfl⟩, wrow_one Hd81.f2.f2⟩ | exact ⟨ws ++ [(0, i, k)], ⟨by omega, by simp; omega, by rw [← hws, wordsAt_plain hil hsn hno, ← hpk, pe_stop hee, List.append_assoc]; rfl⟩, wrow_one Hd81.f2.f2⟩) ?_
          · (try dsimp only); omega
  · (try simp only [beq_iff_eq, bne_iff_ne, ne_eq, decide_eq_true_eq, decide_eq_false_iff_not, beq_eq_false_iff_ne, bne_eq_false_iff_eq, Bool.not_eq_true', Bool.not_eq_false', Bool.not_eq_eq_eq_not, Bool.not_true, Bool.not_false, gt_iff_lt, ge_iff_le, Int.not_lt, Int.not_le] at h1)
    
    refine wc_exit ?_
    refine wq_then_exit ?_
    refine wq_then_exit ?_
    refine wq_block_hit ?_
    refine wq_seq ?_
    refine wc_seq ?_
    refine wc_region ?_
    refine wl_val (r_move rfl) (ltn rfl) ?_
    refine wl_val (r_assign rfl) (ltn rfl) ?_
    refine wl_nil ?_
    refine wq_seq ?_
    refine wc_ret ?_
    refine wq_end1 (.inl rfl) Try.results9 rfl ?_
    rw [wordsAt_end (by omega), List.append_nil] at hws
    rw [← hws]
    exact HL.f2.right
end
end Go.Proofs.Ytgoopiakpbcgoaa
