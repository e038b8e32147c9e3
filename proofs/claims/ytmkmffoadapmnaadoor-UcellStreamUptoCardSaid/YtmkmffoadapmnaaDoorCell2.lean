/- Places that runes take, walked: the program's. -/
import Derived.Test.YtmkmffoadapmnaaDoorCell
import Derived.Test.YtmkmffoadapmnaaDoorRefTab
set_option linter.unusedSimpArgs false
set_option linter.unusedVariables false
namespace Go.Proofs.YtmkmffoadapmnaaDoor
open Go.RowKit
theorem col_int (col : Int) : (colM col : Int) = max col 0 % 8 ∧ 0 ≤ max col 0 := by unfold colM; omega
section
variable {w0 w : World} {F : HP} {v u : Value} {cs : List Cel} {c : Nat} {r col : Int} {s : ByteArray} {ts : List ByteArray} {l : List Int}
theorem cells_ret (H : Holds w0 w F) (hT : Tabs w0) (hv : FRdI w0 F .i32 v l) (hl : Runs32 l) (hL : l.length ≤ 4294967295) (hcol : col ≤ 9223372036854775807) :
    Ret Tryd.prog 12 #[v, .int .i64 col] w fun v' w' => Holds w0 w' (Row 26 3 v' (cellsM l col).length ((cellsM l col).flatMap celE) • F) := by
  obtain ⟨hC, hC0⟩ := col_int col
  unfold cellsM
  generalize colM col = C at *
  refine ret_enter Tryd.func12 rfl Tryd.ntmps12 (Nat.le_of_ble_eq_true rfl) ?_
  dsimp only [slots0, Nat.reduceAdd]
  refine wc_seq ?_
  refine wc_region ?_
  refine wl_val (r_assign rfl) (ltn rfl) ?_
  refine wl_nil ?_
  refine wq_seq ?_
  refine wc_seq ?_
  refine wc_region ?_
  refine wl_val (r_move rfl) (ltn rfl) ?_
  refine wl_val (r_max rfl rfl) (ltn rfl) ?_
  refine wl_val (r_assign rfl) (ltn rfl) ?_
  refine wl_nil ?_
  refine wq_seq ?_
  refine wc_seq ?_
  refine wc_region ?_
  refine wl_eff (e_allocL (l := [_]) H Tryd.zeroValue23 rfl) (ltn rfl) ?_
  rintro _ w1 ⟨b1, rfl, H1⟩
  refine wl_nil ?_
  refine wq_seq ?_
  refine wc_seq ?_
  refine wc_region ?_
  refine wl_val (r_makeFunc rfl rfl) (ltn rfl) ?_
  refine wl_val (r_assign rfl) (ltn rfl) ?_
  refine wl_nil ?_
  refine wq_seq ?_
  refine wc_seq ?_
  refine wc_seq ?_
  refine wc_region ?_
  refine wl_val (r_move rfl) (ltn rfl) ?_
  refine wl_val (r_lenR (hv _ (H1.right)) Tryd.underlying22 rfl) (ltn rfl) ?_
  refine wl_val (r_move rfl) (ltn rfl) ?_
  refine wl_nil ?_
  refine wq_seq ?_
  refine wc_block ?_
  have Ho2 := H1
  have Hc3 := Holds.mk_out (cs := []) (Ho2.row_nil none).f2
  refine wc_loop [(1, _), (5, _), (6, _), (12, _), (13, _)] (fun (k : Nat) => [(14, .int .i64 (k : Int))]) (fun (k : Nat) W => k ≤ l.length ∧ Holds w0 W (OutRep b1 (cellsF C (l.take k)) • F)) (fun (k : Nat) => l.length - k) (0) (Sub.cons rfl (Sub.cons rfl (Sub.cons rfl (Sub.cons rfl (Sub.cons rfl (Sub.nil _)))))) (Sub.cons rfl (Sub.nil _)) ⟨by omega, Hc3⟩ ?_
  rintro k w4 ⟨hk, HL⟩
  dsimp only [List.cons_append, List.nil_append]
  refine wc_seq ?_
  refine wc_region ?_
  refine wl_val (r_lss rfl rfl) (ltn rfl) ?_
  refine wl_nil ?_
  refine wq_seq ?_
  refine wc_seq ?_
  refine wc_cond rfl (fun h1 => ?_) (fun h1 => ?_)
  · (try simp only [beq_iff_eq, bne_iff_ne, ne_eq, decide_eq_true_eq, decide_eq_false_iff_not, beq_eq_false_iff_ne, bne_eq_false_iff_eq, Bool.not_eq_true', Bool.not_eq_false', Bool.not_eq_eq_eq_not, Bool.not_true, Bool.not_false, gt_iff_lt, ge_iff_le, Int.not_lt, Int.not_le] at h1)
    
    refine wc_skip ?_
    refine wq_seq ?_
    refine wc_seq ?_
    refine wc_block ?_
    refine wc_seq ?_
    refine wc_region ?_
    obtain ⟨bv, ov, cv, ev⟩ := RdI.posV (hv _ (HL.right)) (by omega)
    cases ev
    refine wl_val (r_index Tryd.underlying22 Tryd.sizeOf21 rfl rfl (by omega)) (ltn rfl) ?_
    refine wl_val (r_load (plain_of Tryd.underlying21 rfl) rfl (by first | exact RdI.at1n (hv _ (HL.right)) (by omega) | exact RdI.at0 (hv _ (HL.right)) (by omega) | exact RdI.at1 (hv _ (HL.right)) (by omega))) (ltn rfl) ?_
    have hkl : k < l.length := by omega
    have hbn := cellsF_len C l k
    obtain ⟨hw1, hw2⟩ := run_at hl hkl
    obtain ⟨r, hr⟩ : ∃ r, l.getD k 0 = r := ⟨_, rfl⟩
    rw [hr] at hw1 hw2 ⊢
    generalize hbase : cellsF C (l.take k) = base at *
    refine wl_val (r_assign rfl) (ltn rfl) ?_
    refine wl_nil ?_
    refine wq_seq ?_
    refine wc_block ?_
    refine wc_seq ?_
    refine wc_region ?_
    refine wl_val (r_move rfl) (ltn rfl) ?_
    refine wl_val (r_eql rfl rfl) (ltn rfl) ?_
    refine wl_val (r_assign rfl) (ltn rfl) ?_
    refine wl_nil ?_
    refine wq_seq ?_
    refine wc_cond rfl (fun h2 => ?_) (fun h2 => ?_)
    · (try simp only [beq_iff_eq, bne_iff_ne, ne_eq, decide_eq_true_eq, decide_eq_false_iff_not, beq_eq_false_iff_ne, bne_eq_false_iff_eq, Bool.not_eq_true', Bool.not_eq_false', Bool.not_eq_eq_eq_not, Bool.not_true, Bool.not_false, gt_iff_lt, ge_iff_le, Int.not_lt, Int.not_le] at h2)
      have q1 := h2
      refine wc_seq ?_
      refine wc_region ?_
      refine wl_val (r_move rfl) (ltn rfl) ?_
      refine wl_eff (e_lit_row (vs := [_]) HL Tryd.underlying56 Tryd.sizeOf9 Tryd.zeroValue9 rfl rfl rfl (by decide) (ones_cons (by first | rfl | assumption) ones_nil)) (ltn rfl) ?_
      rintro l5 w5 H5
      refine wl_eff (e_call_fn rfl rfl (one_fn (ts := [blankS]) H5.f2 (by simp; omega))) (ltn rfl) ?_
      rintro _ w6 H6
      refine wl_nil ?_
      refine wq_seq ?_
      refine wc_block ?_
      refine wc_loop [(1, _), (5, _), (6, _), (12, _), (13, _), (14, _)] (fun (j : Nat) => []) (fun (j : Nat) W => (1 ≤ j ∧ j ≤ 8 - (C + base.length) % 8) ∧ Holds w0 W (OutRep b1 (base ++ List.replicate j (blankS, 1)) • F)) (fun (j : Nat) => 8 - j) (1) (Sub.cons rfl (Sub.cons rfl (Sub.cons rfl (Sub.cons rfl (Sub.cons rfl (Sub.cons rfl (Sub.nil _))))))) (Sub.nil _) ⟨by omega, H6⟩ ?_
      rintro j w7 ⟨hj, HM⟩
      dsimp only [List.cons_append, List.nil_append]
      refine wc_seq ?_
      refine wc_seq ?_
      obtain ⟨ou_y, HO_y⟩ := (HM).out
      have hrl : (base ++ List.replicate j (blankS, (1 : Int))).length = base.length + j := by simp
      refine wc_region ?_
      refine wl_val (r_move rfl) (ltn rfl) ?_
      refine wl_val (r_rem rfl rfl (by omega) (by  omega)) (ltn rfl) ?_
      refine wl_val (r_load (plain_of Tryd.underlying23 rfl) rfl (cell_of_blk (HO_y).get.2 rfl)) (ltn rfl) ?_
      refine wl_val (r_lenS ((HO_y.f2).row_rd) Tryd.underlying23 rfl) (ltn rfl) ?_
      refine wl_val (r_add rfl rfl (by omega)) (ltn rfl) ?_
      refine wl_val (r_rem rfl rfl (by omega) (by  omega)) (ltn rfl) ?_
      refine wl_val (r_neq rfl rfl) (ltn rfl) ?_
      refine wl_nil ?_
      refine wq_seq ?_
      refine wc_cond rfl (fun h3 => ?_) (fun h3 => ?_)
      · (try simp only [beq_iff_eq, bne_iff_ne, ne_eq, decide_eq_true_eq, decide_eq_false_iff_not, beq_eq_false_iff_ne, bne_eq_false_iff_eq, Bool.not_eq_true', Bool.not_eq_false', Bool.not_eq_eq_eq_not, Bool.not_true, Bool.not_false, gt_iff_lt, ge_iff_le, Int.not_lt, Int.not_le] at h3)
        
        refine wc_skip ?_
        refine wq_seq ?_
        refine wc_block ?_
        have Ho10 := HO_y.f2.f2
        have Hc11 := Ho10.mk_out
        have hjm : j < 8 - (C + base.length) % 8 := by omega
        refine wc_region ?_
        refine wl_val (r_move rfl) (ltn rfl) ?_
        refine wl_eff (e_lit_row (vs := [_]) Hc11 Tryd.underlying56 Tryd.sizeOf9 Tryd.zeroValue9 rfl rfl rfl (by decide) (ones_cons (by first | rfl | assumption) ones_nil)) (ltn rfl) ?_
        rintro l12 w12 H12
        refine wl_eff (e_call_fn rfl rfl (one_fn (ts := [blankS]) H12.f2 (by simp; omega))) (ltn rfl) ?_
        rintro _ w13 H13
        refine wl_nil ?_
        refine wq_block_normal ?_
        refine wq_round (j + 1) ?_ ?_ ?_ ?_
        · exact (Sub.nil _)
        · exact (Sub.cons rfl (Sub.cons rfl (Sub.cons rfl (Sub.cons rfl (Sub.cons rfl (Sub.cons rfl (Sub.nil _)))))))
        · (try dsimp only)
          exact ⟨by omega, by have HQ := H13; rw [List.append_assoc] at HQ; rw [List.replicate_succ']; exact HQ⟩
        · (try dsimp only); omega
      · (try simp only [beq_iff_eq, bne_iff_ne, ne_eq, decide_eq_true_eq, decide_eq_false_iff_not, beq_eq_false_iff_ne, bne_eq_false_iff_eq, Bool.not_eq_true', Bool.not_eq_false', Bool.not_eq_eq_eq_not, Bool.not_true, Bool.not_false, gt_iff_lt, ge_iff_le, Int.not_lt, Int.not_le] at h3)
        have Ho15 := HO_y.f2.f2
        have Hc16 := Ho15.mk_out
        have HN : Holds w0 w7 (OutRep b1 (stepC C base r) • F) := by
          unfold stepC
          rw [if_pos q1, show 8 - (C + base.length) % 8 = j from by omega]
          exact Hc16
        refine wc_exit ?_
        refine wq_then_exit ?_
        refine wq_then_exit ?_
        refine wq_block_hit ?_
        refine wq_block_normal ?_
        refine wq_block_normal ?_
        refine wq_seq ?_
        skip
        refine wc_region ?_
        refine wl_val (r_add rfl rfl (by omega)) (ltn rfl) ?_
        refine wl_val (r_move rfl) (ltn rfl) ?_
        refine wl_nil ?_
        refine wq_round (k + 1) ?_ ?_ ?_ ?_
        · exact (Sub.cons rfl (Sub.nil _))
        · exact (Sub.cons rfl (Sub.cons rfl (Sub.cons rfl (Sub.cons rfl (Sub.cons rfl (Sub.nil _))))))
        · (try dsimp only)
          exact ⟨by omega, by rw [cells_snoc C l k hkl, hr, hbase]; exact HN⟩
        · (try dsimp only); omega
    · (try simp only [beq_iff_eq, bne_iff_ne, ne_eq, decide_eq_true_eq, decide_eq_false_iff_not, beq_eq_false_iff_ne, bne_eq_false_iff_eq, Bool.not_eq_true', Bool.not_eq_false', Bool.not_eq_eq_eq_not, Bool.not_true, Bool.not_false, gt_iff_lt, ge_iff_le, Int.not_lt, Int.not_le] at h2)
      have q1 := h2
      refine wc_seq ?_
      refine wc_region ?_
      refine wl_val (r_move rfl) (ltn rfl) ?_
      refine wl_val (r_geq rfl rfl) (ltn rfl) ?_
      refine wl_split rfl (ltn rfl) (fun h4 => ?_) (fun h4 => ?_)
      · (try simp only [beq_iff_eq, bne_iff_ne, ne_eq, decide_eq_true_eq, decide_eq_false_iff_not, beq_eq_false_iff_ne, bne_eq_false_iff_eq, Bool.not_eq_true', Bool.not_eq_false', Bool.not_eq_eq_eq_not, Bool.not_true, Bool.not_false, gt_iff_lt, ge_iff_le, Int.not_lt, Int.not_le] at h4)
        refine wl_yes rfl rfl ?_
        refine wl_val (r_move rfl) (ltn rfl) ?_
        refine wl_yes rfl rfl ?_
        refine wl_val (r_lss rfl rfl) (ltn rfl) ?_
        refine wl_val (r_pick_t rfl rfl) (ltn rfl) ?_
        refine wl_split rfl (ltn rfl) (fun h5 => ?_) (fun h5 => ?_)
        · (try simp only [beq_iff_eq, bne_iff_ne, ne_eq, decide_eq_true_eq, decide_eq_false_iff_not, beq_eq_false_iff_ne, bne_eq_false_iff_eq, Bool.not_eq_true', Bool.not_eq_false', Bool.not_eq_eq_eq_not, Bool.not_true, Bool.not_false, gt_iff_lt, ge_iff_le, Int.not_lt, Int.not_le] at h5)
          refine wl_no rfl rfl rfl (ltn rfl) ?_
          refine wl_no rfl rfl rfl (ltn rfl) ?_
          refine wl_val (r_pick_t rfl rfl) (ltn rfl) ?_
          refine wl_val (r_assign rfl) (ltn rfl) ?_
          refine wl_nil ?_
          refine wq_seq ?_
          refine wc_cond_t rfl ?_
          have q2 : 0 ≤ r ∧ r < 32 ∨ r = 127 := by omega
          refine wc_region ?_
          refine wl_val (r_move rfl) (ltn rfl) ?_
          refine wl_val (r_move rfl) (ltn rfl) ?_
          refine wl_val (r_bitsK .xor rfl rfl (by simp)) (ltn rfl) ?_
          refine wl_val (r_int_str Tryd.underlying21 Tryd.underlying9 rfl) (ltn rfl) ?_
          refine wl_eff (e_lit_row (vs := [_, _]) HL Tryd.underlying56 Tryd.sizeOf9 Tryd.zeroValue9 rfl rfl rfl (by decide) (ones_cons (by first | rfl | assumption) (ones_cons (by first | rfl | assumption) ones_nil))) (ltn rfl) ?_
          rintro l17 w17 H17
          refine wl_eff (e_call_fn rfl rfl (one_fn (ts := [hatS, Utf8.encode (bits .xor .i32 r 64)]) H17.f2 (by simp; omega))) (ltn rfl) ?_
          rintro _ w18 H18
          have HN : Holds w0 w18 (OutRep b1 (stepC C base r) • F) := by
            unfold stepC
            rw [if_neg q1, if_pos q2]
            exact H18
          refine wl_nil ?_
          refine wq_block_normal ?_
          refine wq_block_normal ?_
          refine wq_seq ?_
          skip
          refine wc_region ?_
          refine wl_val (r_add rfl rfl (by omega)) (ltn rfl) ?_
          refine wl_val (r_move rfl) (ltn rfl) ?_
          refine wl_nil ?_
          refine wq_round (k + 1) ?_ ?_ ?_ ?_
          · exact (Sub.cons rfl (Sub.nil _))
          · exact (Sub.cons rfl (Sub.cons rfl (Sub.cons rfl (Sub.cons rfl (Sub.cons rfl (Sub.nil _))))))
          · (try dsimp only)
            exact ⟨by omega, by rw [cells_snoc C l k hkl, hr, hbase]; exact HN⟩
          · (try dsimp only); omega
        · (try simp only [beq_iff_eq, bne_iff_ne, ne_eq, decide_eq_true_eq, decide_eq_false_iff_not, beq_eq_false_iff_ne, bne_eq_false_iff_eq, Bool.not_eq_true', Bool.not_eq_false', Bool.not_eq_eq_eq_not, Bool.not_true, Bool.not_false, gt_iff_lt, ge_iff_le, Int.not_lt, Int.not_le] at h5)
          refine wl_yes rfl rfl ?_
          refine wl_val (r_move rfl) (ltn rfl) ?_
          refine wl_yes rfl rfl ?_
          refine wl_val (r_eql rfl rfl) (ltn rfl) ?_
          refine wl_val (r_pick_f rfl rfl) (ltn rfl) ?_
          refine wl_val (r_assign rfl) (ltn rfl) ?_
          refine wl_nil ?_
          refine wq_seq ?_
          refine wc_cond rfl (fun h6 => ?_) (fun h6 => ?_)
          · (try simp only [beq_iff_eq, bne_iff_ne, ne_eq, decide_eq_true_eq, decide_eq_false_iff_not, beq_eq_false_iff_ne, bne_eq_false_iff_eq, Bool.not_eq_true', Bool.not_eq_false', Bool.not_eq_eq_eq_not, Bool.not_true, Bool.not_false, gt_iff_lt, ge_iff_le, Int.not_lt, Int.not_le] at h6)
            
            have q2 : 0 ≤ r ∧ r < 32 ∨ r = 127 := by omega
            refine wc_region ?_
            refine wl_val (r_move rfl) (ltn rfl) ?_
            refine wl_val (r_move rfl) (ltn rfl) ?_
            refine wl_val (r_bitsK .xor rfl rfl (by simp)) (ltn rfl) ?_
            refine wl_val (r_int_str Tryd.underlying21 Tryd.underlying9 rfl) (ltn rfl) ?_
            refine wl_eff (e_lit_row (vs := [_, _]) HL Tryd.underlying56 Tryd.sizeOf9 Tryd.zeroValue9 rfl rfl rfl (by decide) (ones_cons (by first | rfl | assumption) (ones_cons (by first | rfl | assumption) ones_nil))) (ltn rfl) ?_
            rintro l19 w19 H19
            refine wl_eff (e_call_fn rfl rfl (one_fn (ts := [hatS, Utf8.encode (bits .xor .i32 r 64)]) H19.f2 (by simp; omega))) (ltn rfl) ?_
            rintro _ w20 H20
            have HN : Holds w0 w20 (OutRep b1 (stepC C base r) • F) := by
              unfold stepC
              rw [if_neg q1, if_pos q2]
              exact H20
            refine wl_nil ?_
            refine wq_block_normal ?_
            refine wq_block_normal ?_
            refine wq_seq ?_
            skip
            refine wc_region ?_
            refine wl_val (r_add rfl rfl (by omega)) (ltn rfl) ?_
            refine wl_val (r_move rfl) (ltn rfl) ?_
            refine wl_nil ?_
            refine wq_round (k + 1) ?_ ?_ ?_ ?_
            · exact (Sub.cons rfl (Sub.nil _))
            · exact (Sub.cons rfl (Sub.cons rfl (Sub.cons rfl (Sub.cons rfl (Sub.cons rfl (Sub.nil _))))))
            · (try dsimp only)
              exact ⟨by omega, by rw [cells_snoc C l k hkl, hr, hbase]; exact HN⟩
            · (try dsimp only); omega
          · (try simp only [beq_iff_eq, bne_iff_ne, ne_eq, decide_eq_true_eq, decide_eq_false_iff_not, beq_eq_false_iff_ne, bne_eq_false_iff_eq, Bool.not_eq_true', Bool.not_eq_false', Bool.not_eq_eq_eq_not, Bool.not_true, Bool.not_false, gt_iff_lt, ge_iff_le, Int.not_lt, Int.not_le] at h6)
            
            refine wc_seq ?_
            have q2 : ¬ (0 ≤ r ∧ r < 32 ∨ r = 127) := by omega
            refine wc_region ?_
            refine wl_val (r_move rfl) (ltn rfl) ?_
            refine wl_eff (e_call (r_call rfl Tryd.func41 rfl rfl) (is_ret)) (ltn rfl) ?_
            rintro _ _ ⟨rfl, rfl⟩
            refine wl_val (r_not rfl) (ltn rfl) ?_
            refine wl_split rfl (ltn rfl) (fun h7 => ?_) (fun h7 => ?_)
            · (try simp only [beq_iff_eq, bne_iff_ne, ne_eq, decide_eq_true_eq, decide_eq_false_iff_not, beq_eq_false_iff_ne, bne_eq_false_iff_eq, Bool.not_eq_true', Bool.not_eq_false', Bool.not_eq_eq_eq_not, Bool.not_true, Bool.not_false, gt_iff_lt, ge_iff_le, Int.not_lt, Int.not_le] at h7)
              refine wl_no rfl rfl rfl (ltn rfl) ?_
              refine wl_no rfl rfl rfl (ltn rfl) ?_
              refine wl_val (r_pick_t rfl rfl) (ltn rfl) ?_
              refine wl_val (r_assign rfl) (ltn rfl) ?_
              refine wl_nil ?_
              refine wq_seq ?_
              refine wc_cond_t rfl ?_
              have q3 : validM r = false ∨ controlM r = true := by first | exact .inl (by assumption) | exact .inr (by assumption)
              refine wc_region ?_
              refine wl_val (r_move rfl) (ltn rfl) ?_
              refine wl_eff (e_lit_row (vs := [_]) HL Tryd.underlying56 Tryd.sizeOf9 Tryd.zeroValue9 rfl rfl rfl (by decide) (ones_cons (by first | rfl | assumption) ones_nil)) (ltn rfl) ?_
              rintro l22 w22 H22
              refine wl_eff (e_call_fn rfl rfl (one_fn (ts := [badS]) H22.f2 (by simp; omega))) (ltn rfl) ?_
              rintro _ w23 H23
              have HN : Holds w0 w23 (OutRep b1 (stepC C base r) • F) := by
                unfold stepC
                rw [if_neg q1, if_neg q2, if_pos q3]
                exact H23
              refine wl_nil ?_
              refine wq_block_normal ?_
              refine wq_block_normal ?_
              refine wq_seq ?_
              skip
              refine wc_region ?_
              refine wl_val (r_add rfl rfl (by omega)) (ltn rfl) ?_
              refine wl_val (r_move rfl) (ltn rfl) ?_
              refine wl_nil ?_
              refine wq_round (k + 1) ?_ ?_ ?_ ?_
              · exact (Sub.cons rfl (Sub.nil _))
              · exact (Sub.cons rfl (Sub.cons rfl (Sub.cons rfl (Sub.cons rfl (Sub.cons rfl (Sub.nil _))))))
              · (try dsimp only)
                exact ⟨by omega, by rw [cells_snoc C l k hkl, hr, hbase]; exact HN⟩
              · (try dsimp only); omega
            · (try simp only [beq_iff_eq, bne_iff_ne, ne_eq, decide_eq_true_eq, decide_eq_false_iff_not, beq_eq_false_iff_ne, bne_eq_false_iff_eq, Bool.not_eq_true', Bool.not_eq_false', Bool.not_eq_eq_eq_not, Bool.not_true, Bool.not_false, gt_iff_lt, ge_iff_le, Int.not_lt, Int.not_le] at h7)
              refine wl_yes rfl rfl ?_
              refine wl_val (r_move rfl) (ltn rfl) ?_
              refine wl_yes rfl rfl ?_
              refine wl_eff (e_call (r_call rfl Tryd.func17 rfl rfl) (control_ret)) (ltn rfl) ?_
              rintro _ _ ⟨rfl, rfl⟩
              refine wl_val (r_pick_f rfl rfl) (ltn rfl) ?_
              refine wl_val (r_assign rfl) (ltn rfl) ?_
              refine wl_nil ?_
              refine wq_seq ?_
              refine wc_cond rfl (fun h8 => ?_) (fun h8 => ?_)
              · (try simp only [beq_iff_eq, bne_iff_ne, ne_eq, decide_eq_true_eq, decide_eq_false_iff_not, beq_eq_false_iff_ne, bne_eq_false_iff_eq, Bool.not_eq_true', Bool.not_eq_false', Bool.not_eq_eq_eq_not, Bool.not_true, Bool.not_false, gt_iff_lt, ge_iff_le, Int.not_lt, Int.not_le] at h8)
                
                have q3 : validM r = false ∨ controlM r = true := by first | exact .inl (by assumption) | exact .inr (by assumption)
                refine wc_region ?_
                refine wl_val (r_move rfl) (ltn rfl) ?_
                refine wl_eff (e_lit_row (vs := [_]) HL Tryd.underlying56 Tryd.sizeOf9 Tryd.zeroValue9 rfl rfl rfl (by decide) (ones_cons (by first | rfl | assumption) ones_nil)) (ltn rfl) ?_
                rintro l25 w25 H25
                refine wl_eff (e_call_fn rfl rfl (one_fn (ts := [badS]) H25.f2 (by simp; omega))) (ltn rfl) ?_
                rintro _ w26 H26
                have HN : Holds w0 w26 (OutRep b1 (stepC C base r) • F) := by
                  unfold stepC
                  rw [if_neg q1, if_neg q2, if_pos q3]
                  exact H26
                refine wl_nil ?_
                refine wq_block_normal ?_
                refine wq_block_normal ?_
                refine wq_seq ?_
                skip
                refine wc_region ?_
                refine wl_val (r_add rfl rfl (by omega)) (ltn rfl) ?_
                refine wl_val (r_move rfl) (ltn rfl) ?_
                refine wl_nil ?_
                refine wq_round (k + 1) ?_ ?_ ?_ ?_
                · exact (Sub.cons rfl (Sub.nil _))
                · exact (Sub.cons rfl (Sub.cons rfl (Sub.cons rfl (Sub.cons rfl (Sub.cons rfl (Sub.nil _))))))
                · (try dsimp only)
                  exact ⟨by omega, by rw [cells_snoc C l k hkl, hr, hbase]; exact HN⟩
                · (try dsimp only); omega
              · (try simp only [beq_iff_eq, bne_iff_ne, ne_eq, decide_eq_true_eq, decide_eq_false_iff_not, beq_eq_false_iff_ne, bne_eq_false_iff_eq, Bool.not_eq_true', Bool.not_eq_false', Bool.not_eq_eq_eq_not, Bool.not_true, Bool.not_false, gt_iff_lt, ge_iff_le, Int.not_lt, Int.not_le] at h8)
                
                refine wc_seq ?_
                have q3 : ¬ (validM r = false ∨ controlM r = true) := by rintro (q | q) <;> simp_all
                refine wc_region ?_
                refine wl_val (r_move rfl) (ltn rfl) ?_
                refine wl_eff (e_call (r_call rfl Tryd.func19 rfl rfl) (width_ret HL hT)) (ltn rfl) ?_
                rintro _ w27 ⟨rfl, H27⟩
                refine wl_val (r_eql rfl rfl) (ltn rfl) ?_
                refine wl_val (r_assign rfl) (ltn rfl) ?_
                refine wl_nil ?_
                refine wq_seq ?_
                refine wc_cond rfl (fun h9 => ?_) (fun h9 => ?_)
                · (try simp only [beq_iff_eq, bne_iff_ne, ne_eq, decide_eq_true_eq, decide_eq_false_iff_not, beq_eq_false_iff_ne, bne_eq_false_iff_eq, Bool.not_eq_true', Bool.not_eq_false', Bool.not_eq_eq_eq_not, Bool.not_true, Bool.not_false, gt_iff_lt, ge_iff_le, Int.not_lt, Int.not_le] at h9)
                  have q4 := h9
                  obtain ⟨ou_y, HO_y⟩ := (H27).out
                  refine wc_region ?_
                  refine wl_val (r_load (plain_of Tryd.underlying23 rfl) rfl (cell_of_blk (HO_y).get.2 rfl)) (ltn rfl) ?_
                  refine wl_val (r_move rfl) (ltn rfl) ?_
                  refine wl_eff (e_call (r_call rfl Tryd.func42 rfl rfl) (join_ret HO_y.f2 (by omega))) (ltn rfl) ?_
                  rintro u29 w29 H29
                  refine wl_eff0 (e_storeL 0 (l' := [_]) H29.f2 Tryd.sizeOf23 rfl rfl (by first | rfl | exact Rd.one ((H29).row_rd)) rfl rfl) ?_
                  rintro _ w30 H30
                  have HO := Holds.mk_out (H30.f2.f2)
                  have HN : Holds w0 w30 (OutRep b1 (stepC C base r) • F) := by
                    unfold stepC
                    rw [if_neg q1, if_neg q2, if_neg q3, if_pos q4]
                    exact HO
                  refine wl_nil ?_
                  refine wq_block_normal ?_
                  refine wq_block_normal ?_
                  refine wq_seq ?_
                  skip
                  refine wc_region ?_
                  refine wl_val (r_add rfl rfl (by omega)) (ltn rfl) ?_
                  refine wl_val (r_move rfl) (ltn rfl) ?_
                  refine wl_nil ?_
                  refine wq_round (k + 1) ?_ ?_ ?_ ?_
                  · exact (Sub.cons rfl (Sub.nil _))
                  · exact (Sub.cons rfl (Sub.cons rfl (Sub.cons rfl (Sub.cons rfl (Sub.cons rfl (Sub.nil _))))))
                  · (try dsimp only)
                    exact ⟨by omega, by rw [cells_snoc C l k hkl, hr, hbase]; exact HN⟩
                  · (try dsimp only); omega
                · (try simp only [beq_iff_eq, bne_iff_ne, ne_eq, decide_eq_true_eq, decide_eq_false_iff_not, beq_eq_false_iff_ne, bne_eq_false_iff_eq, Bool.not_eq_true', Bool.not_eq_false', Bool.not_eq_eq_eq_not, Bool.not_true, Bool.not_false, gt_iff_lt, ge_iff_le, Int.not_lt, Int.not_le] at h9)
                  have q4 := h9
                  refine wc_seq ?_
                  refine wc_region ?_
                  refine wl_val (r_move rfl) (ltn rfl) ?_
                  refine wl_eff (e_call (r_call rfl Tryd.func19 rfl rfl) (width_ret H27 hT)) (ltn rfl) ?_
                  rintro _ w31 ⟨rfl, H31⟩
                  refine wl_val (r_eql rfl rfl) (ltn rfl) ?_
                  refine wl_val (r_assign rfl) (ltn rfl) ?_
                  refine wl_nil ?_
                  refine wq_seq ?_
                  refine wc_cond rfl (fun h10 => ?_) (fun h10 => ?_)
                  · (try simp only [beq_iff_eq, bne_iff_ne, ne_eq, decide_eq_true_eq, decide_eq_false_iff_not, beq_eq_false_iff_ne, bne_eq_false_iff_eq, Bool.not_eq_true', Bool.not_eq_false', Bool.not_eq_eq_eq_not, Bool.not_true, Bool.not_false, gt_iff_lt, ge_iff_le, Int.not_lt, Int.not_le] at h10)
                    have q5 := h10
                    obtain ⟨ou_y, HO_y⟩ := (H31).out
                    refine wc_region ?_
                    refine wl_val (r_load (plain_of Tryd.underlying23 rfl) rfl (cell_of_blk (HO_y).get.2 rfl)) (ltn rfl) ?_
                    refine wl_val (r_move rfl) (ltn rfl) ?_
                    refine wl_val (r_int_str Tryd.underlying21 Tryd.underlying9 rfl) (ltn rfl) ?_
                    refine wl_val (r_build (pl := #[(0, 1), (1, 1), (2, 1)]) (_) Tryd.underlying26 Tryd.zeroValue26 (fun w => by kernel_rfl) rfl (rfl)) (ltn rfl) ?_
                    refine wl_val (r_build (pl := #[(0, 1), (1, 1), (2, 1)]) (_) Tryd.underlying26 Tryd.zeroValue26 (fun w => by kernel_rfl) rfl (rfl)) (ltn rfl) ?_
                    refine wl_eff (e_lit_two HO_y Tryd.underlying23 Tryd.sizeOf26 Tryd.zeroValue26 rfl rfl rfl rfl rfl (by decide) (by decide)) (ltn rfl) ?_
                    rintro l33 w33 H33
                    refine wl_eff (e_append H33.f3 Tryd.underlying23 (show (Tryd.prog.info? 26).map (fun i => (i.zero, i.size, i.bytes)) = some (some (.agg #[.string .empty, .int .i64 0, .int .i64 0]), 3, 32) by kernel_rfl) rfl rfl rfl ((H33).row_rd) (ones_cons (by first | rfl | assumption) (ones_cons (by first | rfl | assumption) (ones_cons (by first | rfl | assumption) (ones_cons (by first | rfl | assumption) (ones_cons (by first | rfl | assumption) (ones_cons (by first | rfl | assumption) ones_nil)))))) (by omega) (by omega)) (ltn rfl) ?_
                    rintro l34 w34 H34
                    have Hd35 := H34.f2.right
                    refine wl_eff0 (e_storeL 0 (l' := [_]) Hd35.f2 Tryd.sizeOf23 rfl rfl (by first | rfl | exact Rd.one ((Hd35).row_rd)) rfl rfl) ?_
                    rintro _ w36 H36
                    have HO := Holds.mk_out (crow_two (c := (Utf8.encode r, 2)) (d := (emptyS, 0)) (H36.f2)).f2
                    have HN : Holds w0 w36 (OutRep b1 (stepC C base r) • F) := by
                      unfold stepC
                      rw [if_neg q1, if_neg q2, if_neg q3, if_neg q4, if_pos q5]
                      exact HO
                    refine wl_nil ?_
                    refine wq_block_normal ?_
                    refine wq_block_normal ?_
                    refine wq_seq ?_
                    skip
                    refine wc_region ?_
                    refine wl_val (r_add rfl rfl (by omega)) (ltn rfl) ?_
                    refine wl_val (r_move rfl) (ltn rfl) ?_
                    refine wl_nil ?_
                    refine wq_round (k + 1) ?_ ?_ ?_ ?_
                    · exact (Sub.cons rfl (Sub.nil _))
                    · exact (Sub.cons rfl (Sub.cons rfl (Sub.cons rfl (Sub.cons rfl (Sub.cons rfl (Sub.nil _))))))
                    · (try dsimp only)
                      exact ⟨by omega, by rw [cells_snoc C l k hkl, hr, hbase]; exact HN⟩
                    · (try dsimp only); omega
                  · (try simp only [beq_iff_eq, bne_iff_ne, ne_eq, decide_eq_true_eq, decide_eq_false_iff_not, beq_eq_false_iff_ne, bne_eq_false_iff_eq, Bool.not_eq_true', Bool.not_eq_false', Bool.not_eq_eq_eq_not, Bool.not_true, Bool.not_false, gt_iff_lt, ge_iff_le, Int.not_lt, Int.not_le] at h10)
                    have q5 := h10
                    refine wc_region ?_
                    refine wl_val (r_move rfl) (ltn rfl) ?_
                    refine wl_val (r_move rfl) (ltn rfl) ?_
                    refine wl_val (r_int_str Tryd.underlying21 Tryd.underlying9 rfl) (ltn rfl) ?_
                    refine wl_eff (e_lit_row (vs := [_]) H31 Tryd.underlying56 Tryd.sizeOf9 Tryd.zeroValue9 rfl rfl rfl (by decide) (ones_cons (by first | rfl | assumption) ones_nil)) (ltn rfl) ?_
                    rintro l37 w37 H37
                    refine wl_eff (e_call_fn rfl rfl (one_fn (ts := [Utf8.encode r]) H37.f2 (by simp; omega))) (ltn rfl) ?_
                    rintro _ w38 H38
                    have HN : Holds w0 w38 (OutRep b1 (stepC C base r) • F) := by
                      unfold stepC
                      rw [if_neg q1, if_neg q2, if_neg q3, if_neg q4, if_neg q5]
                      exact H38
                    refine wl_nil ?_
                    refine wq_block_normal ?_
                    refine wq_block_normal ?_
                    refine wq_seq ?_
                    skip
                    refine wc_region ?_
                    refine wl_val (r_add rfl rfl (by omega)) (ltn rfl) ?_
                    refine wl_val (r_move rfl) (ltn rfl) ?_
                    refine wl_nil ?_
                    refine wq_round (k + 1) ?_ ?_ ?_ ?_
                    · exact (Sub.cons rfl (Sub.nil _))
                    · exact (Sub.cons rfl (Sub.cons rfl (Sub.cons rfl (Sub.cons rfl (Sub.cons rfl (Sub.nil _))))))
                    · (try dsimp only)
                      exact ⟨by omega, by rw [cells_snoc C l k hkl, hr, hbase]; exact HN⟩
                    · (try dsimp only); omega
      · (try simp only [beq_iff_eq, bne_iff_ne, ne_eq, decide_eq_true_eq, decide_eq_false_iff_not, beq_eq_false_iff_ne, bne_eq_false_iff_eq, Bool.not_eq_true', Bool.not_eq_false', Bool.not_eq_eq_eq_not, Bool.not_true, Bool.not_false, gt_iff_lt, ge_iff_le, Int.not_lt, Int.not_le] at h4)
        refine wl_no rfl rfl rfl (ltn rfl) ?_
        refine wl_no rfl rfl rfl (ltn rfl) ?_
        refine wl_val (r_pick_f rfl rfl) (ltn rfl) ?_
        refine wl_val (r_move rfl) (ltn rfl) ?_
        refine wl_yes rfl rfl ?_
        refine wl_val (r_move rfl) (ltn rfl) ?_
        refine wl_yes rfl rfl ?_
        refine wl_val (r_eql rfl rfl) (ltn rfl) ?_
        refine wl_val (r_pick_f rfl rfl) (ltn rfl) ?_
        refine wl_val (r_assign rfl) (ltn rfl) ?_
        refine wl_nil ?_
        refine wq_seq ?_
        refine wc_cond rfl (fun h11 => ?_) (fun h11 => ?_)
        · (try simp only [beq_iff_eq, bne_iff_ne, ne_eq, decide_eq_true_eq, decide_eq_false_iff_not, beq_eq_false_iff_ne, bne_eq_false_iff_eq, Bool.not_eq_true', Bool.not_eq_false', Bool.not_eq_eq_eq_not, Bool.not_true, Bool.not_false, gt_iff_lt, ge_iff_le, Int.not_lt, Int.not_le] at h11)
          
          have q2 : 0 ≤ r ∧ r < 32 ∨ r = 127 := by omega
          refine wc_region ?_
          refine wl_val (r_move rfl) (ltn rfl) ?_
          refine wl_val (r_move rfl) (ltn rfl) ?_
          refine wl_val (r_bitsK .xor rfl rfl (by simp)) (ltn rfl) ?_
          refine wl_val (r_int_str Tryd.underlying21 Tryd.underlying9 rfl) (ltn rfl) ?_
          refine wl_eff (e_lit_row (vs := [_, _]) HL Tryd.underlying56 Tryd.sizeOf9 Tryd.zeroValue9 rfl rfl rfl (by decide) (ones_cons (by first | rfl | assumption) (ones_cons (by first | rfl | assumption) ones_nil))) (ltn rfl) ?_
          rintro l39 w39 H39
          refine wl_eff (e_call_fn rfl rfl (one_fn (ts := [hatS, Utf8.encode (bits .xor .i32 r 64)]) H39.f2 (by simp; omega))) (ltn rfl) ?_
          rintro _ w40 H40
          have HN : Holds w0 w40 (OutRep b1 (stepC C base r) • F) := by
            unfold stepC
            rw [if_neg q1, if_pos q2]
            exact H40
          refine wl_nil ?_
          refine wq_block_normal ?_
          refine wq_block_normal ?_
          refine wq_seq ?_
          skip
          refine wc_region ?_
          refine wl_val (r_add rfl rfl (by omega)) (ltn rfl) ?_
          refine wl_val (r_move rfl) (ltn rfl) ?_
          refine wl_nil ?_
          refine wq_round (k + 1) ?_ ?_ ?_ ?_
          · exact (Sub.cons rfl (Sub.nil _))
          · exact (Sub.cons rfl (Sub.cons rfl (Sub.cons rfl (Sub.cons rfl (Sub.cons rfl (Sub.nil _))))))
          · (try dsimp only)
            exact ⟨by omega, by rw [cells_snoc C l k hkl, hr, hbase]; exact HN⟩
          · (try dsimp only); omega
        · (try simp only [beq_iff_eq, bne_iff_ne, ne_eq, decide_eq_true_eq, decide_eq_false_iff_not, beq_eq_false_iff_ne, bne_eq_false_iff_eq, Bool.not_eq_true', Bool.not_eq_false', Bool.not_eq_eq_eq_not, Bool.not_true, Bool.not_false, gt_iff_lt, ge_iff_le, Int.not_lt, Int.not_le] at h11)
          
          refine wc_seq ?_
          have q2 : ¬ (0 ≤ r ∧ r < 32 ∨ r = 127) := by omega
          refine wc_region ?_
          refine wl_val (r_move rfl) (ltn rfl) ?_
          refine wl_eff (e_call (r_call rfl Tryd.func41 rfl rfl) (is_ret)) (ltn rfl) ?_
          rintro _ _ ⟨rfl, rfl⟩
          refine wl_val (r_not rfl) (ltn rfl) ?_
          refine wl_split rfl (ltn rfl) (fun h12 => ?_) (fun h12 => ?_)
          · (try simp only [beq_iff_eq, bne_iff_ne, ne_eq, decide_eq_true_eq, decide_eq_false_iff_not, beq_eq_false_iff_ne, bne_eq_false_iff_eq, Bool.not_eq_true', Bool.not_eq_false', Bool.not_eq_eq_eq_not, Bool.not_true, Bool.not_false, gt_iff_lt, ge_iff_le, Int.not_lt, Int.not_le] at h12)
            refine wl_no rfl rfl rfl (ltn rfl) ?_
            refine wl_no rfl rfl rfl (ltn rfl) ?_
            refine wl_val (r_pick_t rfl rfl) (ltn rfl) ?_
            refine wl_val (r_assign rfl) (ltn rfl) ?_
            refine wl_nil ?_
            refine wq_seq ?_
            refine wc_cond_t rfl ?_
            have q3 : validM r = false ∨ controlM r = true := by first | exact .inl (by assumption) | exact .inr (by assumption)
            refine wc_region ?_
            refine wl_val (r_move rfl) (ltn rfl) ?_
            refine wl_eff (e_lit_row (vs := [_]) HL Tryd.underlying56 Tryd.sizeOf9 Tryd.zeroValue9 rfl rfl rfl (by decide) (ones_cons (by first | rfl | assumption) ones_nil)) (ltn rfl) ?_
            rintro l42 w42 H42
            refine wl_eff (e_call_fn rfl rfl (one_fn (ts := [badS]) H42.f2 (by simp; omega))) (ltn rfl) ?_
            rintro _ w43 H43
            have HN : Holds w0 w43 (OutRep b1 (stepC C base r) • F) := by
              unfold stepC
              rw [if_neg q1, if_neg q2, if_pos q3]
              exact H43
            refine wl_nil ?_
            refine wq_block_normal ?_
            refine wq_block_normal ?_
            refine wq_seq ?_
            skip
            refine wc_region ?_
            refine wl_val (r_add rfl rfl (by omega)) (ltn rfl) ?_
            refine wl_val (r_move rfl) (ltn rfl) ?_
            refine wl_nil ?_
            refine wq_round (k + 1) ?_ ?_ ?_ ?_
            · exact (Sub.cons rfl (Sub.nil _))
            · exact (Sub.cons rfl (Sub.cons rfl (Sub.cons rfl (Sub.cons rfl (Sub.cons rfl (Sub.nil _))))))
            · (try dsimp only)
              exact ⟨by omega, by rw [cells_snoc C l k hkl, hr, hbase]; exact HN⟩
            · (try dsimp only); omega
          · (try simp only [beq_iff_eq, bne_iff_ne, ne_eq, decide_eq_true_eq, decide_eq_false_iff_not, beq_eq_false_iff_ne, bne_eq_false_iff_eq, Bool.not_eq_true', Bool.not_eq_false', Bool.not_eq_eq_eq_not, Bool.not_true, Bool.not_false, gt_iff_lt, ge_iff_le, Int.not_lt, Int.not_le] at h12)
            refine wl_yes rfl rfl ?_
            refine wl_val (r_move rfl) (ltn rfl) ?_
            refine wl_yes rfl rfl ?_
            refine wl_eff (e_call (r_call rfl Tryd.func17 rfl rfl) (control_ret)) (ltn rfl) ?_
            rintro _ _ ⟨rfl, rfl⟩
            refine wl_val (r_pick_f rfl rfl) (ltn rfl) ?_
            refine wl_val (r_assign rfl) (ltn rfl) ?_
            refine wl_nil ?_
            refine wq_seq ?_
            refine wc_cond rfl (fun h13 => ?_) (fun h13 => ?_)
            · (try simp only [beq_iff_eq, bne_iff_ne, ne_eq, decide_eq_true_eq, decide_eq_false_iff_not, beq_eq_false_iff_ne, bne_eq_false_iff_eq, Bool.not_eq_true', Bool.not_eq_false', Bool.not_eq_eq_eq_not, Bool.not_true, Bool.not_false, gt_iff_lt, ge_iff_le, Int.not_lt, Int.not_le] at h13)
              
              have q3 : validM r = false ∨ controlM r = true := by first | exact .inl (by assumption) | exact .inr (by assumption)
              refine wc_region ?_
              refine wl_val (r_move rfl) (ltn rfl) ?_
              refine wl_eff (e_lit_row (vs := [_]) HL Tryd.underlying56 Tryd.sizeOf9 Tryd.zeroValue9 rfl rfl rfl (by decide) (ones_cons (by first | rfl | assumption) ones_nil)) (ltn rfl) ?_
              rintro l45 w45 H45
              refine wl_eff (e_call_fn rfl rfl (one_fn (ts := [badS]) H45.f2 (by simp; omega))) (ltn rfl) ?_
              rintro _ w46 H46
              have HN : Holds w0 w46 (OutRep b1 (stepC C base r) • F) := by
                unfold stepC
                rw [if_neg q1, if_neg q2, if_pos q3]
                exact H46
              refine wl_nil ?_
              refine wq_block_normal ?_
              refine wq_block_normal ?_
              refine wq_seq ?_
              skip
              refine wc_region ?_
              refine wl_val (r_add rfl rfl (by omega)) (ltn rfl) ?_
              refine wl_val (r_move rfl) (ltn rfl) ?_
              refine wl_nil ?_
              refine wq_round (k + 1) ?_ ?_ ?_ ?_
              · exact (Sub.cons rfl (Sub.nil _))
              · exact (Sub.cons rfl (Sub.cons rfl (Sub.cons rfl (Sub.cons rfl (Sub.cons rfl (Sub.nil _))))))
              · (try dsimp only)
                exact ⟨by omega, by rw [cells_snoc C l k hkl, hr, hbase]; exact HN⟩
              · (try dsimp only); omega
            · (try simp only [beq_iff_eq, bne_iff_ne, ne_eq, decide_eq_true_eq, decide_eq_false_iff_not, beq_eq_false_iff_ne, bne_eq_false_iff_eq, Bool.not_eq_true', Bool.not_eq_false', Bool.not_eq_eq_eq_not, Bool.not_true, Bool.not_false, gt_iff_lt, ge_iff_le, Int.not_lt, Int.not_le] at h13)
              
              refine wc_seq ?_
              have q3 : ¬ (validM r = false ∨ controlM r = true) := by rintro (q | q) <;> simp_all
              refine wc_region ?_
              refine wl_val (r_move rfl) (ltn rfl) ?_
              refine wl_eff (e_call (r_call rfl Tryd.func19 rfl rfl) (width_ret HL hT)) (ltn rfl) ?_
              rintro _ w47 ⟨rfl, H47⟩
              refine wl_val (r_eql rfl rfl) (ltn rfl) ?_
              refine wl_val (r_assign rfl) (ltn rfl) ?_
              refine wl_nil ?_
              refine wq_seq ?_
              refine wc_cond rfl (fun h14 => ?_) (fun h14 => ?_)
              · (try simp only [beq_iff_eq, bne_iff_ne, ne_eq, decide_eq_true_eq, decide_eq_false_iff_not, beq_eq_false_iff_ne, bne_eq_false_iff_eq, Bool.not_eq_true', Bool.not_eq_false', Bool.not_eq_eq_eq_not, Bool.not_true, Bool.not_false, gt_iff_lt, ge_iff_le, Int.not_lt, Int.not_le] at h14)
                have q4 := h14
                obtain ⟨ou_y, HO_y⟩ := (H47).out
                refine wc_region ?_
                refine wl_val (r_load (plain_of Tryd.underlying23 rfl) rfl (cell_of_blk (HO_y).get.2 rfl)) (ltn rfl) ?_
                refine wl_val (r_move rfl) (ltn rfl) ?_
                refine wl_eff (e_call (r_call rfl Tryd.func42 rfl rfl) (join_ret HO_y.f2 (by omega))) (ltn rfl) ?_
                rintro u49 w49 H49
                refine wl_eff0 (e_storeL 0 (l' := [_]) H49.f2 Tryd.sizeOf23 rfl rfl (by first | rfl | exact Rd.one ((H49).row_rd)) rfl rfl) ?_
                rintro _ w50 H50
                have HO := Holds.mk_out (H50.f2.f2)
                have HN : Holds w0 w50 (OutRep b1 (stepC C base r) • F) := by
                  unfold stepC
                  rw [if_neg q1, if_neg q2, if_neg q3, if_pos q4]
                  exact HO
                refine wl_nil ?_
                refine wq_block_normal ?_
                refine wq_block_normal ?_
                refine wq_seq ?_
                skip
                refine wc_region ?_
                refine wl_val (r_add rfl rfl (by omega)) (ltn rfl) ?_
                refine wl_val (r_move rfl) (ltn rfl) ?_
                refine wl_nil ?_
                refine wq_round (k + 1) ?_ ?_ ?_ ?_
                · exact (Sub.cons rfl (Sub.nil _))
                · exact (Sub.cons rfl (Sub.cons rfl (Sub.cons rfl (Sub.cons rfl (Sub.cons rfl (Sub.nil _))))))
                · (try dsimp only)
                  exact ⟨by omega, by rw [cells_snoc C l k hkl, hr, hbase]; exact HN⟩
                · (try dsimp only); omega
              · (try simp only [beq_iff_eq, bne_iff_ne, ne_eq, decide_eq_true_eq, decide_eq_false_iff_not, beq_eq_false_iff_ne, bne_eq_false_iff_eq, Bool.not_eq_true', Bool.not_eq_false', Bool.not_eq_eq_eq_not, Bool.not_true, Bool.not_false, gt_iff_lt, ge_iff_le, Int.not_lt, Int.not_le] at h14)
                have q4 := h14
                refine wc_seq ?_
                refine wc_region ?_
                refine wl_val (r_move rfl) (ltn rfl) ?_
                refine wl_eff (e_call (r_call rfl Tryd.func19 rfl rfl) (width_ret H47 hT)) (ltn rfl) ?_
                rintro _ w51 ⟨rfl, H51⟩
                refine wl_val (r_eql rfl rfl) (ltn rfl) ?_
                refine wl_val (r_assign rfl) (ltn rfl) ?_
                refine wl_nil ?_
                refine wq_seq ?_
                refine wc_cond rfl (fun h15 => ?_) (fun h15 => ?_)
                · (try simp only [beq_iff_eq, bne_iff_ne, ne_eq, decide_eq_true_eq, decide_eq_false_iff_not, beq_eq_false_iff_ne, bne_eq_false_iff_eq, Bool.not_eq_true', Bool.not_eq_false', Bool.not_eq_eq_eq_not, Bool.not_true, Bool.not_false, gt_iff_lt, ge_iff_le, Int.not_lt, Int.not_le] at h15)
                  have q5 := h15
                  obtain ⟨ou_y, HO_y⟩ := (H51).out
                  refine wc_region ?_
                  refine wl_val (r_load (plain_of Tryd.underlying23 rfl) rfl (cell_of_blk (HO_y).get.2 rfl)) (ltn rfl) ?_
                  refine wl_val (r_move rfl) (ltn rfl) ?_
                  refine wl_val (r_int_str Tryd.underlying21 Tryd.underlying9 rfl) (ltn rfl) ?_
                  refine wl_val (r_build (pl := #[(0, 1), (1, 1), (2, 1)]) (_) Tryd.underlying26 Tryd.zeroValue26 (fun w => by kernel_rfl) rfl (rfl)) (ltn rfl) ?_
                  refine wl_val (r_build (pl := #[(0, 1), (1, 1), (2, 1)]) (_) Tryd.underlying26 Tryd.zeroValue26 (fun w => by kernel_rfl) rfl (rfl)) (ltn rfl) ?_
                  refine wl_eff (e_lit_two HO_y Tryd.underlying23 Tryd.sizeOf26 Tryd.zeroValue26 rfl rfl rfl rfl rfl (by decide) (by decide)) (ltn rfl) ?_
                  rintro l53 w53 H53
                  refine wl_eff (e_append H53.f3 Tryd.underlying23 (show (Tryd.prog.info? 26).map (fun i => (i.zero, i.size, i.bytes)) = some (some (.agg #[.string .empty, .int .i64 0, .int .i64 0]), 3, 32) by kernel_rfl) rfl rfl rfl ((H53).row_rd) (ones_cons (by first | rfl | assumption) (ones_cons (by first | rfl | assumption) (ones_cons (by first | rfl | assumption) (ones_cons (by first | rfl | assumption) (ones_cons (by first | rfl | assumption) (ones_cons (by first | rfl | assumption) ones_nil)))))) (by omega) (by omega)) (ltn rfl) ?_
                  rintro l54 w54 H54
                  have Hd55 := H54.f2.right
                  refine wl_eff0 (e_storeL 0 (l' := [_]) Hd55.f2 Tryd.sizeOf23 rfl rfl (by first | rfl | exact Rd.one ((Hd55).row_rd)) rfl rfl) ?_
                  rintro _ w56 H56
                  have HO := Holds.mk_out (crow_two (c := (Utf8.encode r, 2)) (d := (emptyS, 0)) (H56.f2)).f2
                  have HN : Holds w0 w56 (OutRep b1 (stepC C base r) • F) := by
                    unfold stepC
                    rw [if_neg q1, if_neg q2, if_neg q3, if_neg q4, if_pos q5]
                    exact HO
                  refine wl_nil ?_
                  refine wq_block_normal ?_
                  refine wq_block_normal ?_
                  refine wq_seq ?_
                  skip
                  refine wc_region ?_
                  refine wl_val (r_add rfl rfl (by omega)) (ltn rfl) ?_
                  refine wl_val (r_move rfl) (ltn rfl) ?_
                  refine wl_nil ?_
                  refine wq_round (k + 1) ?_ ?_ ?_ ?_
                  · exact (Sub.cons rfl (Sub.nil _))
                  · exact (Sub.cons rfl (Sub.cons rfl (Sub.cons rfl (Sub.cons rfl (Sub.cons rfl (Sub.nil _))))))
                  · (try dsimp only)
                    exact ⟨by omega, by rw [cells_snoc C l k hkl, hr, hbase]; exact HN⟩
                  · (try dsimp only); omega
                · (try simp only [beq_iff_eq, bne_iff_ne, ne_eq, decide_eq_true_eq, decide_eq_false_iff_not, beq_eq_false_iff_ne, bne_eq_false_iff_eq, Bool.not_eq_true', Bool.not_eq_false', Bool.not_eq_eq_eq_not, Bool.not_true, Bool.not_false, gt_iff_lt, ge_iff_le, Int.not_lt, Int.not_le] at h15)
                  have q5 := h15
                  refine wc_region ?_
                  refine wl_val (r_move rfl) (ltn rfl) ?_
                  refine wl_val (r_move rfl) (ltn rfl) ?_
                  refine wl_val (r_int_str Tryd.underlying21 Tryd.underlying9 rfl) (ltn rfl) ?_
                  refine wl_eff (e_lit_row (vs := [_]) H51 Tryd.underlying56 Tryd.sizeOf9 Tryd.zeroValue9 rfl rfl rfl (by decide) (ones_cons (by first | rfl | assumption) ones_nil)) (ltn rfl) ?_
                  rintro l57 w57 H57
                  refine wl_eff (e_call_fn rfl rfl (one_fn (ts := [Utf8.encode r]) H57.f2 (by simp; omega))) (ltn rfl) ?_
                  rintro _ w58 H58
                  have HN : Holds w0 w58 (OutRep b1 (stepC C base r) • F) := by
                    unfold stepC
                    rw [if_neg q1, if_neg q2, if_neg q3, if_neg q4, if_neg q5]
                    exact H58
                  refine wl_nil ?_
                  refine wq_block_normal ?_
                  refine wq_block_normal ?_
                  refine wq_seq ?_
                  skip
                  refine wc_region ?_
                  refine wl_val (r_add rfl rfl (by omega)) (ltn rfl) ?_
                  refine wl_val (r_move rfl) (ltn rfl) ?_
                  refine wl_nil ?_
                  refine wq_round (k + 1) ?_ ?_ ?_ ?_
                  · exact (Sub.cons rfl (Sub.nil _))
                  · exact (Sub.cons rfl (Sub.cons rfl (Sub.cons rfl (Sub.cons rfl (Sub.cons rfl (Sub.nil _))))))
                  · (try dsimp only)
                    exact ⟨by omega, by rw [cells_snoc C l k hkl, hr, hbase]; exact HN⟩
                  · (try dsimp only); omega
  · (try simp only [beq_iff_eq, bne_iff_ne, ne_eq, decide_eq_true_eq, decide_eq_false_iff_not, beq_eq_false_iff_ne, bne_eq_false_iff_eq, Bool.not_eq_true', Bool.not_eq_false', Bool.not_eq_eq_eq_not, Bool.not_true, Bool.not_false, gt_iff_lt, ge_iff_le, Int.not_lt, Int.not_le] at h1)
    
    refine wc_exit ?_
    refine wq_then_exit ?_
    refine wq_then_exit ?_
    refine wq_block_hit ?_
    refine wq_seq ?_
    refine wc_seq ?_
    obtain rfl : k = l.length := by omega
    rw [List.take_length] at HL
    obtain ⟨ou_z, HO_z⟩ := (HL).out
    refine wc_region ?_
    refine wl_val (r_load (plain_of Tryd.underlying23 rfl) rfl (cell_of_blk (HO_z).get.2 rfl)) (ltn rfl) ?_
    refine wl_val (r_assign rfl) (ltn rfl) ?_
    refine wl_nil ?_
    refine wq_seq ?_
    refine wc_ret ?_
    refine wq_end1 (.inl rfl) Tryd.results12 rfl ?_
    exact HO_z.right
theorem span_ret (H : Holds w0 w F) (hT : Tabs w0) (hv : FRdI w0 F .i32 v l) (hl : Runs32 l) (hL : l.length ≤ 4294967295) (hcol : col ≤ 9223372036854775807) :
    Ret Tryd.prog 16 #[v, .int .i64 col] w fun v' w' => v' = .int .i64 ((cellsM l col).length : Nat) ∧ Holds w0 w' F := by
  refine ret_enter Tryd.func16 rfl Tryd.ntmps16 (Nat.le_of_ble_eq_true rfl) ?_
  dsimp only [slots0, Nat.reduceAdd]
  refine wc_seq ?_
  refine wc_region ?_
  refine wl_val (r_assign rfl) (ltn rfl) ?_
  refine wl_nil ?_
  refine wq_seq ?_
  refine wc_seq ?_
  refine wc_region ?_
  refine wl_val (r_move rfl) (ltn rfl) ?_
  refine wl_val (r_move rfl) (ltn rfl) ?_
  refine wl_eff (e_call (r_call rfl Tryd.func12 rfl rfl) (cells_ret H hT (fun W HW => hv _ (HW)) hl hL hcol)) (ltn rfl) ?_
  rintro u1 w1 H1
  refine wl_val (r_lenS ((H1).row_rd) Tryd.underlying23 rfl) (ltn rfl) ?_
  refine wl_val (r_assign rfl) (ltn rfl) ?_
  refine wl_nil ?_
  refine wq_seq ?_
  refine wc_ret ?_
  refine wq_end1 (.inl rfl) Tryd.results16 rfl ?_
  exact ⟨rfl, H1.right⟩
end
end Go.Proofs.YtmkmffoadapmnaaDoor
