/- UcellSpans, walked. -/
import Derived.Test.YtmkmffoadapmnaaDoorULive
import Derived.Test.YtmkmffoadapmnaaDoorUSpanM
set_option linter.unusedSimpArgs false
set_option linter.unusedVariables false
namespace Go.Proofs.YtmkmffoadapmnaaDoor
open Go.RowKit
theorem ucell_spans {w : World} {v u : Value} {a b : List Int} {col : Int} (hT : Tabs w) (hU : UTabs w) (g : RdI w .i32 v a) (g2 : RdI w .i32 u b) (ha : Runs32 a) (hb : Runs32 b) (hL : b.length ≤ 1073741824) :
    Ret Tryd.prog 5 #[v, u, .int .i64 col] w fun v w' => v = .bool true ∧ Below w.heap.size w w' := by
  obtain ⟨F, H⟩ : ∃ F, Holds w w F := ⟨_, Holds.start w⟩
  have hv : FRdI w F .i32 v a := FRdI.of_start g F
  have hu : FRdI w F .i32 u b := FRdI.of_start g2 F
  obtain ⟨_, cv, _, hcv1, hcv2, _⟩ := g.open
  obtain ⟨_, cu, _, hcu1, hcu2, _⟩ := g2.open
  have hab : Runs32 (a ++ b) := fun x hx => by
    rcases List.mem_append.1 hx with q | q
    · exact ha x q
    · exact hb x q
  have hsp := spans_len (a := a) (b := b) (col := col)
  have hla : (cellsM a col).length ≤ 8 * a.length := by have := cellsF_len (colM col) a a.length; rw [List.take_length] at this; unfold cellsM; omega
  have hlb : (cellsM b (col + ((cellsM a col).length : Nat))).length ≤ 8 * b.length := by have := cellsF_len (colM (col + ((cellsM a col).length : Nat))) b b.length; rw [List.take_length] at this; unfold cellsM; unfold cellsM at this; omega
  have hlab : (a ++ b).length = a.length + b.length := List.length_append
  refine ret_enter Tryd.func5 rfl Tryd.ntmps5 (Nat.le_of_ble_eq_true rfl) ?_
  dsimp only [slots0, Nat.reduceAdd]
  refine wc_seq ?_
  refine wc_region ?_
  refine wl_val (r_assign rfl) (ltn rfl) ?_
  refine wl_nil ?_
  refine wq_seq ?_
  refine wc_seq ?_
  refine wc_seq ?_
  refine wc_region ?_
  refine wl_val (r_move rfl) (ltn rfl) ?_
  refine wl_val (r_lss rfl rfl) (ltn rfl) ?_
  refine wl_split rfl (ltn rfl) (fun h1 => ?_) (fun h1 => ?_)
  · (try simp only [beq_iff_eq, bne_iff_ne, ne_eq, decide_eq_true_eq, decide_eq_false_iff_not, beq_eq_false_iff_ne, bne_eq_false_iff_eq, Bool.not_eq_true', Bool.not_eq_false', Bool.not_eq_eq_eq_not, Bool.not_true, Bool.not_false, gt_iff_lt, ge_iff_le, Int.not_lt, Int.not_le] at h1)
    refine wl_no rfl rfl rfl (ltn rfl) ?_
    refine wl_no rfl rfl rfl (ltn rfl) ?_
    refine wl_val (r_pick_t rfl rfl) (ltn rfl) ?_
    refine wl_val (r_move rfl) (ltn rfl) ?_
    refine wl_no rfl rfl rfl (ltn rfl) ?_
    refine wl_no rfl rfl rfl (ltn rfl) ?_
    refine wl_no rfl rfl rfl (ltn rfl) ?_
    refine wl_val (r_pick_t rfl rfl) (ltn rfl) ?_
    refine wl_val (r_move rfl) (ltn rfl) ?_
    refine wl_no rfl rfl rfl (ltn rfl) ?_
    refine wl_no rfl rfl rfl (ltn rfl) ?_
    refine wl_val (r_pick_t rfl rfl) (ltn rfl) ?_
    refine wl_nil ?_
    refine wq_seq ?_
    refine wc_cond_t rfl ?_
    refine wc_seq ?_
    refine wc_region ?_
    refine wl_eff (e_call (r_call rfl Tryd.func13 rfl rfl) (ulive_ret H hT hU)) (ltn rfl) ?_
    rintro _ w1 ⟨rfl, H1⟩
    refine wl_val (r_assign rfl) (ltn rfl) ?_
    refine wl_nil ?_
    refine wq_seq ?_
    refine wc_ret ?_
    refine wq_then_ret ?_
    refine wq_end1 (.inl rfl) Tryd.results5 rfl ?_
    exact ⟨rfl, H1.base⟩
  · (try simp only [beq_iff_eq, bne_iff_ne, ne_eq, decide_eq_true_eq, decide_eq_false_iff_not, beq_eq_false_iff_ne, bne_eq_false_iff_eq, Bool.not_eq_true', Bool.not_eq_false', Bool.not_eq_eq_eq_not, Bool.not_true, Bool.not_false, gt_iff_lt, ge_iff_le, Int.not_lt, Int.not_le] at h1)
    refine wl_yes rfl rfl ?_
    refine wl_val (r_move rfl) (ltn rfl) ?_
    refine wl_yes rfl rfl ?_
    refine wl_val (r_gtr rfl rfl) (ltn rfl) ?_
    refine wl_val (r_pick_f rfl rfl) (ltn rfl) ?_
    refine wl_split rfl (ltn rfl) (fun h2 => ?_) (fun h2 => ?_)
    · (try simp only [beq_iff_eq, bne_iff_ne, ne_eq, decide_eq_true_eq, decide_eq_false_iff_not, beq_eq_false_iff_ne, bne_eq_false_iff_eq, Bool.not_eq_true', Bool.not_eq_false', Bool.not_eq_eq_eq_not, Bool.not_true, Bool.not_false, gt_iff_lt, ge_iff_le, Int.not_lt, Int.not_le] at h2)
      refine wl_no rfl rfl rfl (ltn rfl) ?_
      refine wl_no rfl rfl rfl (ltn rfl) ?_
      refine wl_no rfl rfl rfl (ltn rfl) ?_
      refine wl_val (r_pick_t rfl rfl) (ltn rfl) ?_
      refine wl_val (r_move rfl) (ltn rfl) ?_
      refine wl_no rfl rfl rfl (ltn rfl) ?_
      refine wl_no rfl rfl rfl (ltn rfl) ?_
      refine wl_val (r_pick_t rfl rfl) (ltn rfl) ?_
      refine wl_nil ?_
      refine wq_seq ?_
      refine wc_cond_t rfl ?_
      refine wc_seq ?_
      refine wc_region ?_
      refine wl_eff (e_call (r_call rfl Tryd.func13 rfl rfl) (ulive_ret H hT hU)) (ltn rfl) ?_
      rintro _ w2 ⟨rfl, H2⟩
      refine wl_val (r_assign rfl) (ltn rfl) ?_
      refine wl_nil ?_
      refine wq_seq ?_
      refine wc_ret ?_
      refine wq_then_ret ?_
      refine wq_end1 (.inl rfl) Tryd.results5 rfl ?_
      exact ⟨rfl, H2.base⟩
    · (try simp only [beq_iff_eq, bne_iff_ne, ne_eq, decide_eq_true_eq, decide_eq_false_iff_not, beq_eq_false_iff_ne, bne_eq_false_iff_eq, Bool.not_eq_true', Bool.not_eq_false', Bool.not_eq_eq_eq_not, Bool.not_true, Bool.not_false, gt_iff_lt, ge_iff_le, Int.not_lt, Int.not_le] at h2)
      refine wl_yes rfl rfl ?_
      refine wl_val (r_move rfl) (ltn rfl) ?_
      refine wl_yes rfl rfl ?_
      refine wl_val (r_lenR (hv _ (H)) Tryd.underlying22 rfl) (ltn rfl) ?_
      refine wl_yes rfl rfl ?_
      refine wl_val (r_gtr rfl rfl) (ltn rfl) ?_
      refine wl_val (r_pick_f rfl rfl) (ltn rfl) ?_
      refine wl_split rfl (ltn rfl) (fun h3 => ?_) (fun h3 => ?_)
      · (try simp only [beq_iff_eq, bne_iff_ne, ne_eq, decide_eq_true_eq, decide_eq_false_iff_not, beq_eq_false_iff_ne, bne_eq_false_iff_eq, Bool.not_eq_true', Bool.not_eq_false', Bool.not_eq_eq_eq_not, Bool.not_true, Bool.not_false, gt_iff_lt, ge_iff_le, Int.not_lt, Int.not_le] at h3)
        refine wl_no rfl rfl rfl (ltn rfl) ?_
        refine wl_no rfl rfl rfl (ltn rfl) ?_
        refine wl_val (r_pick_t rfl rfl) (ltn rfl) ?_
        refine wl_nil ?_
        refine wq_seq ?_
        refine wc_cond_t rfl ?_
        refine wc_seq ?_
        refine wc_region ?_
        refine wl_eff (e_call (r_call rfl Tryd.func13 rfl rfl) (ulive_ret H hT hU)) (ltn rfl) ?_
        rintro _ w3 ⟨rfl, H3⟩
        refine wl_val (r_assign rfl) (ltn rfl) ?_
        refine wl_nil ?_
        refine wq_seq ?_
        refine wc_ret ?_
        refine wq_then_ret ?_
        refine wq_end1 (.inl rfl) Tryd.results5 rfl ?_
        exact ⟨rfl, H3.base⟩
      · (try simp only [beq_iff_eq, bne_iff_ne, ne_eq, decide_eq_true_eq, decide_eq_false_iff_not, beq_eq_false_iff_ne, bne_eq_false_iff_eq, Bool.not_eq_true', Bool.not_eq_false', Bool.not_eq_eq_eq_not, Bool.not_true, Bool.not_false, gt_iff_lt, ge_iff_le, Int.not_lt, Int.not_le] at h3)
        refine wl_yes rfl rfl ?_
        refine wl_eff (e_call (r_call rfl Tryd.func13 rfl rfl) (ulive_ret H hT hU)) (ltn rfl) ?_
        rintro _ w4 ⟨rfl, H4⟩
        refine wl_yes rfl rfl ?_
        refine wl_val (r_not rfl) (ltn rfl) ?_
        refine wl_val (r_pick_f rfl rfl) (ltn rfl) ?_
        refine wl_nil ?_
        refine wq_seq ?_
        refine wc_cond rfl (fun h4 => ?_) (fun h4 => ?_)
        · (try simp only [beq_iff_eq, bne_iff_ne, ne_eq, decide_eq_true_eq, decide_eq_false_iff_not, beq_eq_false_iff_ne, bne_eq_false_iff_eq, Bool.not_eq_true', Bool.not_eq_false', Bool.not_eq_eq_eq_not, Bool.not_true, Bool.not_false, gt_iff_lt, ge_iff_le, Int.not_lt, Int.not_le] at h4)
          
          refine wc_seq ?_
          refine wc_region ?_
          refine wl_eff (e_call (r_call rfl Tryd.func13 rfl rfl) (ulive_ret H4 hT hU)) (ltn rfl) ?_
          rintro _ w5 ⟨rfl, H5⟩
          refine wl_val (r_assign rfl) (ltn rfl) ?_
          refine wl_nil ?_
          refine wq_seq ?_
          refine wc_ret ?_
          refine wq_then_ret ?_
          refine wq_end1 (.inl rfl) Tryd.results5 rfl ?_
          exact ⟨rfl, H5.base⟩
        · (try simp only [beq_iff_eq, bne_iff_ne, ne_eq, decide_eq_true_eq, decide_eq_false_iff_not, beq_eq_false_iff_ne, bne_eq_false_iff_eq, Bool.not_eq_true', Bool.not_eq_false', Bool.not_eq_eq_eq_not, Bool.not_true, Bool.not_false, gt_iff_lt, ge_iff_le, Int.not_lt, Int.not_le] at h4)
          
          refine wc_skip ?_
          refine wq_seq ?_
          refine wc_seq ?_
          refine wc_seq ?_
          refine wc_region ?_
          refine wl_val (r_move rfl) (ltn rfl) ?_
          refine wl_val (r_lenR (hu _ (H4)) Tryd.underlying22 rfl) (ltn rfl) ?_
          refine wl_val (r_gtr rfl rfl) (ltn rfl) ?_
          refine wl_split rfl (ltn rfl) (fun h5 => ?_) (fun h5 => ?_)
          · (try simp only [beq_iff_eq, bne_iff_ne, ne_eq, decide_eq_true_eq, decide_eq_false_iff_not, beq_eq_false_iff_ne, bne_eq_false_iff_eq, Bool.not_eq_true', Bool.not_eq_false', Bool.not_eq_eq_eq_not, Bool.not_true, Bool.not_false, gt_iff_lt, ge_iff_le, Int.not_lt, Int.not_le] at h5)
            refine wl_yes rfl rfl ?_
            refine wl_val (r_move rfl) (ltn rfl) ?_
            refine wl_yes rfl rfl ?_
            obtain ⟨bu, ou, cu, eu⟩ := RdI.posV (hu _ (H4)) (by omega)
            cases eu
            refine wl_val (r_index Tryd.underlying22 Tryd.sizeOf21 rfl rfl (by omega)) (ltn rfl) ?_
            refine wl_yes rfl rfl ?_
            refine wl_val (r_load (plain_of Tryd.underlying21 rfl) rfl (by first | exact RdI.at1n (hu _ (H4)) (by omega) | exact RdI.at0 (hu _ (H4)) (by omega) | exact RdI.at1 (hu _ (H4)) (by omega))) (ltn rfl) ?_
            refine wl_yes rfl rfl ?_
            refine wl_eff (e_call (r_call rfl Tryd.func17 rfl rfl) (control_ret)) (ltn rfl) ?_
            rintro _ _ ⟨rfl, rfl⟩
            refine wl_yes rfl rfl ?_
            refine wl_val (r_not rfl) (ltn rfl) ?_
            refine wl_val (r_pick_t rfl rfl) (ltn rfl) ?_
            refine wl_split rfl (ltn rfl) (fun h6 => ?_) (fun h6 => ?_)
            · (try simp only [beq_iff_eq, bne_iff_ne, ne_eq, decide_eq_true_eq, decide_eq_false_iff_not, beq_eq_false_iff_ne, bne_eq_false_iff_eq, Bool.not_eq_true', Bool.not_eq_false', Bool.not_eq_eq_eq_not, Bool.not_true, Bool.not_false, gt_iff_lt, ge_iff_le, Int.not_lt, Int.not_le] at h6)
              refine wl_yes rfl rfl ?_
              refine wl_val (r_move rfl) (ltn rfl) ?_
              refine wl_yes rfl rfl ?_
              refine wl_val (r_index Tryd.underlying22 Tryd.sizeOf21 rfl rfl (by omega)) (ltn rfl) ?_
              refine wl_yes rfl rfl ?_
              refine wl_val (r_load (plain_of Tryd.underlying21 rfl) rfl (by first | exact RdI.at1n (hu _ (H4)) (by omega) | exact RdI.at0 (hu _ (H4)) (by omega) | exact RdI.at1 (hu _ (H4)) (by omega))) (ltn rfl) ?_
              refine wl_yes rfl rfl ?_
              refine wl_eff (e_call (r_call rfl Tryd.func18 rfl rfl) (ref_rune_ret)) (ltn rfl) ?_
              rintro _ _ ⟨rfl, rfl⟩
              refine wl_val (r_pick_t rfl rfl) (ltn rfl) ?_
              refine wl_split rfl (ltn rfl) (fun h7 => ?_) (fun h7 => ?_)
              · (try simp only [beq_iff_eq, bne_iff_ne, ne_eq, decide_eq_true_eq, decide_eq_false_iff_not, beq_eq_false_iff_ne, bne_eq_false_iff_eq, Bool.not_eq_true', Bool.not_eq_false', Bool.not_eq_eq_eq_not, Bool.not_true, Bool.not_false, gt_iff_lt, ge_iff_le, Int.not_lt, Int.not_le] at h7)
                refine wl_yes rfl rfl ?_
                refine wl_val (r_move rfl) (ltn rfl) ?_
                refine wl_yes rfl rfl ?_
                refine wl_val (r_index Tryd.underlying22 Tryd.sizeOf21 rfl rfl (by omega)) (ltn rfl) ?_
                refine wl_yes rfl rfl ?_
                refine wl_val (r_load (plain_of Tryd.underlying21 rfl) rfl (by first | exact RdI.at1n (hu _ (H4)) (by omega) | exact RdI.at0 (hu _ (H4)) (by omega) | exact RdI.at1 (hu _ (H4)) (by omega))) (ltn rfl) ?_
                refine wl_yes rfl rfl ?_
                refine wl_eff (e_call (r_call rfl Tryd.func19 rfl rfl) (width_ret H4 hT)) (ltn rfl) ?_
                rintro _ w8 ⟨rfl, H8⟩
                refine wl_yes rfl rfl ?_
                refine wl_val (r_eql rfl rfl) (ltn rfl) ?_
                refine wl_val (r_pick_t rfl rfl) (ltn rfl) ?_
                refine wl_nil ?_
                refine wq_seq ?_
                refine wc_cond rfl (fun h8 => ?_) (fun h8 => ?_)
                · (try simp only [beq_iff_eq, bne_iff_ne, ne_eq, decide_eq_true_eq, decide_eq_false_iff_not, beq_eq_false_iff_ne, bne_eq_false_iff_eq, Bool.not_eq_true', Bool.not_eq_false', Bool.not_eq_eq_eq_not, Bool.not_true, Bool.not_false, gt_iff_lt, ge_iff_le, Int.not_lt, Int.not_le] at h8)
                  
                  refine wc_seq ?_
                  refine wc_region ?_
                  refine wl_val (r_assign rfl) (ltn rfl) ?_
                  refine wl_nil ?_
                  refine wq_seq ?_
                  refine wc_ret ?_
                  refine wq_then_ret ?_
                  refine wq_end1 (.inl rfl) Tryd.results5 rfl ?_
                  exact ⟨rfl, H8.base⟩
                · (try simp only [beq_iff_eq, bne_iff_ne, ne_eq, decide_eq_true_eq, decide_eq_false_iff_not, beq_eq_false_iff_ne, bne_eq_false_iff_eq, Bool.not_eq_true', Bool.not_eq_false', Bool.not_eq_eq_eq_not, Bool.not_true, Bool.not_false, gt_iff_lt, ge_iff_le, Int.not_lt, Int.not_le] at h8)
                  
                  refine wc_skip ?_
                  refine wq_seq ?_
                  refine wc_seq ?_
                  have hown : b = [] ∨ ¬ joinsC (b.getD 0 0) := by first | (left; exact List.eq_nil_of_length_eq_zero (by omega)) | (right; intro hj; unfold joinsC at hj; simp_all)
                  refine wc_region ?_
                  refine wl_val (r_move rfl) (ltn rfl) ?_
                  refine wl_val (r_move rfl) (ltn rfl) ?_
                  refine wl_eff (e_call (r_call rfl Tryd.func16 rfl rfl) (span_ret H8 (by assumption) (fun W HW => hv _ (HW)) (by assumption) (by omega) (by omega))) (ltn rfl) ?_
                  rintro _ w9 ⟨rfl, H9⟩
                  refine wl_val (r_assign rfl) (ltn rfl) ?_
                  refine wl_nil ?_
                  refine wq_seq ?_
                  refine wc_seq ?_
                  refine wc_seq ?_
                  refine wc_region ?_
                  refine wl_val (r_move rfl) (ltn rfl) ?_
                  refine wl_val (r_lss rfl rfl) (ltn rfl) ?_
                  refine wl_split rfl (ltn rfl) (fun h => by exfalso; (try simp only [beq_iff_eq, bne_iff_ne, ne_eq, decide_eq_true_eq, decide_eq_false_iff_not, beq_eq_false_iff_ne, bne_eq_false_iff_eq, Bool.not_eq_true', Bool.not_eq_false', Bool.not_eq_eq_eq_not, Bool.not_true, Bool.not_false, gt_iff_lt, ge_iff_le, Int.not_lt, Int.not_le] at h); omega) (fun h9 => ?_)
                  (try simp only [beq_iff_eq, bne_iff_ne, ne_eq, decide_eq_true_eq, decide_eq_false_iff_not, beq_eq_false_iff_ne, bne_eq_false_iff_eq, Bool.not_eq_true', Bool.not_eq_false', Bool.not_eq_eq_eq_not, Bool.not_true, Bool.not_false, gt_iff_lt, ge_iff_le, Int.not_lt, Int.not_le] at h9)
                  refine wl_yes rfl rfl ?_
                  refine wl_val (r_move rfl) (ltn rfl) ?_
                  refine wl_yes rfl rfl ?_
                  refine wl_val (r_move rfl) (ltn rfl) ?_
                  refine wl_yes rfl rfl ?_
                  refine wl_val (r_lenR (hv _ (H9)) Tryd.underlying22 rfl) (ltn rfl) ?_
                  refine wl_yes rfl rfl ?_
                  refine wl_val (r_mul rfl rfl (by omega)) (ltn rfl) ?_
                  refine wl_yes rfl rfl ?_
                  refine wl_val (r_gtr rfl rfl) (ltn rfl) ?_
                  refine wl_val (r_pick_f rfl rfl) (ltn rfl) ?_
                  refine wl_nil ?_
                  refine wq_seq ?_
                  refine wc_cond rfl (fun h => by exfalso; (try simp only [beq_iff_eq, bne_iff_ne, ne_eq, decide_eq_true_eq, decide_eq_false_iff_not, beq_eq_false_iff_ne, bne_eq_false_iff_eq, Bool.not_eq_true', Bool.not_eq_false', Bool.not_eq_eq_eq_not, Bool.not_true, Bool.not_false, gt_iff_lt, ge_iff_le, Int.not_lt, Int.not_le] at h); omega) (fun h10 => ?_)
                  (try simp only [beq_iff_eq, bne_iff_ne, ne_eq, decide_eq_true_eq, decide_eq_false_iff_not, beq_eq_false_iff_ne, bne_eq_false_iff_eq, Bool.not_eq_true', Bool.not_eq_false', Bool.not_eq_eq_eq_not, Bool.not_true, Bool.not_false, gt_iff_lt, ge_iff_le, Int.not_lt, Int.not_le] at h10)
                  refine wc_skip ?_
                  refine wq_seq ?_
                  refine wc_seq ?_
                  refine wc_region ?_
                  refine wl_eff (e_lit_ints (k := .i32) (l := []) H9 Tryd.underlying22 Tryd.sizeOf21 Tryd.zeroValue21 rfl rfl rfl (by decide)) (ltn rfl) ?_
                  rintro l10 w10 H10
                  refine wl_val (r_move rfl) (ltn rfl) ?_
                  refine wl_eff (e_append_ints H10 (hv _ (H10.right)) Tryd.underlying22 (show (Tryd.prog.info? 21).map (fun i => (i.zero, i.size, i.bytes)) = some (some (.int .i32 0), 1, 4) by kernel_rfl) rfl rfl (by first | omega | (simp only [List.length_append, List.length_nil, List.length_cons]; omega) | (simp; omega)) (by first | omega | (simp only [List.length_append, List.length_nil, List.length_cons]; omega) | (simp; omega))) (ltn rfl) ?_
                  rintro l11 w11 H11
                  try simp only [List.nil_append] at H11
                  refine wl_val (r_move rfl) (ltn rfl) ?_
                  refine wl_eff (e_append_ints H11 (hu _ (H11.right)) Tryd.underlying22 (show (Tryd.prog.info? 21).map (fun i => (i.zero, i.size, i.bytes)) = some (some (.int .i32 0), 1, 4) by kernel_rfl) rfl rfl (by first | omega | (simp only [List.length_append, List.length_nil, List.length_cons]; omega) | (simp; omega)) (by first | omega | (simp only [List.length_append, List.length_nil, List.length_cons]; omega) | (simp; omega))) (ltn rfl) ?_
                  rintro l12 w12 H12
                  try simp only [List.nil_append] at H12
                  refine wl_val (r_move rfl) (ltn rfl) ?_
                  refine wl_eff (e_call (r_call rfl Tryd.func16 rfl rfl) (span_ret H12 (by assumption) (fun W HW => (HW).row_rd) (by assumption) (by omega) (by omega))) (ltn rfl) ?_
                  rintro _ w13 ⟨rfl, H13⟩
                  refine wl_val (r_move rfl) (ltn rfl) ?_
                  refine wl_val (r_move rfl) (ltn rfl) ?_
                  refine wl_val (r_move rfl) (ltn rfl) ?_
                  refine wl_val (r_move rfl) (ltn rfl) ?_
                  refine wl_val (r_add rfl rfl (by omega)) (ltn rfl) ?_
                  refine wl_eff (e_call (r_call rfl Tryd.func16 rfl rfl) (span_ret H13 (by assumption) (fun W HW => hu _ (HW.right)) (by assumption) (by omega) (by omega))) (ltn rfl) ?_
                  rintro _ w14 ⟨rfl, H14⟩
                  refine wl_val (r_add rfl rfl (by omega)) (ltn rfl) ?_
                  refine wl_val (r_known_t (r_eql rfl rfl) (by rw [hsp (by omega) hown]; simp)) (ltn rfl) ?_
                  refine wl_val (r_assign rfl) (ltn rfl) ?_
                  refine wl_nil ?_
                  refine wq_seq ?_
                  refine wc_ret ?_
                  refine wq_end1 (.inl rfl) Tryd.results5 rfl ?_
                  exact ⟨rfl, H14.base⟩
              · (try simp only [beq_iff_eq, bne_iff_ne, ne_eq, decide_eq_true_eq, decide_eq_false_iff_not, beq_eq_false_iff_ne, bne_eq_false_iff_eq, Bool.not_eq_true', Bool.not_eq_false', Bool.not_eq_eq_eq_not, Bool.not_true, Bool.not_false, gt_iff_lt, ge_iff_le, Int.not_lt, Int.not_le] at h7)
                refine wl_no rfl rfl rfl (ltn rfl) ?_
                refine wl_no rfl rfl rfl (ltn rfl) ?_
                refine wl_no rfl rfl rfl (ltn rfl) ?_
                refine wl_no rfl rfl rfl (ltn rfl) ?_
                refine wl_no rfl rfl rfl (ltn rfl) ?_
                refine wl_val (r_pick_f rfl rfl) (ltn rfl) ?_
                refine wl_nil ?_
                refine wq_seq ?_
                refine wc_cond_f rfl ?_
                refine wc_skip ?_
                refine wq_seq ?_
                refine wc_seq ?_
                have hown : b = [] ∨ ¬ joinsC (b.getD 0 0) := by first | (left; exact List.eq_nil_of_length_eq_zero (by omega)) | (right; intro hj; unfold joinsC at hj; simp_all)
                refine wc_region ?_
                refine wl_val (r_move rfl) (ltn rfl) ?_
                refine wl_val (r_move rfl) (ltn rfl) ?_
                refine wl_eff (e_call (r_call rfl Tryd.func16 rfl rfl) (span_ret H4 (by assumption) (fun W HW => hv _ (HW)) (by assumption) (by omega) (by omega))) (ltn rfl) ?_
                rintro _ w15 ⟨rfl, H15⟩
                refine wl_val (r_assign rfl) (ltn rfl) ?_
                refine wl_nil ?_
                refine wq_seq ?_
                refine wc_seq ?_
                refine wc_seq ?_
                refine wc_region ?_
                refine wl_val (r_move rfl) (ltn rfl) ?_
                refine wl_val (r_lss rfl rfl) (ltn rfl) ?_
                refine wl_split rfl (ltn rfl) (fun h => by exfalso; (try simp only [beq_iff_eq, bne_iff_ne, ne_eq, decide_eq_true_eq, decide_eq_false_iff_not, beq_eq_false_iff_ne, bne_eq_false_iff_eq, Bool.not_eq_true', Bool.not_eq_false', Bool.not_eq_eq_eq_not, Bool.not_true, Bool.not_false, gt_iff_lt, ge_iff_le, Int.not_lt, Int.not_le] at h); omega) (fun h11 => ?_)
                (try simp only [beq_iff_eq, bne_iff_ne, ne_eq, decide_eq_true_eq, decide_eq_false_iff_not, beq_eq_false_iff_ne, bne_eq_false_iff_eq, Bool.not_eq_true', Bool.not_eq_false', Bool.not_eq_eq_eq_not, Bool.not_true, Bool.not_false, gt_iff_lt, ge_iff_le, Int.not_lt, Int.not_le] at h11)
                refine wl_yes rfl rfl ?_
                refine wl_val (r_move rfl) (ltn rfl) ?_
                refine wl_yes rfl rfl ?_
                refine wl_val (r_move rfl) (ltn rfl) ?_
                refine wl_yes rfl rfl ?_
                refine wl_val (r_lenR (hv _ (H15)) Tryd.underlying22 rfl) (ltn rfl) ?_
                refine wl_yes rfl rfl ?_
                refine wl_val (r_mul rfl rfl (by omega)) (ltn rfl) ?_
                refine wl_yes rfl rfl ?_
                refine wl_val (r_gtr rfl rfl) (ltn rfl) ?_
                refine wl_val (r_pick_f rfl rfl) (ltn rfl) ?_
                refine wl_nil ?_
                refine wq_seq ?_
                refine wc_cond rfl (fun h => by exfalso; (try simp only [beq_iff_eq, bne_iff_ne, ne_eq, decide_eq_true_eq, decide_eq_false_iff_not, beq_eq_false_iff_ne, bne_eq_false_iff_eq, Bool.not_eq_true', Bool.not_eq_false', Bool.not_eq_eq_eq_not, Bool.not_true, Bool.not_false, gt_iff_lt, ge_iff_le, Int.not_lt, Int.not_le] at h); omega) (fun h12 => ?_)
                (try simp only [beq_iff_eq, bne_iff_ne, ne_eq, decide_eq_true_eq, decide_eq_false_iff_not, beq_eq_false_iff_ne, bne_eq_false_iff_eq, Bool.not_eq_true', Bool.not_eq_false', Bool.not_eq_eq_eq_not, Bool.not_true, Bool.not_false, gt_iff_lt, ge_iff_le, Int.not_lt, Int.not_le] at h12)
                refine wc_skip ?_
                refine wq_seq ?_
                refine wc_seq ?_
                refine wc_region ?_
                refine wl_eff (e_lit_ints (k := .i32) (l := []) H15 Tryd.underlying22 Tryd.sizeOf21 Tryd.zeroValue21 rfl rfl rfl (by decide)) (ltn rfl) ?_
                rintro l16 w16 H16
                refine wl_val (r_move rfl) (ltn rfl) ?_
                refine wl_eff (e_append_ints H16 (hv _ (H16.right)) Tryd.underlying22 (show (Tryd.prog.info? 21).map (fun i => (i.zero, i.size, i.bytes)) = some (some (.int .i32 0), 1, 4) by kernel_rfl) rfl rfl (by first | omega | (simp only [List.length_append, List.length_nil, List.length_cons]; omega) | (simp; omega)) (by first | omega | (simp only [List.length_append, List.length_nil, List.length_cons]; omega) | (simp; omega))) (ltn rfl) ?_
                rintro l17 w17 H17
                try simp only [List.nil_append] at H17
                refine wl_val (r_move rfl) (ltn rfl) ?_
                refine wl_eff (e_append_ints H17 (hu _ (H17.right)) Tryd.underlying22 (show (Tryd.prog.info? 21).map (fun i => (i.zero, i.size, i.bytes)) = some (some (.int .i32 0), 1, 4) by kernel_rfl) rfl rfl (by first | omega | (simp only [List.length_append, List.length_nil, List.length_cons]; omega) | (simp; omega)) (by first | omega | (simp only [List.length_append, List.length_nil, List.length_cons]; omega) | (simp; omega))) (ltn rfl) ?_
                rintro l18 w18 H18
                try simp only [List.nil_append] at H18
                refine wl_val (r_move rfl) (ltn rfl) ?_
                refine wl_eff (e_call (r_call rfl Tryd.func16 rfl rfl) (span_ret H18 (by assumption) (fun W HW => (HW).row_rd) (by assumption) (by omega) (by omega))) (ltn rfl) ?_
                rintro _ w19 ⟨rfl, H19⟩
                refine wl_val (r_move rfl) (ltn rfl) ?_
                refine wl_val (r_move rfl) (ltn rfl) ?_
                refine wl_val (r_move rfl) (ltn rfl) ?_
                refine wl_val (r_move rfl) (ltn rfl) ?_
                refine wl_val (r_add rfl rfl (by omega)) (ltn rfl) ?_
                refine wl_eff (e_call (r_call rfl Tryd.func16 rfl rfl) (span_ret H19 (by assumption) (fun W HW => hu _ (HW.right)) (by assumption) (by omega) (by omega))) (ltn rfl) ?_
                rintro _ w20 ⟨rfl, H20⟩
                refine wl_val (r_add rfl rfl (by omega)) (ltn rfl) ?_
                refine wl_val (r_known_t (r_eql rfl rfl) (by rw [hsp (by omega) hown]; simp)) (ltn rfl) ?_
                refine wl_val (r_assign rfl) (ltn rfl) ?_
                refine wl_nil ?_
                refine wq_seq ?_
                refine wc_ret ?_
                refine wq_end1 (.inl rfl) Tryd.results5 rfl ?_
                exact ⟨rfl, H20.base⟩
            · (try simp only [beq_iff_eq, bne_iff_ne, ne_eq, decide_eq_true_eq, decide_eq_false_iff_not, beq_eq_false_iff_ne, bne_eq_false_iff_eq, Bool.not_eq_true', Bool.not_eq_false', Bool.not_eq_eq_eq_not, Bool.not_true, Bool.not_false, gt_iff_lt, ge_iff_le, Int.not_lt, Int.not_le] at h6)
              refine wl_no rfl rfl rfl (ltn rfl) ?_
              refine wl_no rfl rfl rfl (ltn rfl) ?_
              refine wl_no rfl rfl rfl (ltn rfl) ?_
              refine wl_no rfl rfl rfl (ltn rfl) ?_
              refine wl_val (r_pick_f rfl rfl) (ltn rfl) ?_
              refine wl_val (r_move rfl) (ltn rfl) ?_
              refine wl_no rfl rfl rfl (ltn rfl) ?_
              refine wl_no rfl rfl rfl (ltn rfl) ?_
              refine wl_no rfl rfl rfl (ltn rfl) ?_
              refine wl_no rfl rfl rfl (ltn rfl) ?_
              refine wl_no rfl rfl rfl (ltn rfl) ?_
              refine wl_val (r_pick_f rfl rfl) (ltn rfl) ?_
              refine wl_nil ?_
              refine wq_seq ?_
              refine wc_cond_f rfl ?_
              refine wc_skip ?_
              refine wq_seq ?_
              refine wc_seq ?_
              have hown : b = [] ∨ ¬ joinsC (b.getD 0 0) := by first | (left; exact List.eq_nil_of_length_eq_zero (by omega)) | (right; intro hj; unfold joinsC at hj; simp_all)
              refine wc_region ?_
              refine wl_val (r_move rfl) (ltn rfl) ?_
              refine wl_val (r_move rfl) (ltn rfl) ?_
              refine wl_eff (e_call (r_call rfl Tryd.func16 rfl rfl) (span_ret H4 (by assumption) (fun W HW => hv _ (HW)) (by assumption) (by omega) (by omega))) (ltn rfl) ?_
              rintro _ w21 ⟨rfl, H21⟩
              refine wl_val (r_assign rfl) (ltn rfl) ?_
              refine wl_nil ?_
              refine wq_seq ?_
              refine wc_seq ?_
              refine wc_seq ?_
              refine wc_region ?_
              refine wl_val (r_move rfl) (ltn rfl) ?_
              refine wl_val (r_lss rfl rfl) (ltn rfl) ?_
              refine wl_split rfl (ltn rfl) (fun h => by exfalso; (try simp only [beq_iff_eq, bne_iff_ne, ne_eq, decide_eq_true_eq, decide_eq_false_iff_not, beq_eq_false_iff_ne, bne_eq_false_iff_eq, Bool.not_eq_true', Bool.not_eq_false', Bool.not_eq_eq_eq_not, Bool.not_true, Bool.not_false, gt_iff_lt, ge_iff_le, Int.not_lt, Int.not_le] at h); omega) (fun h13 => ?_)
              (try simp only [beq_iff_eq, bne_iff_ne, ne_eq, decide_eq_true_eq, decide_eq_false_iff_not, beq_eq_false_iff_ne, bne_eq_false_iff_eq, Bool.not_eq_true', Bool.not_eq_false', Bool.not_eq_eq_eq_not, Bool.not_true, Bool.not_false, gt_iff_lt, ge_iff_le, Int.not_lt, Int.not_le] at h13)
              refine wl_yes rfl rfl ?_
              refine wl_val (r_move rfl) (ltn rfl) ?_
              refine wl_yes rfl rfl ?_
              refine wl_val (r_move rfl) (ltn rfl) ?_
              refine wl_yes rfl rfl ?_
              refine wl_val (r_lenR (hv _ (H21)) Tryd.underlying22 rfl) (ltn rfl) ?_
              refine wl_yes rfl rfl ?_
              refine wl_val (r_mul rfl rfl (by omega)) (ltn rfl) ?_
              refine wl_yes rfl rfl ?_
              refine wl_val (r_gtr rfl rfl) (ltn rfl) ?_
              refine wl_val (r_pick_f rfl rfl) (ltn rfl) ?_
              refine wl_nil ?_
              refine wq_seq ?_
              refine wc_cond rfl (fun h => by exfalso; (try simp only [beq_iff_eq, bne_iff_ne, ne_eq, decide_eq_true_eq, decide_eq_false_iff_not, beq_eq_false_iff_ne, bne_eq_false_iff_eq, Bool.not_eq_true', Bool.not_eq_false', Bool.not_eq_eq_eq_not, Bool.not_true, Bool.not_false, gt_iff_lt, ge_iff_le, Int.not_lt, Int.not_le] at h); omega) (fun h14 => ?_)
              (try simp only [beq_iff_eq, bne_iff_ne, ne_eq, decide_eq_true_eq, decide_eq_false_iff_not, beq_eq_false_iff_ne, bne_eq_false_iff_eq, Bool.not_eq_true', Bool.not_eq_false', Bool.not_eq_eq_eq_not, Bool.not_true, Bool.not_false, gt_iff_lt, ge_iff_le, Int.not_lt, Int.not_le] at h14)
              refine wc_skip ?_
              refine wq_seq ?_
              refine wc_seq ?_
              refine wc_region ?_
              refine wl_eff (e_lit_ints (k := .i32) (l := []) H21 Tryd.underlying22 Tryd.sizeOf21 Tryd.zeroValue21 rfl rfl rfl (by decide)) (ltn rfl) ?_
              rintro l22 w22 H22
              refine wl_val (r_move rfl) (ltn rfl) ?_
              refine wl_eff (e_append_ints H22 (hv _ (H22.right)) Tryd.underlying22 (show (Tryd.prog.info? 21).map (fun i => (i.zero, i.size, i.bytes)) = some (some (.int .i32 0), 1, 4) by kernel_rfl) rfl rfl (by first | omega | (simp only [List.length_append, List.length_nil, List.length_cons]; omega) | (simp; omega)) (by first | omega | (simp only [List.length_append, List.length_nil, List.length_cons]; omega) | (simp; omega))) (ltn rfl) ?_
              rintro l23 w23 H23
              try simp only [List.nil_append] at H23
              refine wl_val (r_move rfl) (ltn rfl) ?_
              refine wl_eff (e_append_ints H23 (hu _ (H23.right)) Tryd.underlying22 (show (Tryd.prog.info? 21).map (fun i => (i.zero, i.size, i.bytes)) = some (some (.int .i32 0), 1, 4) by kernel_rfl) rfl rfl (by first | omega | (simp only [List.length_append, List.length_nil, List.length_cons]; omega) | (simp; omega)) (by first | omega | (simp only [List.length_append, List.length_nil, List.length_cons]; omega) | (simp; omega))) (ltn rfl) ?_
              rintro l24 w24 H24
              try simp only [List.nil_append] at H24
              refine wl_val (r_move rfl) (ltn rfl) ?_
              refine wl_eff (e_call (r_call rfl Tryd.func16 rfl rfl) (span_ret H24 (by assumption) (fun W HW => (HW).row_rd) (by assumption) (by omega) (by omega))) (ltn rfl) ?_
              rintro _ w25 ⟨rfl, H25⟩
              refine wl_val (r_move rfl) (ltn rfl) ?_
              refine wl_val (r_move rfl) (ltn rfl) ?_
              refine wl_val (r_move rfl) (ltn rfl) ?_
              refine wl_val (r_move rfl) (ltn rfl) ?_
              refine wl_val (r_add rfl rfl (by omega)) (ltn rfl) ?_
              refine wl_eff (e_call (r_call rfl Tryd.func16 rfl rfl) (span_ret H25 (by assumption) (fun W HW => hu _ (HW.right)) (by assumption) (by omega) (by omega))) (ltn rfl) ?_
              rintro _ w26 ⟨rfl, H26⟩
              refine wl_val (r_add rfl rfl (by omega)) (ltn rfl) ?_
              refine wl_val (r_known_t (r_eql rfl rfl) (by rw [hsp (by omega) hown]; simp)) (ltn rfl) ?_
              refine wl_val (r_assign rfl) (ltn rfl) ?_
              refine wl_nil ?_
              refine wq_seq ?_
              refine wc_ret ?_
              refine wq_end1 (.inl rfl) Tryd.results5 rfl ?_
              exact ⟨rfl, H26.base⟩
          · (try simp only [beq_iff_eq, bne_iff_ne, ne_eq, decide_eq_true_eq, decide_eq_false_iff_not, beq_eq_false_iff_ne, bne_eq_false_iff_eq, Bool.not_eq_true', Bool.not_eq_false', Bool.not_eq_eq_eq_not, Bool.not_true, Bool.not_false, gt_iff_lt, ge_iff_le, Int.not_lt, Int.not_le] at h5)
            refine wl_no rfl rfl rfl (ltn rfl) ?_
            refine wl_no rfl rfl rfl (ltn rfl) ?_
            refine wl_no rfl rfl rfl (ltn rfl) ?_
            refine wl_no rfl rfl rfl (ltn rfl) ?_
            refine wl_no rfl rfl rfl (ltn rfl) ?_
            refine wl_val (r_pick_f rfl rfl) (ltn rfl) ?_
            refine wl_val (r_move rfl) (ltn rfl) ?_
            refine wl_no rfl rfl rfl (ltn rfl) ?_
            refine wl_no rfl rfl rfl (ltn rfl) ?_
            refine wl_no rfl rfl rfl (ltn rfl) ?_
            refine wl_no rfl rfl rfl (ltn rfl) ?_
            refine wl_val (r_pick_f rfl rfl) (ltn rfl) ?_
            refine wl_val (r_move rfl) (ltn rfl) ?_
            refine wl_no rfl rfl rfl (ltn rfl) ?_
            refine wl_no rfl rfl rfl (ltn rfl) ?_
            refine wl_no rfl rfl rfl (ltn rfl) ?_
            refine wl_no rfl rfl rfl (ltn rfl) ?_
            refine wl_no rfl rfl rfl (ltn rfl) ?_
            refine wl_val (r_pick_f rfl rfl) (ltn rfl) ?_
            refine wl_nil ?_
            refine wq_seq ?_
            refine wc_cond_f rfl ?_
            refine wc_skip ?_
            refine wq_seq ?_
            refine wc_seq ?_
            have hown : b = [] ∨ ¬ joinsC (b.getD 0 0) := by first | (left; exact List.eq_nil_of_length_eq_zero (by omega)) | (right; intro hj; unfold joinsC at hj; simp_all)
            refine wc_region ?_
            refine wl_val (r_move rfl) (ltn rfl) ?_
            refine wl_val (r_move rfl) (ltn rfl) ?_
            refine wl_eff (e_call (r_call rfl Tryd.func16 rfl rfl) (span_ret H4 (by assumption) (fun W HW => hv _ (HW)) (by assumption) (by omega) (by omega))) (ltn rfl) ?_
            rintro _ w27 ⟨rfl, H27⟩
            refine wl_val (r_assign rfl) (ltn rfl) ?_
            refine wl_nil ?_
            refine wq_seq ?_
            refine wc_seq ?_
            refine wc_seq ?_
            refine wc_region ?_
            refine wl_val (r_move rfl) (ltn rfl) ?_
            refine wl_val (r_lss rfl rfl) (ltn rfl) ?_
            refine wl_split rfl (ltn rfl) (fun h => by exfalso; (try simp only [beq_iff_eq, bne_iff_ne, ne_eq, decide_eq_true_eq, decide_eq_false_iff_not, beq_eq_false_iff_ne, bne_eq_false_iff_eq, Bool.not_eq_true', Bool.not_eq_false', Bool.not_eq_eq_eq_not, Bool.not_true, Bool.not_false, gt_iff_lt, ge_iff_le, Int.not_lt, Int.not_le] at h); omega) (fun h15 => ?_)
            (try simp only [beq_iff_eq, bne_iff_ne, ne_eq, decide_eq_true_eq, decide_eq_false_iff_not, beq_eq_false_iff_ne, bne_eq_false_iff_eq, Bool.not_eq_true', Bool.not_eq_false', Bool.not_eq_eq_eq_not, Bool.not_true, Bool.not_false, gt_iff_lt, ge_iff_le, Int.not_lt, Int.not_le] at h15)
            refine wl_yes rfl rfl ?_
            refine wl_val (r_move rfl) (ltn rfl) ?_
            refine wl_yes rfl rfl ?_
            refine wl_val (r_move rfl) (ltn rfl) ?_
            refine wl_yes rfl rfl ?_
            refine wl_val (r_lenR (hv _ (H27)) Tryd.underlying22 rfl) (ltn rfl) ?_
            refine wl_yes rfl rfl ?_
            refine wl_val (r_mul rfl rfl (by omega)) (ltn rfl) ?_
            refine wl_yes rfl rfl ?_
            refine wl_val (r_gtr rfl rfl) (ltn rfl) ?_
            refine wl_val (r_pick_f rfl rfl) (ltn rfl) ?_
            refine wl_nil ?_
            refine wq_seq ?_
            refine wc_cond rfl (fun h => by exfalso; (try simp only [beq_iff_eq, bne_iff_ne, ne_eq, decide_eq_true_eq, decide_eq_false_iff_not, beq_eq_false_iff_ne, bne_eq_false_iff_eq, Bool.not_eq_true', Bool.not_eq_false', Bool.not_eq_eq_eq_not, Bool.not_true, Bool.not_false, gt_iff_lt, ge_iff_le, Int.not_lt, Int.not_le] at h); omega) (fun h16 => ?_)
            (try simp only [beq_iff_eq, bne_iff_ne, ne_eq, decide_eq_true_eq, decide_eq_false_iff_not, beq_eq_false_iff_ne, bne_eq_false_iff_eq, Bool.not_eq_true', Bool.not_eq_false', Bool.not_eq_eq_eq_not, Bool.not_true, Bool.not_false, gt_iff_lt, ge_iff_le, Int.not_lt, Int.not_le] at h16)
            refine wc_skip ?_
            refine wq_seq ?_
            refine wc_seq ?_
            refine wc_region ?_
            refine wl_eff (e_lit_ints (k := .i32) (l := []) H27 Tryd.underlying22 Tryd.sizeOf21 Tryd.zeroValue21 rfl rfl rfl (by decide)) (ltn rfl) ?_
            rintro l28 w28 H28
            refine wl_val (r_move rfl) (ltn rfl) ?_
            refine wl_eff (e_append_ints H28 (hv _ (H28.right)) Tryd.underlying22 (show (Tryd.prog.info? 21).map (fun i => (i.zero, i.size, i.bytes)) = some (some (.int .i32 0), 1, 4) by kernel_rfl) rfl rfl (by first | omega | (simp only [List.length_append, List.length_nil, List.length_cons]; omega) | (simp; omega)) (by first | omega | (simp only [List.length_append, List.length_nil, List.length_cons]; omega) | (simp; omega))) (ltn rfl) ?_
            rintro l29 w29 H29
            try simp only [List.nil_append] at H29
            refine wl_val (r_move rfl) (ltn rfl) ?_
            refine wl_eff (e_append_ints H29 (hu _ (H29.right)) Tryd.underlying22 (show (Tryd.prog.info? 21).map (fun i => (i.zero, i.size, i.bytes)) = some (some (.int .i32 0), 1, 4) by kernel_rfl) rfl rfl (by first | omega | (simp only [List.length_append, List.length_nil, List.length_cons]; omega) | (simp; omega)) (by first | omega | (simp only [List.length_append, List.length_nil, List.length_cons]; omega) | (simp; omega))) (ltn rfl) ?_
            rintro l30 w30 H30
            try simp only [List.nil_append] at H30
            refine wl_val (r_move rfl) (ltn rfl) ?_
            refine wl_eff (e_call (r_call rfl Tryd.func16 rfl rfl) (span_ret H30 (by assumption) (fun W HW => (HW).row_rd) (by assumption) (by omega) (by omega))) (ltn rfl) ?_
            rintro _ w31 ⟨rfl, H31⟩
            refine wl_val (r_move rfl) (ltn rfl) ?_
            refine wl_val (r_move rfl) (ltn rfl) ?_
            refine wl_val (r_move rfl) (ltn rfl) ?_
            refine wl_val (r_move rfl) (ltn rfl) ?_
            refine wl_val (r_add rfl rfl (by omega)) (ltn rfl) ?_
            refine wl_eff (e_call (r_call rfl Tryd.func16 rfl rfl) (span_ret H31 (by assumption) (fun W HW => hu _ (HW.right)) (by assumption) (by omega) (by omega))) (ltn rfl) ?_
            rintro _ w32 ⟨rfl, H32⟩
            refine wl_val (r_add rfl rfl (by omega)) (ltn rfl) ?_
            refine wl_val (r_known_t (r_eql rfl rfl) (by rw [hsp (by omega) hown]; simp)) (ltn rfl) ?_
            refine wl_val (r_assign rfl) (ltn rfl) ?_
            refine wl_nil ?_
            refine wq_seq ?_
            refine wc_ret ?_
            refine wq_end1 (.inl rfl) Tryd.results5 rfl ?_
            exact ⟨rfl, H32.base⟩
end Go.Proofs.YtmkmffoadapmnaaDoor
